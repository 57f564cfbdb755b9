
import Derived.Test.YtkoioidpbbbaiaaJv1
import Derived.RangeFuncRecord
import Derived.MapKept
import Derived.RangeFuncLeaves
import Derived.RangeFuncCalls
import Derived.RangeFuncNested
import Derived.TacticsIn
set_option linter.unusedSimpArgs false
set_option linter.unusedVariables false
set_option linter.unusedSectionVars false

open Array renaming getD_eq_getD_getElem?→su,getElem?_eq_getElem→sr,getElem?_eq_some_iff→sJ,getElem?_map→ue,getElem?_toList→uh,length_toList→sY,mapM_eq_mapM_toList→vp,mem_of_getElem?→uw,toArray_toList→tF,toList_map→ux,toList_setIfInBounds→vt
open Bool renaming and_eq_true→sn,false_eq_true→tR,or_eq_true→tt
open List renaming all_eq_true→sq,append_assoc→sx,append_nil→sM,ext_getElem?→uy,getD_eq_getElem?_getD→sw,getElem?_append_left→sg,getElem?_append_right→ss,getElem?_cons_succ→ug,getElem?_cons_zero→tG,getElem?_drop→sQ,getElem?_eq_getElem→si,getElem?_eq_none→uQ,getElem?_eq_some_iff→sa,getElem?_map→sm,getElem?_set_ne→sd,getElem?_set_self→sk,getElem?_take→sI,getElem?_toArray→vn,getElem?_zip_eq_some→uP,length_drop→tz,length_eq_zero_iff→sO,length_map→sX,length_take→sZ,map_drop→tH,map_fst_zip→uO,map_set→tI,map_take→tT,mem_cons→sA,mem_cons_of_mem→tU,mem_iff_getElem?→sW,mem_map→sC,mem_of_getElem?→sv,nil_append→tP,set_set→sV,take_of_length_le→tg
open Nat renaming le_refl→sc,le_trans→sT,lt_of_lt_of_le→ud,lt_or_ge→sL,mul_le_mul_right→s_,zero_add→sB
open Option renaming bind_eq_some_iff→sf,bind_some→sb,getD_some→uq,isSome_iff_exists→tb,map_eq_some_iff→r_,map_some→se
namespace Go.Proofs.Ytkoioidpbbbaiaa.Ab
open Go
section
variable {P:Program} {B:Nat} {J:List Nat} {w:World} {H:List ar} {aa:Nat→Option aH} {S:Nat→Nat→Prop}
theorem x' {α β:Type} (g:α→Sem β) (h:α→β):∀ (l:List α),(∀ x∈l,∀ w,(g x).run P w=.ok (h x) w)→∀ w,(l.mapM g).run P w=.ok (l.map h) w
 | [],_,w=>by simp
 | x::l,aj,w=>by
   rw [List.mapM_cons];simp [aj x (by simp),x' g h l (fun y aY=>aj y (by simp [aY]))]
theorem FN {t:TypeId} {parts:List (Nat×I)} {parts':Array (Nat×Value)} {r:I} (h:lL P t parts=some r) (hi:parts.map (·.1)=parts'.toList.map (·.1))
  (b2:∀ (j:Nat) (x:Nat×I) (y:Nat×Value),parts[j]?=some x→parts'.toList[j]?=some y→x.2.plain=true∧Rel J S w x.2 y.2) :
  ∃ v,(Instr.build t parts').run P w=.ok v w∧Rel J S w r v∧r.plain=true:=by
 have fin:∀ {c_:List I} {cY:Array Value},c5 J S w c_ cY.toList→Rel J S w (.agg c_) (.agg cY):=fun {c_ cY} h =>
  .agg _ _ (by simpa using h.len.symm) (fun u hu=>by
   obtain ⟨j,aw⟩:=sW.1 hu;have aR:=(sa.1 aw).1;exact (h.rel j u _ aw (si (h.len ▸ aR))).1) (fun v ad=>by
   obtain ⟨j,aw⟩:=sW.1 ad;have aR:=(sa.1 aw).1
   exact (h.rel j _ v (si (h.len ▸ aR)) aw).2.1) (fun j u v hu ad=>(h.rel j u v hu (by simpa using ad)).2.2)
 unfold lL at h;split at h
 ·rename_i z fs bk a1;obtain ⟨i,dh,hi',dZ,fg⟩:=hD (J:=J) (S:=S) (w:=w) bk;split at h
  ·rename_i c1;simp only [r_] at h;obtain ⟨c_,aP,rfl⟩:=h;obtain ⟨cY,ab,ae⟩:=kD parts parts'.toList z c_ dh.cells hi b2 aP fg;have me:∀ f∈fs.toList,∃ s,bF P f.type=some s:=fun f aP=>by
    have:=sq.1 c1 f aP;exact tb.1 this
   have hm:=x' (P:=P) (fun f:Field=>Prod.mk f.offset <$> sizeOf f.type) (fun f:Field=>(f.offset,(bF P f.type).getD 0)) fs.toList (fun f aP w=>by
    obtain ⟨s,ah⟩:=me f aP;simp [run_sizeOf ah,ah]) w
   have hk:(fun (i:Nat)=>(fs.map (fun f:Field=>(f.offset,(bF P f.type).getD 0)))[i]?)=(fun (i:Nat)=>(fs[i]?).bind fun f:Field=>(bF P f.type).map fun s=>(f.offset,s)):=by
    funext i;rw [ue];cases pD:fs[i]? with
    | none=>rfl
    | some f =>
      obtain ⟨s,ah⟩:=me f (by simpa using uw pD);simp [ah]
   refine ⟨.agg cY,?_,fin ae,rfl⟩;rw [←hk] at ab;simp only [ue] at ab;simp [Instr.build,jl hi' dZ,run_underlying a1,vp,hm,ab]
  ·simp at h
 ·rename_i z n e bk a1;obtain ⟨i,dh,hi',dZ,fg⟩:=hD (J:=J) (S:=S) (w:=w) bk;simp only [sf,r_] at h;obtain ⟨s,ah,c_,aP,rfl⟩:=h;obtain ⟨cY,ab,ae⟩:=kD parts parts'.toList z c_ dh.cells hi b2 aP fg;refine ⟨.agg cY,?_,fin ae,rfl⟩;simp [Instr.build,jl hi' dZ,run_underlying a1,run_sizeOf ah,ab]
 ·simp at h
theorem yP {place:Nat→Option (Nat×Nat)}:∀ (p q:List (Nat×Value)) (vs:Array Value),Instr.fill place vs (p++q)=(Instr.fill place vs p).bind fun cY=>Instr.fill place cY q
 | [],q,vs=>by simp [Instr.fill]
 | (i,v)::p,q,vs=>by
   simp only [List.cons_append,Instr.fill];split
   ·rfl
   ·split
    ·rfl
    ·exact yP p q _
theorem yQ {place:Nat→Option (Nat×Nat)} {off:Nat}:∀ (parts:List (Nat×Value)) (vs cY:Array Value),(∀ x∈parts,∃ o s,place x.1=some (o,s)∧(off<o∨o+s≤off)) →
  Instr.fill place vs parts=some cY→cY[off]?=vs[off]?
 | [],vs,cY,_,h=>by simp [Instr.fill] at h;rw [h]
 | (i,v)::r,vs,cY,aB,h=>by
   obtain ⟨o,s,ab,ae⟩:=aB (i,v) (by simp);simp only [Instr.fill,ab] at h;split at h
   ·simp at h
   ·rename_i ak;simp at ak;rw [yQ r _ cY (fun x aj=>aB x (by simp [aj])) h];have aO:=pe o v.cells.toList 0 vs off (by simp;omega);rw [if_neg (by simp;omega)] at aO;rw [←Array.foldl_toList,Array.toList_zipIdx];exact aO
theorem z':∀ (parts pre:List (Nat×I)) {lr:List (Nat×I)} {i:Nat} {c:List I} {n s:Nat} {post:List (Nat×I)},jf pre parts=some (lr,i,c,n,s,post) →
  ∃ k,(k=.own s∨k=.uniq s)∧pre++parts=lr++(i,.av c n k)::post
 | [],pre,_,_,_,_,_,_,h=>by simp [jf] at h
 | x::r,pre,_,_,_,_,_,_,h=>by
   unfold jf at h;split at h
   ·simp at *
   ·rename_i e;cases e;cases h;exact ⟨_,.inl rfl,rfl⟩
   ·rename_i e;cases e;cases h;exact ⟨_,.inr rfl,rfl⟩
   ·rename_i e;cases e;obtain ⟨k,al,e⟩:=z' r _ h;exact ⟨k,al,by rw [←e];simp⟩
theorem FO (ag:aK B aa J S w H) {t:TypeId} {parts:List (Nat×I)} {parts':Array (Nat×Value)} {r:I} (h:ks P t parts=some r) (hi:parts.map (·.1)=parts'.toList.map (·.1))
  (b2:∀ (j:Nat) (x:Nat×I) (y:Nat×Value),parts[j]?=some x→parts'.toList[j]?=some y→Rel J S w x.2 y.2∧aU aa J S w (.arg j) x.2 y.2) :
  ∃ v,(Instr.build t parts').run P w=.ok v w∧aZ B aa J S w H r v w:=by
 unfold ks at h;split at h
 ·rename_i z fs pre i c n s post bk a1 aC;split at h
  ·rename_i off c1 hk;split at h
   ·rename_i mi;simp only [sn,sq] at mi;obtain ⟨⟨ih,kR⟩,w6⟩:=mi;simp only [sf] at h;obtain ⟨eR,CW,h⟩:=h;split at h
    ·rename_i aR;simp only [r_] at h;obtain ⟨ed,pC,rfl⟩:=h;obtain ⟨k,al,zi⟩:=z' parts [] aC;rw [tP] at zi;subst zi;rw [List.map_append,List.map_cons] at hi;obtain ⟨lr,rest,fN,j0,Dp⟩:=List.map_eq_append_iff.1 hi.symm;obtain ⟨⟨j3,y⟩,Af,rfl,zg,zh⟩:=List.map_eq_cons_iff.1 Dp;simp only at zg;subst zg;(have hlen:lr.length=pre.length:=by rw [←sX (f:=(·.1)),j0,sX]);obtain ⟨ai,aq⟩:=b2 pre.length (j3,.av c n k) (j3,y) (by simp) (by rw [fN,←hlen];simp);simp only at ai aq;(obtain ⟨a,j4,eo,rfl⟩:∃ a j4 eo,y=.slice a j4 eo:=by cases ai <;> exact ⟨_,_,_,rfl⟩);obtain ⟨S',aJ,aN,b9,_,_,CG⟩:=o7 (u:=.av c n k) (vc:=[.av c n k]) ag (l:=.arg pre.length) (by simp) (by simp) rfl ai aq;(have eH:(I.av c n k).settle=.av c n (.own s):=by rcases al with rfl | rfl <;> rfl);obtain ⟨_,nT,jX⟩:=CG 0 (.av c n (.own s)) (.slice a j4 eo) (by simp [eH]) rfl;have jX:aU aa J S' w (.arg pre.length) (.av c n (.own s)) (.slice a j4 eo):=by
      rcases jX with h | ⟨_,_,h⟩
      ·simp [I.plain] at h
      ·exact h
     have nR:∀ {u:I} {v:Value},Rel J S w u v→Rel J S' w u v:=fun h=>h.mono (Ext.refl J) fun b o ah=>⟨aJ b o ah,rfl⟩;obtain ⟨i0,dh,hi',dZ,fg⟩:=hD (J:=J) (S:=S') (w:=w) bk
     obtain ⟨yk,cf,a7⟩:=kD (J:=J) (S:=S') (w:=w) pre lr z eR dh.cells j0.symm (fun j x y aj aY=>by
      have mq:=(sa.1 aj).1
      exact ⟨ih x (sv aj),nR (b2 j x y (by rw [sg mq];exact aj) (by rw [fN,sg (by omega)];exact aY)).1⟩) CW fg
     have DK:yk.size=eR.length:=by have:=a7.len;simpa using this.symm
     have B9:c5 J S' w (eR.set off .a0) (yk.setIfInBounds off (.slice a j4 eo)).toList:=⟨by simp [DK],fun j u v hu ad=>by
      rw [List.getElem?_set] at hu;rw [uh,Array.getElem?_setIfInBounds] at ad;by_cases e:off=j
      ·subst e;rw [if_pos rfl,if_pos aR] at hu;rw [if_pos rfl,if_pos (by omega)] at ad;cases hu;cases ad;exact ⟨rfl,rfl,.a0 _⟩
      ·rw [if_neg e] at hu;rw [if_neg e] at ad
       exact a7.rel j u v hu (by simpa using ad)⟩
     obtain ⟨eY,ca,a9⟩:=kD (J:=J) (S:=S') (w:=w) post Af (eR.set off .a0) ed (yk.setIfInBounds off (.slice a j4 eo)) zh.symm (fun j x y aj aY=>by
      exact ⟨kR x (sv aj),nR (b2 (pre.length+1+j) x y (by rw [ss (by omega),show pre.length+1+j-pre.length=j+1 by omega,ug];exact aj)
       (by rw [fN,ss (by omega),show pre.length+1+j-lr.length=j+1 by omega,ug];exact aY)).1⟩) pC B9
     have jT:eY[off]?=some (.slice a j4 eo):=by
      rw [yQ Af _ eY (fun x aj=>by
       have:x.1∈post.map (·.1):=by rw [←zh];exact List.mem_map_of_mem aj
       obtain ⟨q,a',e⟩:=sC.1 this;have a':=w6 q a';rw [e] at a';split at a'
       ·rename_i o aD he;exact ⟨o,aD,he,of_decide_eq_true a'⟩
       ·cases a') ca,Array.getElem?_setIfInBounds,if_pos rfl,if_pos (by omega)]
     (have G4:eY.size=ed.length:=by have:=a9.len;simpa using this.symm);have G1:off<eY.size:=(sJ.1 jT).1;have pE:Instr.fill (fun (i:Nat)=>(fs[i]?).bind fun f:Field=>(bF P f.type).map fun s=>(f.offset,s)) dh.cells parts'.toList=some eY:=by
      rw [fN,yP,cf,sb];simp only [Instr.fill,hk];rw [if_neg (by simp [Value.cells];omega)];simpa [Value.cells] using ca
     have me:∀ f∈fs.toList,∃ s,bF P f.type=some s:=fun f aP=>by
      have:=sq.1 c1 f aP;exact tb.1 this
     have hm:=x' (P:=P) (fun f:Field=>Prod.mk f.offset <$> sizeOf f.type) (fun f:Field=>(f.offset,(bF P f.type).getD 0)) fs.toList (fun f aP w=>by
      obtain ⟨s,ah⟩:=me f aP;simp [run_sizeOf ah,ah]) w
     have Dq:(fun (i:Nat)=>(fs.map (fun f:Field=>(f.offset,(bF P f.type).getD 0)))[i]?)=(fun (i:Nat)=>(fs[i]?).bind fun f:Field=>(bF P f.type).map fun s=>(f.offset,s)):=by
      funext i;rw [ue];cases pD:fs[i]? with
      | none=>rfl
      | some f =>
        obtain ⟨s,ah⟩:=me f (by simpa using uw pD);simp [ah]
     refine ⟨.agg eY,?_,?_⟩
     ·rw [←Dq] at pE;simp only [ue] at pE;simp [Instr.build,jl hi' dZ,run_underlying a1,vp,hm,pE]
     ·(have nX:(ed.take off).length=off:=by rw [sZ];omega);have R:Rel J S' w (.c3 (ed.take off) c n s (ed.drop (off+1))) (.agg eY):=by
       refine .c3 _ _ _ _ _ eY (by rw [nX,tz];omega) (fun u hu=>?_) (fun u hu=>?_) (fun v ad=>?_) (fun j u v hu ad=>?_) (fun v ad=>?_) (fun j u v hu ad=>?_)
       ·obtain ⟨j,aw⟩:=sW.1 hu;rw [sI] at aw;split at aw
        ·have aR:=(sa.1 aw).1;exact (a9.rel j u _ aw (si (a9.len ▸ aR))).1
        ·cases aw
       ·obtain ⟨j,aw⟩:=sW.1 hu;rw [sQ] at aw;have aR:=(sa.1 aw).1;exact (a9.rel _ u _ aw (si (a9.len ▸ aR))).1
       ·obtain ⟨j,aw⟩:=sW.1 ad;have aR:=(sa.1 aw).1;exact (a9.rel j _ v (si (by rw [a9.len];exact aR)) aw).2.1
       ·rw [sI] at hu;split at hu
        ·exact (a9.rel j u v hu (by simpa using ad)).2.2
        ·cases hu
       ·rw [nX,jT] at ad;cases ad;exact nT
       ·rw [nX] at ad;rw [sQ] at hu;exact (a9.rel _ u v hu (by simpa using ad)).2.2
      have O:aU aa J S' w (.arg pre.length) (.c3 (ed.take off) c n s (ed.drop (off+1))) (.agg eY):=by
       show ∀ v,eY[(ed.take off).length]?=some v→gD aa S' w (.arg pre.length) c n s v;intro v ad;rw [nX,jT] at ad;cases ad;exact gD.of jX
      obtain ⟨ay,bV,BK,e1,b',dB,l3,l4⟩:=hS b9 (l:=.arg pre.length) (by simp) (by simp) R O;exact ⟨ay,bV,BK,e1,(bl.settle aJ (fun b o h=>(aN b o h).imp id fun h=>⟨_,h⟩)).trans b',dB,l3,l4⟩
    ·simp at h
   ·simp at h
  ·simp at h
 ·simp at h
theorem Be (ag:aK B aa J S w H) {t:TypeId} {len:Nat} {parts:List (Nat×I)} {parts':Array (Nat×Value)} {cs:List I} {s:Nat} (h:iJ P t len parts=some (cs,s))
  (hi:parts.map (·.1)=parts'.toList.map (·.1))
  (b2:∀ (j:Nat) (x:Nat×I) (y:Nat×Value),parts[j]?=some x→parts'.toList[j]?=some y→x.2.plain=true∧Rel J S w x.2 y.2) :
  ∃ b w',(Instr.buildSlice t len parts').run P w=.ok (.slice (some ⟨b,0,none⟩) len len) w'∧aZ B aa J S w H (.av cs len (.uniq s)) (.slice (some ⟨b,0,none⟩) len len) w':=by
 unfold iJ at h;split at h
 ·rename_i e a1;split at h
  ·rename_i aD z ah bk;split at h
   ·rename_i ak;obtain ⟨ab,ae,aF⟩:=ak;simp only [r_,Prod.mk.injEq] at h;obtain ⟨c_,aP,rfl,rfl⟩:=h;obtain ⟨i,dh,hi',dZ,fg⟩:=hD (J:=J) (S:=S) (w:=w) bk;have fP:=ni fg (by omega) len;(have kY:z.length=dh.cells.size:=by simpa using fg.len);obtain ⟨cY,q1,aW⟩:=kD parts parts'.toList (e_ len z) c_ ((Array.range (len*z.length)).map (fun i=>dh.cells[i % dh.cells.size]!)) hi b2 aP fP;have pF:∀ (place:Nat→Option (Nat×Nat)) (parts:List (Nat×I)) (a b:List I),fC place a parts=some b→b.length=a.length:=by
     intro place parts
     induction parts with
     | nil=>intro a b h;simp [fC] at h;rw [h]
     | cons x parts a8 =>
       intro a b h;obtain ⟨i,u⟩:=x;simp only [fC] at h;split at h
       ·split at h
        ·split at h
         ·rw [a8 _ _ h,lx]
         ·simp at h
        ·simp at h
       ·simp at h
    have cH:c_.length=len*aD:=by rw [pF _ _ _ _ aP,iy,ae]
    have iY:=ob ag aW [] e len len aD ab cH (sc _) (by
     have:len≤len*aD:=Nat.le_mul_of_pos_right _ ab
     simp only [maxLen];omega) (by rw [←aW.len,cH];simp)
    refine ⟨_,_,?_,iY⟩;simp only [sM,tF];rw [ae] at q1;(have mh:¬ (16777216<len*aD):=by omega);by_cases aQ:len*aD=0
    ·obtain rfl:len=0:=by
      rcases Nat.mul_eq_zero.1 aQ with h | h
      ·exact h
      ·omega
     (have EO:Instr.fill (fun i=>some (i*aD,aD)) #[] parts'.toList=some cY:=by simpa [show Array.range 0=#[] from rfl] using q1);simp [Instr.buildSlice,run_underlying a1,run_sizeOf ah,show Array.range 0=#[] from rfl,EO,newRow,newObj,Sem.run,World.alloc_eq]
    ·simp [Instr.buildSlice,run_underlying a1,run_sizeOf ah,aQ,mh,jl hi' dZ,q1,newRow,newObj,Sem.run,World.alloc_eq]
   ·simp at h
  ·simp at h
 ·simp at h
end
end Go.Proofs.Ytkoioidpbbbaiaa.Ab


namespace Go.Proofs.Ytkoioidpbbbaiaa.Ab
open Go
section
variable {P:Program} {B:Nat} {J:List Nat} {w:World} {H:List ar} {aa:Nat→Option aH} {S:Nat→Nat→Prop}
def eD (P:Program) (aV:Operand→Value) (o:Oper) (w:World) (R:Value→World→Prop):Prop :=
 (∃ v w',(Go.execOp aV o).run P w=.ok (.value v) w'∧R v w')∨(∃ w',(Go.execOp aV o).run P w=.ok .skip w'∧R undef w')
theorem eD.makes {aV:Operand→Value} {o:Oper} {r:I} (ag:aK B aa J S w H) (h:fb P o aV J S w r) (aB:r.plain=true):eD P aV o w (aZ B aa J S w H r):=by
 obtain ⟨v,ab,ae⟩:=h;exact .inl ⟨v,w,ab,aZ.same ag ae aB⟩
theorem a5.one {bA:Nat→aH} {us:List I} {aV:Operand→Value} {x:Operand} (h:a5 bA aa J S w us ([x].map aV)):∃ u,us=[u]∧Rel J S w u (aV x)∧aU aa J S w (bA 0) u (aV x):=by
 match us,h with
 | [u],h=>exact ⟨u,rfl,h.rel 0 u _ rfl rfl,h.own 0 u _ rfl rfl⟩
 | [],h=>exact absurd h.len (by simp)
 | _::_::_,h=>exact absurd h.len (by simp)
theorem a5.two {bA:Nat→aH} {us:List I} {aV:Operand→Value} {x y:Operand} (h:a5 bA aa J S w us ([x,y].map aV)) :
  ∃ u v,us=[u,v]∧Rel J S w u (aV x)∧aU aa J S w (bA 0) u (aV x)∧Rel J S w v (aV y)∧aU aa J S w (bA 1) v (aV y):=by
 match us,h with
 | [u,v],h=>exact ⟨u,v,rfl,h.rel 0 u _ rfl rfl,h.own 0 u _ rfl rfl,h.rel 1 v _ rfl rfl,h.own 1 v _ rfl rfl⟩
 | [],h=>exact absurd h.len (by simp)
 | [_],h=>exact absurd h.len (by simp)
 | _::_::_::_,h=>exact absurd h.len (by simp)
theorem BO {op:BinOp} {k:IntKind} {a b:Int} {r:I} (h:jB op k a b=some r):r.plain=true:=by
 cases op <;> simp [jB] at h <;> first | (subst h;rfl) | (obtain ⟨_,rfl⟩:=h;rfl)
theorem BQ {op:BinOp} {t:TypeId} {x y r:I} (h:fo P op t x y=some r):r.plain=true:=by
 unfold fo at h;split at h
 ·split at h
  ·unfold hG at h;split at h <;> simp at h;subst h;rfl
  ·unfold hG at h;split at h <;> simp at h;subst h;rfl
  ·split at h
   ·exact BO h
   ·simp at h
 ·split at h <;> simp at h <;> subst h <;> rfl
 ·split at h
  ·split at h
   ·split at h
    ·split at h
     ·simp only [r_] at h;obtain ⟨_,_,rfl⟩:=h;rfl
     ·simp only [r_] at h;obtain ⟨_,_,rfl⟩:=h;rfl
     ·simp at h
    ·simp at h
   ·simp at h
  ·split at h
   ·split at h
    ·simp only [r_] at h;obtain ⟨_,_,rfl⟩:=h;rfl
    ·simp only [r_] at h;obtain ⟨_,_,rfl⟩:=h;rfl
    ·simp at h
   ·simp at h
  ·simp at h
 ·simp at h
theorem BS {t:TypeId} {x y r:I} (h:h4 P t x y=some r):r.plain=true:=by
 unfold h4 at h;split at h <;> simp only [sf,r_,reduceCtorEq] at h <;> (try (obtain ⟨_,_,_,_,rfl⟩:=h;rfl))
theorem BR {t:TypeId} {x r:I} {f:Nat} (h:jC P t x f=some r):r.plain=true:=by
 unfold jC at h;split at h <;> simp only [sf,reduceCtorEq] at h <;> (try (obtain ⟨_,_,_,_,h⟩:=h;split at h <;> simp at h;subst h;rfl))
theorem xE {o:Oper} (h:∀ c,o.op≠.call c):opsOf o=o.op.operands.toList:=by
 unfold opsOf;split
 ·rename_i heq;exact absurd heq (h _)
 ·rename_i heq;exact absurd heq (h _)
 ·rfl
theorem F8 {aV:Operand→Value} (eW:∀ v,aV (.const v)=v) {o:Oper} {us:List I} {r:I} (ag:aK B aa J S w H) (h:cB P o us=some r) {mode:Nat} (c2:dF o mode=false)
  (aB:∀ u∈us,u.plain=true) (ad:a5 (fun i=>.arg i) aa J S w us ((opsOf o).map aV)):eD P aV o w (aZ B aa J S w H r):=by
 cases aC:o.op <;> simp only [cB,aC,reduceCtorEq] at h <;> rw [xE (by simp [aC])] at ad <;> (try (simp [dF,aC] at c2;done))
 case pick c a b =>
  replace ad:a5 (fun i=>.arg i) aa J S w us ([c,a,b].map aV):=by simpa [aC,Op.operands] using ad
  unfold xD at h;split at h
  ·rename_i x fA gv;have aS:=ad.rel 0 _ _ rfl rfl;have bj:=ad.rel 1 _ _ rfl rfl;have eK:=ad.rel 2 _ _ rfl rfl;cases x
   ·cases h;exact eD.makes ag (zU aC aS bj eK) (aB gv (by simp))
   ·cases h;exact eD.makes ag (zU aC aS bj eK) (aB fA (by simp))
  ·simp at h
 case build t parts =>
  have ad:a5 (fun i=>.arg i) aa J S w us ((parts.toList.map (·.2)).map aV):=by simpa [aC,Op.operands] using ad
  have hlen:us.length=parts.toList.length:=by simpa using ad.len
  obtain ⟨v,q1,aW,cF⟩:=FN (J:=J) (S:=S) (w:=w) (parts':=parts.map fun (x:Nat×Operand)=>(x.1,aV x.2)) h (by simp [eN,uO,hlen]) (fun j x y aj aY=>by
   simp only [eN,uP] at aj;obtain ⟨xg,hp⟩:=aj;simp only [ux,sm,r_] at aY;obtain ⟨p,fN,rfl⟩:=aY
   exact ⟨aB _ (sv hp),ad.rel j _ _ hp (by simp only [sm,fN,se])⟩)
  exact .inl ⟨v,w,by simp [Go.execOp,aC,q1],aZ.same ag aW cF⟩
 case buildSlice t len parts =>
  have ad:a5 (fun i=>.arg i) aa J S w us ((parts.toList.map (·.2)).map aV):=by simpa [aC,Op.operands] using ad
  have hlen:us.length=parts.toList.length:=by simpa using ad.len
  simp only [r_] at h;obtain ⟨⟨cs,s⟩,h,rfl⟩:=h
  obtain ⟨_,w',q1,aW⟩:=Be (parts':=parts.map fun (x:Nat×Operand)=>(x.1,aV x.2)) ag h (by simp [eN,uO,hlen]) (fun j x y aj aY=>by
   simp only [eN,uP] at aj;obtain ⟨xg,hp⟩:=aj;simp only [ux,sm,r_] at aY;obtain ⟨p,fN,rfl⟩:=aY
   exact ⟨aB _ (sv hp),ad.rel j _ _ hp (by simp only [sm,fN,se])⟩)
  exact .inl ⟨_,w',by simp [Go.execOp,aC,q1],aW⟩
 case nilCheck x =>
  obtain ⟨u,rfl,aS,_⟩:=a5.one (x:=x) (by simpa [aC,Op.operands] using ad);unfold oi at h;split at h
  ·rename_i id off heq;simp at heq;subst heq;cases h;exact eD.makes ag (Em aC aS) rfl
  ·rename_i cells heq;simp at heq;subst heq;cases h;exact eD.makes ag (En aC aS) rfl
  ·simp at h
 case unOp op t x =>
  obtain ⟨u,rfl,aS,_⟩:=a5.one (x:=x) (by simpa [aC,Op.operands] using ad);simp only [e9] at h;refine eD.makes ag (Eo aC h aS) ?_;unfold kt at h;split at h <;> (try split at h) <;> simp at h <;> subst h <;> rfl
 case convert s d x =>
  obtain ⟨u,rfl,aS,_⟩:=a5.one (x:=x) (by simpa [aC,Op.operands] using ad);simp only [e9] at h;refine eD.makes ag (Ee aC h aS) ?_;unfold lM at h;split at h
  ·split at h
   ·simp at h;subst h;rfl
   ·simp at h
  ·simp at h
 case makeFunc fn first captured =>
  refine eD.makes ag (Ej aC h (by simpa [aC,Op.operands] using ad) aB) ?_;unfold m0 at h;split at h
  ·split at h <;> simp at h;subst h;rfl
  ·simp at h
 case fieldAddr t x f =>
  obtain ⟨u,rfl,aS,_⟩:=a5.one (x:=x) (by simpa [aC,Op.operands] using ad);simp only [e9] at h;exact eD.makes ag (Ei aC h aS) (BR h)
 case field t x f =>
  obtain ⟨u,rfl,aS,_⟩:=a5.one (x:=x) (by simpa [aC,Op.operands] using ad);simp only [e9,r_] at h;obtain ⟨r',h,rfl⟩:=h;exact eD.makes ag (Eh aC h aS) (I.dm _)
 case extract x i =>
  obtain ⟨u,rfl,aS,_⟩:=a5.one (x:=x) (by simpa [aC,Op.operands] using ad);simp only [e9,r_] at h;obtain ⟨r',h,rfl⟩:=h;exact eD.makes ag (Eg aC h aS) (I.dm _)
 case indexAddr t x i =>
  obtain ⟨u,v,rfl,aS,_,bj,_⟩:=a5.two (x:=x) (y:=i) (by simpa [aC,Op.operands] using ad);simp only [gl] at h;exact eD.makes ag (El aC h aS bj (I.fx (aB u (by simp)))) (BS h)
 case index t x i =>
  obtain ⟨u,v,rfl,aS,_,bj,_⟩:=a5.two (x:=x) (y:=i) (by simpa [aC,Op.operands] using ad);simp only [gl,r_] at h;obtain ⟨r',h,rfl⟩:=h;exact eD.makes ag (Ek aC h aS bj) (I.dm _)
 case binOp op t x y iF =>
  obtain ⟨u,v,rfl,aS,_,bj,_⟩:=a5.two (x:=x) (y:=y) (by simpa [aC,Op.operands] using ad);split at h
  ·rename_i Dn;refine eD.makes ag (Ef aC Dn h aS eW) ?_;unfold nq at h;dsimp only at h;repeat' split at h
   all_goals first | (simp at h;done) | (simp at h;subst h;rfl)
  ·simp only [gl] at h;refine eD.makes ag ?_ (BQ h);cases u <;> cases v <;> (try (simp [fo] at h;done))
   ·exact Ec aC h aS bj
   ·exact Ed aC h aS bj
   ·exact Eb aC h aS bj
theorem EX {cells:List I} {len:Nat} {a:Option Addr} (h:Rel J S w (.av cells len .shared) (.slice a len len)):Rel J S w (.av cells len .full) (.slice a len len):=by
 cases h with
 | b3 _ a=>exact .b3 _ _
 | av _ _ _ b o cap f ak hle hu bz b2=>exact .av _ _ _ b o len f (fun _=>rfl) hle (fun z h=>by cases h) bz b2
theorem FP {aV:Operand→Value} (eW:∀ v,aV (.const v)=v) {o:Oper} {us:List I} {t:TypeId} {len:Nat} {parts:Array (Nat×Operand)} {cs:List I} {s:Nat} (ag:aK B aa J S w H) (aC:o.op=.buildSlice t len parts)
  (h:iJ P t len (eN parts.toList us)=some (cs,s)) (aB:∀ u∈us,u.plain=true) (ad:a5 (fun i=>.arg i) aa J S w us ((opsOf o).map aV)) :
  ∃ v w',(Go.execOp aV o).run P w=.ok (.value v) w'∧aZ B aa J S w H (.av cs len .full) v w':=by
 rw [xE (by simp [aC])] at ad;have ad:a5 (fun i=>.arg i) aa J S w us ((parts.toList.map (·.2)).map aV):=by simpa [aC,Op.operands] using ad
 have hlen:us.length=parts.toList.length:=by simpa using ad.len
 obtain ⟨b,w',q1,ay,bV,S',bU,b1,eb,fU,m1⟩:=Be (parts':=parts.map fun (x:Nat×Operand)=>(x.1,aV x.2)) ag h (by simp [eN,uO,hlen]) (fun j x y aj aY=>by
  simp only [eN,uP] at aj;obtain ⟨xg,hp⟩:=aj;simp only [ux,sm,r_] at aY;obtain ⟨p,fN,rfl⟩:=aY
  exact ⟨aB _ (sv hp),ad.rel j _ _ hp (by simp only [sm,fN,se])⟩)
 obtain ⟨a4,aJ,aN,cb,aS,_,_⟩:=kh eb fU m1
 exact ⟨_,w',by simp [Go.execOp,aC,q1],ay,bV,a4,bU,b1.trans (bl.settle aJ fun b o h=>(aN b o h).imp id fun h=>⟨_,h⟩),
  eb.settle aJ (fun b o h=>(aN b o h).imp id fun h=>⟨_,h,by simp,by simp⟩) cb,EX aS,aU.b4 rfl⟩
end
end Go.Proofs.Ytkoioidpbbbaiaa.Ab


namespace Go.Proofs.Ytkoioidpbbbaiaa.Ab
open Go
section
variable {P:Program} {B:Nat} {J:List Nat} {w:World} {H:List ar} {aa:Nat→Option aH} {S:Nat→Nat→Prop}
theorem om {b au o:Nat} {x:Obj} (h:au≠b):(w.putObj b x).cell? ⟨au,o,none⟩=w.cell? ⟨au,o,none⟩:=by
 unfold World.cell?;simp only [World.putObj_heap_other h]
theorem n9 (ag:aK B aa J S w H) {id:Nat} {es es':List (Nat×I×I)} {clock clock':Nat} (aE:H[id]?=some (.map es clock)) {b:Nat} {ents':Array MapEntry}
  (aA:J[id]?=some b) (aG:aa b=some (.obj id)) (bg:∀ o,¬ S b o) (ao:ents'.size=es'.length)
  (ai:∀ (j i:Nat) (k v:I) (x:MapEntry),es'[j]?=some (i,k,v)→ents'[j]?=some x→x.born=i∧k.plain=true∧Rel J S w k x.key∧v.plain=true∧Rel J S w v x.val) :
  bl aa S w aa S (w.putObj b (.map ents' clock'))∧aK B aa J S (w.putObj b (.map ents' clock')) (H.set id (.map es' clock')):=by
 have hJ:∀ au o,S au o→au≠b:=fun au o ah e=>bg o (e ▸ ah);have af:=(ag.base b _ aG).2;have az:bl aa S w aa S (w.putObj b (.map ents' clock')) :=
  ⟨rfl,rfl,rfl,by simp,fun au _ aI=>World.putObj_heap_other (fun e=>by subst e;rw [aG] at aI;cases aI),fun au o ah=>⟨ah,om (hJ au o ah)⟩,fun au o ah=>.inl ah,fun au h=>.inl h⟩
 refine ⟨az,by simpa using ag.cK,fun bC o aq=>?_,fun au o ah=>?_,fun au l h=>by simpa using ag.base au l h,by simpa using ag.c0⟩
 ·by_cases hf:bC=id
  ·subst hf;rw [sk (sa.1 aE).1] at aq;cases aq;refine ⟨b,ents',aA,aG,World.putObj_heap_same af,ao,bg,fun j i k v x hu aj=>?_⟩;obtain ⟨a7,a9,bt,b6,dV⟩:=ai j i k v x hu aj;exact ⟨a7,a9,bt.mono (Ext.refl J) az.set,b6,dV.mono (Ext.refl J) az.set⟩
  ·rw [sd (fun e=>hf e.symm)] at aq;refine (ag.obj bC o aq).frame (Ext.refl J) az.set fun au cy bw jU=>?_;have bJ:au≠b:=fun e=>by
    subst e;rw [aG] at bw;cases bw;rcases jU with h | ⟨j,h⟩
    ·cases h;exact hf rfl
    ·cases h
   exact ⟨bw,World.putObj_heap_other bJ,fun o ah=>ah⟩
 ·obtain ⟨v,ad⟩:=ag.cd au o ah;exact ⟨v,(om (hJ au o ah)).trans ad⟩
theorem yK:∀ {xs ys:List I},dL xs ys=some true→xs=ys∧∀ u∈xs,∃ k a,u=.int k a
 | [],[],_=>⟨rfl,by simp⟩
 | x::xs,y::ys,h=>by
   obtain ⟨k,a,b,cV,rfl,rfl,aX,he⟩:=nD h;have he:=he.symm;simp only [sn,beq_iff_eq] at he;obtain ⟨rfl,rfl⟩:=he;obtain ⟨rfl,ae⟩:=yK aX
   exact ⟨rfl,fun u hu=>by
    rcases sA.1 hu with rfl | hu
    ·exact ⟨_,_,rfl⟩
    ·exact ae u hu⟩
 | [],y::ys,h=>by simp [dL] at h
 | x::xs,[],h=>by cases x <;> simp [dL] at h
theorem A6 (n:Nat):∀ (l:List Value),(∀ v∈l,∃ k a,v=.int k a)→((l.zip l).all fun (x:Value×Value)=>Instr.sameBits n x.1 x.2)=true
 | [],_=>rfl
 | v::l,h=>by
   obtain ⟨k,a,rfl⟩:=h v (by simp);have a8:=A6 n l fun v ad=>h v (by simp [ad]);(have aQ:Instr.sameBits n (.int k a) (.int k a)=true:=by cases n <;> simp [Instr.sameBits]);simp only [List.zip_cons_cons,List.all_cons,aQ,Bool.true_and];exact a8
theorem EY {xs:List I} {V W:Array Value} (hi:∀ u∈xs,∃ k a,u=.int k a) (aS:Rel J S w (.agg xs) (.agg V)) (bj:Rel J S w (.agg xs) (.agg W)):V=W∧∀ v∈V.toList,∃ k a,v=.int k a:=by
 cases aS with
 | agg _ _ l1 _ _ q1 =>
   cases bj with
   | agg _ _ l2 _ _ aW =>
     have key:∀ j (h:j<xs.length),∃ k a,V[j]?=some (.int k a)∧W[j]?=some (.int k a):=fun j h=>by
      obtain ⟨k,a,al⟩:=hi xs[j] (List.getElem_mem h);(have aj:xs[j]?=some (.int k a):=by rw [si h,al]);have ad:=q1 j _ V[j] aj (sr (by omega));have hw:=aW j _ W[j] aj (sr (by omega));exact ⟨k,a,by rw [sr (by omega),ad.di],by rw [sr (by omega),hw.di]⟩
     refine ⟨Array.ext_getElem? fun j=>?_,fun v ad=>?_⟩
     ·rcases sL j xs.length with h | h
      ·obtain ⟨k,a,ab,ae⟩:=key j h;rw [ab,ae]
      ·rw [Array.getElem?_eq_none (by omega),Array.getElem?_eq_none (by omega)]
     ·obtain ⟨j,aw⟩:=sW.1 ad;(have aR:j<xs.length:=by have:=(sa.1 aw).1;simp at this;omega);obtain ⟨k,a,ab,_⟩:=key j aR;rw [uh,ab] at aw;cases aw;exact ⟨k,a,rfl⟩
theorem DU {k k':I} {x y:Value} (h:gK k k'=some true) (aS:Rel J S w k x) (bj:Rel J S w k' y):(Instr.keyThatStays y x).run P w=.ok x w:=by
 have af:Instr.sameBits 10000 y x=true:=by
  unfold gK at h;split at h
  ·split at h
   ·rename_i q a fW b a';subst a';simp at h;subst h;rw [aS.di,bj.di];simp [Instr.sameBits]
   ·simp at h
  ·obtain ⟨rfl,hi⟩:=yK h;(have e1:∃ V,x=.agg V:=by cases aS with | agg as vs=>exact ⟨_,rfl⟩);(have b':∃ V,y=.agg V:=by cases bj with | agg as vs=>exact ⟨_,rfl⟩);obtain ⟨V,rfl⟩:=e1;obtain ⟨W,rfl⟩:=b';obtain ⟨rfl,c1⟩:=EY hi aS bj;have:=A6 9999 V.toList c1;rw [show (10000:Nat)=9999+1 from rfl,Instr.sameBits];simpa using this
  ·simp at h
 simp [Instr.keyThatStays,af]
theorem zE {t:TypeId} (h:k2 P t=true):(∃ k,P.underlying t=some (.int k))∨∃ fs,P.underlying t=some (.struct fs)∧gS P fs.toList 0=true∧P.stoodInHeld t=false:=by
 unfold k2 at h;split at h
 ·exact .inl ⟨_,by assumption⟩
 ·rename_i fs CZ;simp at h;exact .inr ⟨fs,CZ,h.1,h.2⟩
 ·simp at h
theorem AY (em:Bool) (d:Nat) (V:Array Value):∀ (fs:List Field) (off:Nat),gS P fs off=true→off+fs.length≤V.size →
  (forIn fs PUnit.unit (fun f (_ : PUnit) => if f.name = "_" then pure (ForInStep.yield PUnit.unit) else (do
    let a ←part f.type V f.offset
    (fun _=>ForInStep.yield PUnit.unit) <$> Instr.checkKey em (d+1) f.type a:Sem (ForInStep PUnit)))).run P w=.ok PUnit.unit w
 | [],off,_,_=>by simp
 | f::fs,off,h,ao=>by
   obtain ⟨f1,f2,⟨dj,f3⟩,f4,f5,f6⟩:=zx h;simp only [List.length_cons] at ao;have jL:V[off]?=some V[off]:=sr (by omega);(have q1:(part f.type V f.offset).run P w=.ok V[off] w:=by simp only [part,Sem.run_bind,g0 f3,f5,Result.andThen_ok,f1,jL,if_false,tR];rfl);(have aW:(Instr.checkKey em (d+1) f.type V[off]).run P w=.ok () w:=by unfold Instr.checkKey;simp [run_underlying f3]);have a8:=AY em d V fs (off+1) f6 (by omega);simp only [List.forIn_cons,f2,if_false,Sem.run_bind,q1,Result.andThen_ok];simpa [aW] using a8
theorem x8 {t:TypeId} {k:I} {x:Value} (h:k2 P t=true) (al:isKey P t k=true) (ai:Rel J S w k x) (em:Bool):(Instr.checkKey em 10000 t x).run P w=.ok () w:=by
 rcases zE h with ⟨q,a'⟩ | ⟨fs,aP,hi,_⟩
 ·unfold Instr.checkKey;simp [run_underlying a']
 ·unfold isKey at al;simp only [aP] at al;split at al
  ·rename_i aX;cases aX
  ·rename_i Cr cs aX;cases aX;simp at al;cases ai with
   | agg _ V ao _ _ _ =>
     rw [show (10000:Nat)=9998+2 from rfl,Instr.checkKey];have:=AY (P:=P) (w:=w) em 9998 V fs.toList 0 hi (by simp;omega);rw [Array.forIn_toList] at this;simpa [run_underlying aP] using this
  ·simp at al
theorem AZ {t:TypeId} {fs:Array Field} (ax:P.underlying t=some (.struct fs)) (aP:gS P fs.toList 0=true) (ij:P.stoodInHeld t=false) {k k':I} {x y:Value} {e:Bool} (al:isKey P t k=true) (h:gK k k'=some e)
  (aS:Rel J S w k x) (bj:Rel J S w k' y):(Op.equal t x y).run P w=.ok e w:=by
 unfold isKey at al;simp only [ax] at al;split at al
 ·rename_i aX;cases aX
 ·rename_i Cr cs aX;cases aX;simp at al;cases k' with
  | agg fG =>
    simp only [gK] at h;(have e1:∃ V,x=.agg V:=by cases aS with | agg as vs=>exact ⟨_,rfl⟩);(have b':∃ V,y=.agg V:=by cases bj with | agg as vs=>exact ⟨_,rfl⟩);obtain ⟨V,rfl⟩:=e1;obtain ⟨W,rfl⟩:=b';have ao:∀ (xs ys:List I) (e:Bool),dL xs ys=some e→ys.length=xs.length:=by
     intro xs
     induction xs with
     | nil=>intro ys e h;cases ys <;> simp [dL] at h;rfl
     | cons x xs a8 =>
       intro ys e h;cases ys with
       | nil=>cases x <;> simp [dL] at h
       | cons y ys=>obtain ⟨_,_,_,cV,rfl,rfl,aX,_⟩:=nD h;simp [a8 ys cV aX]
    exact run_equalIn_struct 9998 ax aP ij al ((ao _ _ _ h).trans al) h aS bj
  | _=>simp [gK] at h
 ·simp at al
def gA (J:List Nat) (S:Nat→Nat→Prop) (w:World) (es:List (Nat×I×I)) (bB:List MapEntry):Prop :=
 bB.length=es.length∧∀ (j i:Nat) (k v:I) (x:MapEntry),es[j]?=some (i,k,v)→bB[j]?=some x→x.born=i∧k.plain=true∧Rel J S w k x.key∧v.plain=true∧Rel J S w v x.val
theorem gA.cons {e:Nat×I×I} {es:List (Nat×I×I)} {bB:List MapEntry} (h:gA J S w (e::es) bB):∃ x r,bB=x::r∧x.born=e.1∧Rel J S w e.2.1 x.key∧Rel J S w e.2.2 x.val∧gA J S w es r:=by
 cases bB with
 | nil=>simp [gA] at h
 | cons x r =>
   obtain ⟨ab,_,ae,_,aF⟩:=h.2 0 e.1 e.2.1 e.2.2 x rfl rfl;exact ⟨x,r,rfl,ab,ae,aF,by simpa using h.1,fun j i k v y hu aY=>h.2 (j+1) i k v y (by simpa using hu) (by simpa using aY)⟩
def hZ (k:I) (es:List (Nat×I×I)) (bB:List MapEntry) (i:Nat):Option Nat→Option (Nat×Value)→Prop
 | none,r=>r=none
 | some n,r=>∃ e x,i≤n∧es[n-i]?=some e∧bB[n-i]?=some x∧r=some (n,x.val)∧gK k e.2.1=some true
theorem hZ.step {k:I} {e:Nat×I×I} {es:List (Nat×I×I)} {x:MapEntry} {bB:List MapEntry} {i:Nat} {r:Option Nat} {res:Option (Nat×Value)} (h:hZ k es bB (i+1) r res):hZ k (e::es) (x::bB) i r res:=by
 cases r with
 | none=>exact h
 | some n =>
   obtain ⟨cV,nh,ab,ae,aF,a_,bP⟩:=h;obtain ⟨m,hm⟩:∃ m,n-i=m+1:=⟨n-(i+1),by omega⟩;(have nP:n-(i+1)=m:=by omega);rw [nP] at ae aF;exact ⟨cV,nh,by omega,by rw [hm];simpa using ae,by rw [hm];simpa using aF,a_,bP⟩
theorem yT {q q0:IntKind} {n:Int}:∀ (es:List (Nat×I×I)) (bB:List MapEntry) (i:Nat) (r:Option Nat),fH (.int q n) es i=some r→gA J S w es bB →
  ∃ res,Instr.findNow (.int q0) (.int q n) bB i=some res∧hZ (.int q n) es bB i r res
 | [],bB,i,r,h,ai=>by
   have:bB=[]:=sO.1 (by simpa using ai.1)
   subst this;simp [fH] at h;subst h;exact ⟨none,rfl,rfl⟩
 | (b,k',v)::es,bB,i,r,h,ai=>by
   obtain ⟨x,ents',rfl,ab,ae,aF,a_⟩:=ai.cons;simp only [fH] at h;split at h
   ·rename_i he;cases h;cases k' with
    | int fW m =>
      simp only [gK] at he;split at he
      ·rename_i a';subst a';simp at he;subst he;simp only at ae;rw [Instr.findNow,ae.di];exact ⟨some (i,x.val),by simp [Instr.sameNow],_,x,sc _,by simp;rfl,by simp,rfl,by simp [gK]⟩
      ·simp at he
    | _=>simp [gK] at he
   ·rename_i he;cases k' with
    | int fW m =>
      simp only [gK] at he;split at he
      ·rename_i a';subst a';simp at he;simp only at ae;obtain ⟨res,cf,ca⟩:=yT es ents' (i+1) r h a_;rw [Instr.findNow,ae.di];(have Dm:(n == m)=false:=by simpa using he);exact ⟨res,by simp only [Instr.sameNow,if_true,Dm];exact cf,ca.step⟩
      ·simp at he
    | _=>simp [gK] at he
   ·simp at h
theorem yR {t:TypeId} {fs:Array Field} (ax:P.underlying t=some (.struct fs)) (aP:gS P fs.toList 0=true) (ij:P.stoodInHeld t=false) {k:I} {x:Value} (al:isKey P t k=true) (aS:Rel J S w k x) :
  ∀ (es:List (Nat×I×I)) (bB:List MapEntry) (i:Nat) (r:Option Nat),fH k es i=some r→gA J S w es bB →
  ∃ res,(Instr.findAsking t x bB i).run P w=.ok res w∧hZ k es bB i r res
 | [],bB,i,r,h,ai=>by
   have:bB=[]:=sO.1 (by simpa using ai.1)
   subst this;simp [fH] at h;subst h;exact ⟨none,rfl,rfl⟩
 | (b,k',v)::es,bB,i,r,h,ai=>by
   obtain ⟨y,ents',rfl,ab,ae,aF,a_⟩:=ai.cons;simp only [fH] at h;split at h
   ·rename_i he;cases h;have q:=AZ (P:=P) ax aP ij al he aS ae;exact ⟨some (i,y.val),by simp [Instr.findAsking,q],_,y,sc _,by simp;rfl,by simp,rfl,he⟩
   ·rename_i he;have q:=AZ (P:=P) ax aP ij al he aS ae;obtain ⟨res,cf,ca⟩:=yR ax aP ij al aS es ents' (i+1) r h a_;exact ⟨res,by simp [Instr.findAsking,q,cf],ca.step⟩
   ·simp at h
theorem m' {t:TypeId} {k:I} {x:Value} (h:k2 P t=true) (al:isKey P t k=true) (ai:Rel J S w k x) {es:List (Nat×I×I)} {bB:List MapEntry} {r:Option Nat} (aP:fH k es 0=some r) (he:gA J S w es bB) :
  ∃ res,(Instr.findKey t x bB).run P w=.ok res w∧hZ k es bB 0 r res:=by
 rcases zE h with ⟨q,a'⟩ | ⟨fs,ah,hi,cJ⟩
 ·unfold isKey at al;simp only [a'] at al;split at al
  ·rename_i q1 aW n aX;obtain ⟨res,cf,ca⟩:=yT (q0:=q) es bB 0 r aP he;rw [ai.di];exact ⟨res,by simp [Instr.findKey,run_underlying a',cf],ca⟩
  ·rename_i aX;cases aX
  ·simp at al
 ·obtain ⟨res,cf,ca⟩:=yR ah hi cJ al ai es bB 0 r aP he;have cq:∃ V,x=.agg V:=by
   unfold isKey at al;simp only [ah] at al;split at al
   ·rename_i aX;cases aX
   ·cases ai with | agg as vs=>exact ⟨_,rfl⟩
   ·simp at al
  obtain ⟨V,rfl⟩:=cq;cases bB with
  | nil =>
    refine ⟨res,?_,ca⟩;simp [Instr.findAsking] at cf;subst cf;simp [Instr.findKey,run_underlying ah,Instr.findNow]
  | cons y ys =>
    refine ⟨res,?_,ca⟩
    have:Instr.findNow (.struct fs) (.agg V) (y::ys) 0=none:=by simp [Instr.findNow,Instr.sameNow]
    simp [Instr.findKey,run_underlying ah,this,cf]
theorem y6 (w:World) (o:Obj):(w.alloc o).heap[w.heap.size]?=some o:=by
 have e:(w.alloc o).heap=w.heap.push o:=rfl;rw [e];simp
theorem jj {b:Nat} {bB:Array MapEntry} {clock:Nat} (h:w.heap[b]?=some (.map bB clock)):(getObj b).run P w=.ok (.map bB clock) w:=by simp [getObj,Sem.run,h]
theorem oH {b:Nat} {o:Obj} {bB:Array MapEntry} {clock:Nat} (h:w.heap[b]?=some (.map bB clock)):(setObj b o).run P w=.ok () (w.putObj b o):=by simp [setObj,Sem.run,h,World.putObj]
theorem Ev (ag:aK B aa J S w H):aK B (lay aa w.heap.size (.obj H.length)) (J++[w.heap.size]) S (w.alloc (.map #[] 0)) (H++[.map [] 0]) :=
 (nV ag (.map #[] 0) (.obj H.length)).push w.heap.size ⟨w.heap.size,#[],Ext.last ag _,by simp [lay],y6 w _,rfl,mX ag,by simp⟩
theorem F1 (ag:aK B aa J S w H) {t:TypeId} {r:Option Operand} {u:I} {H':List ar} (h:lf P t r H=some (u,H')) :
  ∃ x w',(Instr.makeMap t (none:Option Value)).run P w=.ok x w'∧r=none∧aZ B aa J S w H' u x w':=by
 unfold lf at h;split at h
 ·cases h;exact ⟨_,_,by simp only [Instr.makeMap,Sem.run_bind,Sem.run_pure,run_newObj_alloc,Result.andThen_ok],rfl,_,_,S,Ext.append J _,kA ag _ _,Ev ag,.map _ _ (Ext.last ag _),aU.b4 rfl⟩
 ·simp at h
theorem xz {t d_ iN:TypeId} (h:j7 P t=some (d_,iN)):P.underlying t=some (.map d_ iN)∧k2 P d_=true:=by
 unfold j7 at h;split at h
 ·split at h
  ·cases h;exact ⟨by assumption,by assumption⟩
  ·cases h
 ·cases h
theorem F4 (ag:aK B aa J S w H) {lo:Nat} {t:TypeId} {m k v u:I} {H':List ar} {x y z:Value} (h:je P lo t H [m,k,v]=some (u,H'))
  (e':Rel J S w m x) (bO:Rel J S w k y) (Ae:k.plain=true) (oI:Rel J S w v z) (Ak:v.plain=true) (c:Value) :
  ∃ w',(Instr.mapUpdate t x y z).run P w=.ok () w'∧aZ B aa J S w H' u c w':=by
 unfold je at h;split at h
 ·rename_i id k' bo heq;cases heq;split at h
  ·rename_i d_ iN ax;obtain ⟨ax,al⟩:=xz ax;split at h
   ·rename_i hN;split at h
    ·split at h
     ·rename_i es clock aE;obtain ⟨b,bB,aA,aG,aT,br,bg,bd⟩:=ag.obj _ _ aE;cases e' with
      | map _ au e4 =>
        rw [aA] at e4;cases e4;have he:gA J S w es bB.toList:=⟨by simpa using br,fun j i k v x hu aj=>bd j i k v x hu (by simpa using aj)⟩;have hM:=x8 (P:=P) al hN bO false;split at h
        ·rename_i n aP;cases h;obtain ⟨res,cf,e,x,_,ca,eS,rfl,iP⟩:=m' (P:=P) al hN bO aP he;simp only [Nat.sub_zero,uh] at ca eS;obtain ⟨o_,o',dC⟩:=e;obtain ⟨a7,a9,bt,b6,dV⟩:=bd n o_ o' dC x ca eS;have cJ:=DU (P:=P) iP bO bt;obtain ⟨az,b9⟩:=n9 ag aE (es':=es.modify n fun e=>(e.1,k,v)) (clock':=clock) (ents':=bB.modify n fun e=>{ e with key:=y,val:=z }) aA aG bg (by simp [br]) fun j i dj v0 ju hu aj=>by
          rw [List.getElem?_modify] at hu;rw [Array.getElem?_modify] at aj;by_cases aw:n=j
          ·subst aw;simp only [ca,eS,if_true,se,Option.map_eq_map,Option.some.injEq,Prod.mk.injEq] at hu aj;obtain ⟨rfl,rfl,rfl⟩:=hu;subst aj;exact ⟨a7,Ae,bO,Ak,oI⟩
          ·simp only [aw,if_false,id_map'] at hu aj;exact bd j i dj v0 ju (by simpa using hu) (by simpa using aj)
         refine ⟨_,?_,aa,J,S,Ext.refl J,az,b9,.a0 _,aU.b4 rfl⟩;simp only [Instr.mapUpdate,Sem.run_bind,run_underlying ax,Result.andThen_ok,jj aT,hM,cf,eS,se,uq,cJ,oH aT]
        ·rename_i aP;cases h;obtain ⟨res,cf,ca⟩:=m' (P:=P) al hN bO aP he;simp only [hZ] at ca;subst ca;obtain ⟨az,b9⟩:=n9 ag aE (es':=es++[(clock,k,v)]) (clock':=clock+1) (ents':=bB.push { key:=y,val:=z,born:=clock }) aA aG bg (by simp [br]) fun j i dj v0 ju hu aj=>by
          rw [Array.getElem?_push] at aj;split at aj
          ·rename_i aw;rw [aw,br,ss (sc _)] at hu;simp at hu aj;obtain ⟨rfl,rfl,rfl⟩:=hu;subst aj;exact ⟨rfl,Ae,bO,Ak,oI⟩
          ·rename_i aw;have aR:j<bB.size:=(sJ.1 aj).1;rw [sg (by omega)] at hu;exact bd j i dj v0 ju hu aj
         refine ⟨_,?_,aa,J,S,Ext.refl J,az,b9,.a0 _,aU.b4 rfl⟩;simp only [Instr.mapUpdate,Sem.run_bind,run_underlying ax,Result.andThen_ok,jj aT,hM,cf,oH aT]
        ·cases h
     ·cases h
    ·cases h
   ·cases h
  ·cases h
 ·cases h
theorem GD {t:TypeId} {u:I} (h:oV P t=some u):∃ v,(zeroValue t).run P w=.ok v w∧Rel J S w u v∧u.plain=true:=by
 unfold oV at h;simp only [sf] at h;obtain ⟨v,⟨i,hi,ad⟩,h⟩:=h;refine ⟨v,jl hi ad,?_⟩;split at h
 ·rename_i cs;split at h
  ·rename_i c1;cases h;refine ⟨.agg _ _ (by simp) (fun u hu=>?_) (fun v ad=>by simp only [sq] at c1;exact c1 v ad) (fun j u v hu ad=>?_),rfl⟩
   ·obtain ⟨x,_,rfl⟩:=sC.1 hu;exact nt x
   ·rw [sm,uh,ad] at hu;simp at hu;subst hu;exact lP _ _ _ _
  ·cases h
 ·cases h;exact ⟨lP _ _ _ _,nt _⟩
theorem F0 (ag:aK B aa J S w H) {t:TypeId} {ok:Bool} {m k u:I} {H':List ar} {x y:Value} (h:iv P t ok H [m,k]=some (u,H'))
  (e':Rel J S w m x) (bO:Rel J S w k y) :
  ∃ v,(Instr.lookup t x y ok).run P w=.ok v w∧aZ B aa J S w H' u v w:=by
 unfold iv at h;split at h
 ·rename_i id k' heq;cases heq;split at h
  ·rename_i d_ iN ax;obtain ⟨ax,al⟩:=xz ax;split at h
   ·rename_i es clock hN aE;obtain ⟨b,bB,aA,aG,aT,br,bg,bd⟩:=ag.obj _ _ aE;cases e' with
    | map _ au e4 =>
      rw [aA] at e4;cases e4;have he:gA J S w es bB.toList:=⟨by simpa using br,fun j i k v x hu aj=>bd j i k v x hu (by simpa using aj)⟩;have hM:=x8 (P:=P) al hN bO bB.isEmpty;split at h
      ·rename_i r aP;simp only [r_,Prod.mk.injEq] at h;obtain ⟨v,ad,rfl,rfl⟩:=h;obtain ⟨res,cf,ca⟩:=m' (P:=P) al hN bO aP he;have fin:∀ (z:Value) (b:Bool),Rel J S w v z→v.plain=true →
         aZ B aa J S w H (if ok then .tuple [v,.bool b] else v) (if ok then .tuple #[z,.bool b] else z) w:=fun z b ai aB=>by
        cases ok with
        | true=>exact aZ.same ag (.tuple _ _ rfl (fun u hu=>by simp only [sA,List.not_mem_nil,or_false] at hu;rcases hu with rfl | rfl;exact aB;rfl) fun j u bo hu bh=>by
          match j with
          | 0=>simp at hu bh;subst hu;subst bh;exact ai
          | 1=>simp at hu bh;subst hu;subst bh;exact .bool _
          | j+2=>simp at hu) rfl
        | false=>exact aZ.same ag ai aB
       cases r with
       | none =>
         simp only [hZ] at ca;subst ca;obtain ⟨z,yo,oU,GC⟩:=GD (J:=J) (S:=S) (w:=w) ad;exact ⟨_,by simp only [Instr.lookup,Sem.run_bind,run_underlying ax,Result.andThen_ok,jj aT,Sem.run_pure,hM,cf,yo],fin z false oU GC⟩
       | some n =>
         obtain ⟨e,x,_,aW,cF,rfl,dG⟩:=ca;simp only [Nat.sub_zero,uh] at aW cF;obtain ⟨o_,o',dC⟩:=e;obtain ⟨a7,a9,bt,b6,dV⟩:=bd n o_ o' dC x aW cF;simp only [sb,aW,Option.some.injEq] at ad;subst ad;exact ⟨_,by simp only [Instr.lookup,Sem.run_bind,run_underlying ax,Result.andThen_ok,jj aT,Sem.run_pure,hM,cf],fin x.val true dV b6⟩
      ·cases h
   ·cases h
  ·cases h
 ·cases h
theorem FU (ag:aK B aa J S w H) {lo:Nat} {ts:Array TypeId} (ty:TypeId) {m k u:I} {H':List ar} {x y:Value} (h:hR P lo ts H [m,k]=some (u,H'))
  (e':Rel J S w m x) (bO:Rel J S w k y) :
  ∃ v w',(Builtin.delete_ ts ty #[x,y]).run P w=.ok v w'∧aZ B aa J S w H' u v w':=by
 unfold hR at h;split at h
 ·rename_i id k' heq;cases heq;split at h
  ·rename_i d_ iN ax;simp only [sf] at ax;obtain ⟨t,gQ,ax⟩:=ax;obtain ⟨ax,al⟩:=xz ax;split at h
   ·rename_i hN;split at h
    ·split at h
     ·rename_i es clock aE;obtain ⟨b,bB,aA,aG,aT,br,bg,bd⟩:=ag.obj _ _ aE;cases e' with
      | map _ au e4 =>
        rw [aA] at e4;cases e4;have he:gA J S w es bB.toList:=⟨by simpa using br,fun j i k v x hu aj=>bd j i k v x hu (by simpa using aj)⟩;have hM:=x8 (P:=P) al hN bO bB.isEmpty;have Bt:∀ (w:World),Rel J S w (.tuple []) (.tuple #[]):=fun w=>.tuple _ _ rfl (by simp) (by simp);split at h
        ·rename_i n aP;cases h;obtain ⟨res,cf,e,x,_,ca,eS,rfl,iP⟩:=m' (P:=P) al hN bO aP he;obtain ⟨az,b9⟩:=n9 ag aE (es':=es.eraseIdx n) (clock':=clock) (ents':=bB.eraseIdxIfInBounds n) aA aG bg (by rw [←sY,Array.toList_eraseIdxIfInBounds];simp [List.length_eraseIdx,br]) fun j i dj v0 ju hu aj=>by
          rw [←uh,Array.toList_eraseIdxIfInBounds] at aj;rw [List.getElem?_eraseIdx] at hu aj;by_cases aw:j<n
          ·simp only [aw,if_true] at hu aj;exact bd j i dj v0 ju hu (by simpa using aj)
          ·simp only [aw,if_false] at hu aj;exact bd _ i dj v0 ju hu (by simpa using aj)
         refine ⟨_,_,?_,aa,J,S,Ext.refl J,az,b9,Bt _,aU.b4 rfl⟩;simp only [Builtin.delete_,gQ,vn,tG,ug,Sem.run_bind,run_underlying ax,Result.andThen_ok,jj aT,hM,cf,oH aT,Sem.run_pure]
        ·rename_i aP;cases h;obtain ⟨res,cf,ca⟩:=m' (P:=P) al hN bO aP he;simp only [hZ] at ca;subst ca;obtain ⟨az,b9⟩:=n9 ag aE (es':=es) (clock':=clock) (ents':=bB) aA aG bg br bd;have DG:H.set id (.map es clock)=H:=uy fun j=>by
          by_cases aw:id=j
          ·subst aw;rw [sk (sa.1 aE).1,aE]
          ·rw [sd aw]
         rw [DG] at b9;refine ⟨_,_,?_,aa,J,S,Ext.refl J,az,b9,Bt _,aU.b4 rfl⟩;simp only [Builtin.delete_,gQ,vn,tG,ug,Sem.run_bind,run_underlying ax,Result.andThen_ok,jj aT,hM,cf,oH aT,Sem.run_pure]
        ·cases h
     ·cases h
    ·cases h
   ·cases h
  ·cases h
 ·cases h
theorem F9 (ag:aK B aa J S w H) {t:TypeId} {m u:I} {H':List ar} {x:Value} (h:lg P t H [m]=some (u,H')) (e':Rel J S w m x) :
  ∃ v w',(Instr.range t x).run P w=.ok v w'∧aZ B aa J S w H' u v w':=by
 unfold lg at h;split at h
 ·rename_i id heq;cases heq;split at h
  ·rename_i d_ iN es clock ax aE;cases h;obtain ⟨b,bB,aA,aG,aT,br,bg,bd⟩:=ag.obj _ _ aE;cases e' with
   | map _ au e4 =>
     rw [aA] at e4;cases e4;refine ⟨.pointer (some ⟨w.heap.size,0,none⟩),w.alloc (.mapIter (some b) clock #[] clock),by simp only [Instr.range,Sem.run_bind,run_underlying ax,Result.andThen_ok,jj aT,Sem.run_pure,run_newObj_alloc],_,_,S,Ext.append J _,kA ag _ (.obj H.length),?_,.ptr _ _ _ (Ext.last ag _),aU.b4 rfl⟩;exact (nV ag _ (.obj H.length)).push w.heap.size ⟨w.heap.size,b,Ext.last ag _,by simp [lay],Ext.append J _ _ _ aA,y6 w _,mX ag⟩
  ·cases h
 ·cases h
theorem yS {J:List Nat} {S:Nat→Nat→Prop} {w:World} (gr:Nat):∀ (es:List (Nat×I×I)) (bB:List MapEntry) (e:Nat×I×I),gA J S w es bB→es.find? (fun e=>e.1 == gr)=some e →
  ∃ x,bB.find? (fun x=>x.born == gr)=some x∧Rel J S w e.2.1 x.key∧Rel J S w e.2.2 x.val∧e.2.1.plain=true∧e.2.2.plain=true
 | [],bB,e,ai,h=>by simp at h
 | gb::es,bB,e,ai,h=>by
   have aQ:=ai;obtain ⟨x,ents',rfl,ab,ae,aF,a_⟩:=ai.cons;obtain ⟨_,bU,_,b1,_⟩:=aQ.2 0 gb.1 gb.2.1 gb.2.2 x rfl rfl;rw [List.find?_cons] at h ⊢;rw [ab];split at h
   ·rename_i af;cases h;exact ⟨x,by simp,ae,aF,bU,b1⟩
   ·rename_i af;obtain ⟨nh,g⟩:=yS gr es ents' e a_ h;exact ⟨nh,by simp [g.1],g.2⟩
theorem FV (ag:aK B aa J S w H) {m u:I} {H':List ar} {x:Value} (h:ld H [m]=some (u,H')) (e':Rel J S w m x) :
  ∃ v,(Instr.entry x).run P w=.ok v w∧aZ B aa J S w H' u v w:=by
 unfold ld at h;split at h
 ·rename_i r heq;cases heq;split at h
  ·rename_i m since seen kj aE;split at h
   ·rename_i gr es clock cJ Dg;split at h
    ·rename_i ak;subst ak;split at h
     ·rename_i e he;cases h;obtain ⟨b,ec,aA,aG,aT,br,bg⟩:=ag.obj _ _ aE;obtain ⟨au,bB,a7,a9,bt,b6,dV,f'⟩:=ag.obj _ _ Dg;rw [aT] at a7;cases a7;cases e' with
      | ptr _ _ au e4 =>
        rw [aA] at e4;cases e4;have ai:gA J S w es bB.toList:=⟨by simpa using b6,fun j i k v x hu aj=>f' j i k v x hu (by simpa using aj)⟩;obtain ⟨y,cf,ca,eS,iP,Cs⟩:=yS gr es bB.toList e ai he;(have af:(seen.toArray).back?=some gr:=by simpa using cJ);have aO:(getObj b).run P w=.ok (.mapIter (some ec) since seen.toArray clock) w:=by simp [getObj,Sem.run,br]
        refine ⟨.tuple #[y.key,y.val],?_,aZ.same ag (.tuple _ _ rfl (by simp [iP,Cs]) fun j u bo hu bh=>by
          match j with
          | 0=>simp at hu bh;subst hu;subst bh;exact ca
          | 1=>simp at hu bh;subst hu;subst bh;exact eS
          | j+2=>simp at hu) rfl⟩
        (have aP:bB.find? (fun x=>x.born == gr)=some y:=by rw [←Array.find?_toList];exact cf);simp [Instr.entry,aO,af,jj bt,aP]
     ·cases h
    ·cases h
   ·cases h
  ·cases h
 ·cases h
end
end Go.Proofs.Ytkoioidpbbbaiaa.Ab


namespace Go.Proofs.Ytkoioidpbbbaiaa.Ab
open Go
section
variable {P:Program} {B:Nat} {J:List Nat} {w:World} {H:List ar} {aa:Nat→Option aH} {S:Nat→Nat→Prop}
theorem xG (ag:aK B aa J S w H) {id off len bb n:Nat} {cap:Option Nat} {row:List I} {v:Value} (cI:rowOf H (.ref id off len cap bb)=some row) (aI:lenOf (.ref id off len cap bb)=some n)
  (ai:Rel J S w (.ref id off len cap bb) v) :
  aZ B aa J S w (H.set id .dead) (.av row n (e3 cap n)) v w:=by
 classical
 simp [lenOf] at aI;subst aI;cases ai with
 | ref _ _ _ _ _ b eo af ak hle =>
   unfold rowOf at cI;simp only at cI;split at cI
   ·rename_i l aE;split at cI
    ·rename_i dJ;simp only [Option.some.injEq] at cI;obtain ⟨au,cur,e,aA,aG,aT,br,bg,bd⟩:=ag.obj id _ aE;rw [af] at aA;cases aA
     let S':Nat→Nat→Prop:=fun au o=>S au o∨(au=b∧o<cur.size)
     let ay:Nat→Option aH:=fun au=>if au=b then none else aa au
     have bz:∀ o,o<cur.size→w.cell? ⟨b,o,none⟩=cur[o]?:=fun o aq=>by
      simp [World.cell?,aT,aq]
     have az:bl aa S w ay S' w:=⟨rfl,rfl,rfl,sc _,fun _ _ _=>rfl,fun _ _ h=>⟨.inl h,rfl⟩,fun au o h=>by
       rcases h with h | ⟨rfl,_⟩
       ·exact .inl h
       ·exact .inr (.inl (by simp [aG])),fun au bw=>by
       by_cases dI:au=b
       ·simp [ay,dI] at bw
       ·simp only [ay,dI,if_false] at bw;exact .inl bw⟩
     have bW:aK B ay J S' w (H.set id .dead):=by
      refine ⟨by simpa using ag.cK,fun bC o aq=>?_,fun au o h=>?_,fun au l' bw=>?_,ag.c0⟩
      ·by_cases cx:bC=id
       ·subst cx
        have:o=.dead:=by
         have:=(sa.1 aE).1;simp [this] at aq;exact aq.symm
        subst this;trivial
       ·rw [sd (Ne.symm cx)] at aq;refine (ag.obj bC o aq).frame (Ext.refl J) az.set (fun au l' bw ao=>?_);have bJ:au≠b:=fun e=>by
         subst e;rw [aG] at bw;cases bw;rcases ao with h | ⟨j,h⟩
         ·cases h;exact cx rfl
         ·cases h
        exact ⟨by simp [ay,bJ,bw],rfl,fun o h=>h.resolve_right fun h=>bJ h.1⟩
      ·rcases h with h | ⟨rfl,h⟩
       ·exact ag.cd _ _ h
       ·exact ⟨_,(bz o h).trans (sr h)⟩
      ·by_cases dI:au=b
       ·simp [ay,dI] at bw
       ·simp only [ay,dI,if_false] at bw;exact ag.base _ _ bw
     (have hlen:row.length=len*bb:=by subst cI;simp;omega);refine ⟨ay,J,S',Ext.refl J,az,bW,.av row len _ b off eo (fun j=>cur.getD (off+j) undef) (fun h=>?_) hle (fun z h=>?_) (fun j u aw=>?_) (fun j u aw=>?_),aU.b4 ?_⟩
     ·unfold e3 at h;cases cap with
      | none=>simp at h
      | some c =>
        simp only at h;split at h
        ·rename_i cH;rw [ak c rfl,cH]
        ·cases h
     ·unfold e3 at h;cases cap with
      | none=>simp at h
      | some c=>simp only at h;split at h <;> cases h
     all_goals (try (
      have h':=(sa.1 aw).1;(have fr:off+j<l.length:=by omega);(have fi:off+j<cur.size:=by omega);have aj:l[off+j]?=some l[off+j]:=si fr;have ad:cur[off+j]?=some cur[off+j]:=sr fi;(have aO:cur.getD (off+j) undef=cur[off+j]:=by simp [fi]);have hu:u=l[off+j].view:=by
       subst cI;rw [sm,sI,if_pos (by simp at h';omega),sQ,aj] at aw;simpa using aw.symm
      obtain ⟨a7,a9,bt,b6⟩:=bd (off+j) _ _ aj ad
      subst hu))
     ·exact ⟨.inr ⟨rfl,fi⟩,by rw [bz _ fi,ad,aO],I.dm _,by rw [aO];exact a9⟩
     ·rw [aO];exact (bt.view a7).mono (Ext.refl J) az.set
     ·unfold e3;cases cap with
      | none=>rfl
      | some c=>simp only;split <;> rfl
    ·simp at cI
   ·simp at cI
theorem Bh (ag:aK B aa J S w H) {t e:TypeId} (ax:P.underlying t=some (.slice e)) {id off n z:Nat} {l c:List I} (aE:H[id]?=some (.cells l)) (cD:l[off]?=some (.av c n (.own z))) {v:Value}
  (ai:Rel J S w (.ptr id off) v) :
  ∃ x,(Instr.loadAt t v).run P w=.ok x w∧aZ B aa J S w (H.set id (.cells (l.set off (.av c n .shared)))) (.av c n (.own z)) x w:=by
 classical
 have cq:dK P t=false:=by simp [dK,ax]
 obtain ⟨b,cur,cV,aA,aG,aT,br,bg,bd⟩:=ag.obj id _ aE;cases ai with
 | ptr _ _ au af =>
   rw [aA] at af;cases af;have aw:off<l.length:=(sa.1 cD).1;(have fr:off<cur.size:=by omega);have hd:cur[off]?=some cur[off]:=sr fr;obtain ⟨a7,a9,bt,b6⟩:=bd off _ _ cD hd;(have bz:w.cell? ⟨b,off,none⟩=some cur[off]:=by rw [cell_of_row w b _ cur cV (0,0) aT,hd]);refine ⟨cur[off],by simp [Instr.loadAt,Instr.sureAddr,loadVar,g0 ax,cq,load,Sem.run,bz],?_⟩
   let ay:Nat→Option aH:=fun au=>if aa au=some (.cell id off) then some .res else aa au
   have az:bl aa S w ay S w:=⟨rfl,rfl,rfl,sc _,fun _ _ _=>rfl,fun _ _ h=>⟨h,rfl⟩,fun _ _ h=>.inl h,fun b af=>.inl fun aQ=>af (by simp [ay,aQ])⟩;have al:∀ au l',aa au=some l'→l'≠.cell id off→ay au=some l':=fun au l' ab ae=>by
    have:¬ aa au=some (.cell id off):=by rw [ab];intro e;cases e;exact ae rfl
    simp [ay,ab,ae]
   refine ⟨ay,J,S,Ext.refl J,az,⟨by simpa using ag.cK,fun bC o aq=>?_,ag.cd,fun au l' bw=>?_,ag.c0⟩,bt,b6.mono (Ext.refl J) az.set fun au bw=>⟨by simp [ay,bw],rfl,fun _ h=>h⟩⟩
   ·by_cases cx:bC=id
    ·subst cx;rw [sk (sa.1 aE).1] at aq;cases aq;refine ⟨b,cur,cV,aA,al b _ aG (by simp),aT,by simpa using br,bg,fun j u v hu ad=>?_⟩;by_cases hO:j=off
     ·subst hO;rw [sk aw] at hu;cases hu;obtain ⟨cf,ca,eS,_⟩:=bd j _ _ cD ad;exact ⟨rfl,ca,eS.view cf,aU.b4 rfl⟩
     ·rw [sd (Ne.symm hO)] at hu;obtain ⟨d1,d2,d3,d4⟩:=bd j u v hu ad;exact ⟨d1,d2,d3,d4.mono (Ext.refl J) az.set fun au bw=>⟨al au _ bw (by simp [hO]),rfl,fun _ h=>h⟩⟩
    ·rw [sd (Ne.symm cx)] at aq;refine (ag.obj bC o aq).frame (Ext.refl J) az.set (fun au l' bw ao=>⟨al au l' bw ?_,rfl,fun _ h=>h⟩);rcases ao with rfl | ⟨j,rfl⟩
     ·simp
     ·simp [cx]
   ·by_cases h:aa au=some (.cell id off)
    ·exact ag.base au _ h
    ·simp only [ay,h,if_false] at bw;exact ag.base au l' bw
theorem Bi (ag:aK B aa J S w H) {t e:TypeId} (ax:P.underlying t=some (.slice e)) {id off n z:Nat} {l c:List I} (aE:H[id]?=some (.cells l)) (cD:l[off]?=some (.raw c n z)) {v:Value}
  (ai:Rel J S w (.ptr id off) v) :
  ∃ b x,J[id]?=some b∧w.cell? ⟨b,off,none⟩=some x∧x.oneCell'=true∧(Instr.loadAt t v).run P w=.ok x w∧aZ B aa J S w (H.set id (.cells (l.set off .a0))) (.av c n (.uniq z)) x w:=by
 classical
 have cq:dK P t=false:=by simp [dK,ax]
 obtain ⟨b,cur,cV,aA,aG,aT,br,bg,bd⟩:=ag.obj id _ aE;cases ai with
 | ptr _ _ au af =>
   rw [aA] at af;cases af;have aw:off<l.length:=(sa.1 cD).1;(have fr:off<cur.size:=by omega);have hd:cur[off]?=some cur[off]:=sr fr;obtain ⟨a7,a9,bt,b6⟩:=bd off _ _ cD hd;obtain ⟨Gj,Gk⟩:=ET bt b6;(have bz:w.cell? ⟨b,off,none⟩=some cur[off]:=by rw [cell_of_row w b _ cur cV (0,0) aT,hd]);refine ⟨b,cur[off],aA,bz,a9,by simp [Instr.loadAt,Instr.sureAddr,loadVar,g0 ax,cq,load,Sem.run,bz],?_⟩
   let ay:Nat→Option aH:=fun au=>if aa au=some (.cell id off) then some .res else aa au
   have az:bl aa S w ay S w:=⟨rfl,rfl,rfl,sc _,fun _ _ _=>rfl,fun _ _ h=>⟨h,rfl⟩,fun _ _ h=>.inl h,fun b af=>.inl fun aQ=>af (by simp [ay,aQ])⟩;have al:∀ au l',aa au=some l'→l'≠.cell id off→ay au=some l':=fun au l' ab ae=>by
    have:¬ aa au=some (.cell id off):=by rw [ab];intro e;cases e;exact ae rfl
    simp [ay,ab,ae]
   refine ⟨ay,J,S,Ext.refl J,az,⟨by simpa using ag.cK,fun bC o aq=>?_,ag.cd,fun au l' bw=>?_,ag.c0⟩,Gj,Gk.mono (Ext.refl J) az.set fun au bw=>⟨by simp [ay,bw],rfl,fun _ h=>h⟩⟩
   ·by_cases cx:bC=id
    ·subst cx;rw [sk (sa.1 aE).1] at aq;cases aq;refine ⟨b,cur,cV,aA,al b _ aG (by simp),aT,by simpa using br,bg,fun j u v hu ad=>?_⟩;by_cases hO:j=off
     ·subst hO;rw [sk aw] at hu;cases hu;obtain ⟨cf,ca,eS,_⟩:=bd j _ _ cD ad;exact ⟨rfl,ca,.a0 _,aU.b4 rfl⟩
     ·rw [sd (Ne.symm hO)] at hu;obtain ⟨d1,d2,d3,d4⟩:=bd j u v hu ad;exact ⟨d1,d2,d3,d4.mono (Ext.refl J) az.set fun au bw=>⟨al au _ bw (by simp [hO]),rfl,fun _ h=>h⟩⟩
    ·rw [sd (Ne.symm cx)] at aq;refine (ag.obj bC o aq).frame (Ext.refl J) az.set (fun au l' bw ao=>⟨al au l' bw ?_,rfl,fun _ h=>h⟩);rcases ao with rfl | ⟨j,rfl⟩
     ·simp
     ·simp [cx]
   ·by_cases h:aa au=some (.cell id off)
    ·exact ag.base au _ h
    ·simp only [ay,h,if_false] at bw;exact ag.base au l' bw
theorem zm (ag:aK B aa J S w H) {id off b:Nat} {l:List I} (aE:H[id]?=some (.cells l)) (af:J[id]?=some b) {u:I} {x:Value} (aj:w.cell? ⟨b,off,none⟩=some x) (ab:x.oneCell'=true) (aB:u.plain=true) (ai:Rel J S w u x) :
  aK B aa J S w (H.set id (.cells (l.set off u))):=by
 refine ⟨by simpa using ag.cK,fun bC o aq=>?_,ag.cd,ag.base,ag.c0⟩;by_cases cx:bC=id
 ·subst cx;rw [sk (sa.1 aE).1] at aq;cases aq;obtain ⟨au,cur,cV,aA,aG,aT,br,bg,bd⟩:=ag.obj bC _ aE;rw [af] at aA;cases aA;refine ⟨b,cur,cV,af,aG,aT,by simpa using br,bg,fun j y v hu ad=>?_⟩;by_cases hO:off=j
  ·subst hO;(have aR:off<l.length:=by have:=(sa.1 hu).1;simpa using this);rw [sk aR] at hu;cases hu;rw [cell_of_row w b _ cur cV (0,0) aT,ad] at aj;cases aj;exact ⟨I.fx aB,ab,ai,aU.b4 aB⟩
  ·rw [sd hO] at hu;exact bd j y v hu ad
 ·rw [sd (Ne.symm cx)] at aq;exact ag.obj bC o aq
theorem Gb (ag:aK B aa J S w H) {t e:TypeId} (ax:P.underlying t=some (.slice e)) {id off n z:Nat} {l c:List I} (aI:n≠0) (aE:H[id]?=some (.cells l)) (cD:l[off]?=some (.raw c n z)) {v:Value}
  (ai:Rel J S w (.ptr id off) v) :
  ∃ x,(Instr.loadAt t v).run P w=.ok x w∧aZ B aa J S w (H.set id (.cells (l.set off (.ref H.length 0 n none z)))++[.cells c]) (.ref H.length 0 n none z) x w:=by
 obtain ⟨b,x,ab,ae,aF,a_,b5,cZ,a4,aJ,aN,cb,hq,n4⟩:=Bi ag ax aE cD ai;refine ⟨x,a_,?_⟩;obtain ⟨bu,ck,bL,da,db,j5,k6,zQ⟩:=xJ cb (l:=.res) (by simp) (by simp) aI hq n4;rw [List.length_set] at k6 zQ;have aR:=(sa.1 aE).1;have gN:ck[id]?=some b:=da _ _ (aJ _ _ ab);have pL:(H.set id (ar.cells (l.set off .a0))++[ar.cells c])[id]?=some (ar.cells (l.set off .a0)):=by
  rw [sg (by simpa using aR),sk aR]
 have aj:=zm j5 pL gN ae aF (u:=.ref H.length 0 n none z) rfl k6;have e:(H.set id (ar.cells (l.set off .a0))++[ar.cells c]).set id (ar.cells ((l.set off .a0).set off (.ref H.length 0 n none z)))=H.set id (ar.cells (l.set off (.ref H.length 0 n none z)))++[ar.cells c]:=by
  rw [List.set_append_left _ _ (by simpa using aR),sV,sV]
 rw [e] at aj;exact ⟨bu,ck,bL,aJ.trans da,aN.trans db,aj,k6,zQ⟩
theorem DP {x:Operand} (h:iZ x=true):x=.const (.slice none 0 0):=by
 unfold iZ at h;split at h
 ·rfl
 ·simp at h
theorem ez (i:Nat):∀ id,aH.arg i≠.obj id:=fun _=>by simp
theorem eA (i:Nat):∀ id j,aH.arg i≠.cell id j:=fun _ _=>by simp
theorem EL (ag:aK B aa J S w H) {id gid n z:Nat} {l:List I} (aE:H[id]?=some (.grow l gid z)) (aI:n*z≤l.length) (aB:(l.take (n*z)).all I.plain=true) {v:Value} (ai:Rel J S w (.cm id gid n z) v) :
  aZ B aa J S w (H.set id .dead) (.av (l.take (n*z)) n (.uniq z)) v w:=by
 classical
 rw [sq] at aB;obtain ⟨b,cur,e,aA,aG,aT,br,bg,bd,cap,dd,dy,dS,gF⟩:=ag.obj id _ aE;cases ai with
 | cm _ _ _ _ au cap' af aO hle =>
   rw [aA] at af;cases af;rw [dd] at aO;cases aO
   let ay:Nat→Option aH:=fun au=>if aa au=some (.obj id) then some .res else aa au
   have az:bl aa S w ay S w:=⟨rfl,rfl,rfl,sc _,fun _ _ _=>rfl,fun _ _ h=>⟨h,rfl⟩,fun _ _ h=>.inl h,fun b af=>.inl fun aQ=>af (by simp [ay,aQ])⟩;have al:∀ au l',aa au=some l'→l'≠.obj id→ay au=some l':=fun au l' ab ae=>by
    have:¬ aa au=some (.obj id):=by rw [ab];intro e;cases e;exact ae rfl
    simp [ay,ab,ae]
   refine ⟨ay,J,S,Ext.refl J,az,⟨by simpa using ag.cK,fun bC o aq=>?_,ag.cd,fun au l' bw=>?_,ag.c0⟩,.cP _ _ _ _ _ _,.inr ⟨by simp [ay,aG],rfl,hle,dy,dS,by simp;omega,⟨cur,e,aT,gF,fun j u v hu ad=>?_⟩,bg⟩⟩
   ·by_cases cx:bC=id
    ·subst cx;rw [sk (sa.1 aE).1] at aq;cases aq;trivial
    ·rw [sd (Ne.symm cx)] at aq;refine (ag.obj bC o aq).frame (Ext.refl J) az.set (fun au l' bw ao=>⟨al au l' bw ?_,rfl,fun _ h=>h⟩);rcases ao with rfl | ⟨j,rfl⟩
     ·simp [cx]
     ·simp
   ·by_cases h:aa au=some (.obj id)
    ·exact ag.base au _ h
    ·simp only [ay,h,if_false] at bw;exact ag.base au l' bw
   ·have b_:u∈l.take (n*z):=sv hu;rw [sI] at hu;split at hu
    ·obtain ⟨_,a9,bt,_⟩:=bd j u v hu ad;exact ⟨aB u b_,a9,bt⟩
    ·simp at hu
theorem Bf (ag:aK B aa J S w H) {aV:Operand→Value} (eW:∀ v,aV (.const v)=v) {lo mode:Nat} {t:TypeId} {x:Operand} {us:List I} {r:I} {H':List ar}
  (h:eX P lo mode t x H us=some (r,H')) (ad:a5 (fun i=>.arg i) aa J S w us ([x].map aV)):aZ B aa J S w H' r (aV x) w:=by
 obtain ⟨u,rfl,aS,bx⟩:=a5.one ad;unfold eX at h;simp only at h;split at h
 ·split at h
  ·rename_i aI ax;simp only [r_,Prod.mk.injEq] at h;obtain ⟨z,_,rfl,rfl⟩:=h;rw [DP aI,eW];exact ⟨aa,J,S,Ext.refl J,bl.refl aa S w,ag,.b3 _ _,trivial⟩
  ·cases h;exact hS ag (ez _) (eA _) aS bx
 ·split at h
  ·rename_i cells len z;split at h
   ·cases h;exact hS ag (ez _) (eA _) aS bx
   ·rename_i aQ;cases h;exact xJ ag (ez _) (eA _) aQ aS bx
  ·cases h;exact hS ag (ez _) (eA _) aS bx
  ·cases h;exact hS ag (ez _) (eA _) aS bx
  ·simp at h
 ·split at h
  ·rename_i id gid n z;split at h
   ·split at h
    ·rename_i l g cX aE;split at h
     ·rename_i ak;obtain ⟨rfl,rfl,ab,ae⟩:=ak;cases h;exact EL ag aE ab ae aS
     ·simp at h
    ·simp at h
   ·simp at h
  ·cases h;exact hS ag (ez _) (eA _) aS bx
 ·split at h
  ·rename_i id off len cap bb;split at h
   ·simp only [sf,r_,Prod.mk.injEq] at h;obtain ⟨row,cI,n,aI,rfl,rfl⟩:=h;exact xG ag cI aI aS
   ·simp at h
  ·rename_i id gid n z;split at h
   ·split at h
    ·rename_i l g cX aE;split at h
     ·rename_i ao;cases h;have aR:=(sa.1 aE).1;have q:=xG (ag.oR aE) (row:=l.map I.view) (by simp only [rowOf,sk aR,sB];rw [if_pos (by omega),List.drop_zero,tg (by omega)]) rfl (aS.view rfl);rw [sV] at q;exact q
     ·simp at h
    ·simp at h
   ·simp at h
  ·cases h;obtain ⟨S',aJ,aN,b9,bj⟩:=mQ ag (ez _) (eA _) aS bx;exact aZ.after (Ext.refl J) (bl.settle aJ fun b o h=>(aN b o h).imp id fun h=>⟨_,h⟩) (aZ.same b9 bj (I.dm _))
theorem FY (ag:aK B aa J S w H) {t e:TypeId} (ax:P.underlying t=some (.slice e)) {id off i g n z:Nat} {l:List I} (aE:H[id]?=some (.cells l)) (cD:l[off]?=some (.cm i g n z)) {v:Value}
  (ai:Rel J S w (.ptr id off) v):∃ x,(Instr.loadAt t v).run P w=.ok x w∧aZ B aa J S w H (.cm i g n z) x w:=by
 have cq:dK P t=false:=by simp [dK,ax]
 obtain ⟨b,cur,cV,aA,aG,aT,br,bg,bd⟩:=ag.obj id _ aE;cases ai with
 | ptr _ _ au af =>
   rw [aA] at af;cases af;have aw:off<l.length:=(sa.1 cD).1;(have fr:off<cur.size:=by omega);have hd:cur[off]?=some cur[off]:=sr fr;obtain ⟨a7,a9,bt,b6⟩:=bd off _ _ cD hd;(have bz:w.cell? ⟨b,off,none⟩=some cur[off]:=by rw [cell_of_row w b _ cur cV (0,0) aT,hd]);exact ⟨cur[off],by simp [Instr.loadAt,Instr.sureAddr,loadVar,g0 ax,cq,load,Sem.run,bz],aa,J,S,Ext.refl J,bl.refl aa S w,ag,bt,trivial⟩
theorem FZ (ag:aK B aa J S w H) {t:TypeId} {id off rid o n z:Nat} {cap:Option Nat} {l row:List I} {r:I} {v:Value} (aE:H[id]?=some (.cells l)) (cD:l[off]?=some (.ref rid o n cap z)) (bJ:rid≠id) (cI:rowOf H (.ref rid o n cap z)=some row)
  (h:dz P ((H.set rid .dead).set id (.cells (l.set off (.av row n (e3 cap n))))) t (.ptr id off)=some r) (ai:Rel J S w (.ptr id off) v) :
  ∃ x,(Instr.loadAt t v).run P w=.ok x w∧aZ B aa J S w ((H.set rid .dead).set id (.cells (l.set off (.av row n (e3 cap n))))) r x w:=by
 obtain ⟨b,cur,cV,aA,aG,aT,br,bg,bd⟩:=ag.obj id _ aE;have aw:off<l.length:=(sa.1 cD).1;have hd:cur[off]?=some cur[off]:=sr (by omega);obtain ⟨a7,a9,bt,b6⟩:=bd off _ _ cD hd;have bz:w.cell? ⟨b,off,none⟩=some cur[off]:=by rw [cell_of_row w b _ cur cV (0,0) aT,hd]
 obtain ⟨b5,cZ,a4,aJ,aN,cb,hq,n4⟩:=xG ag cI rfl bt;have C6:(H.set rid .dead)[id]?=some (.cells l):=by rw [sd bJ];exact aE
 have ch:=zm cb C6 (aJ _ _ aA) bz a9 (u:=.av row n (e3 cap n)) (by unfold e3;cases cap with | none=>rfl | some c=>simp only;split <;> rfl) hq;obtain ⟨x,ab,ae,aF⟩:=jk ch h (ai.mono aJ aN.set);exact ⟨x,ab,aZ.after aJ aN (aZ.same ch ae aF)⟩
theorem FX (ag:aK B aa J S w H) {lo mode:Nat} {t:TypeId} {u:I} {r:I} {H':List ar} {v:Value} (h:du P lo mode t H [u]=some (r,H')) (ai:Rel J S w u v) :
  ∃ x,(Instr.loadAt t v).run P w=.ok x w∧aZ B aa J S w H' r x w:=by
 unfold du at h;simp only at h;split at h
 ·simp only [r_,Prod.mk.injEq] at h;obtain ⟨r',h,rfl,rfl⟩:=h;obtain ⟨x,ab,ae,aF⟩:=jk ag h ai;exact ⟨x,ab,aZ.same ag ae aF⟩
 ·split at h
  ·simp only [r_,Prod.mk.injEq] at h;obtain ⟨r',h,rfl,rfl⟩:=h;obtain ⟨x,ab,ae,aF⟩:=jk (t:=t) ag (by simpa only [dz] using h) ai;exact ⟨x,ab,aZ.same ag ae aF⟩
  ·simp at h
 ·split at h
  ·rename_i e id off ax;split at h
   ·rename_i l aE;split at h
    ·rename_i i g n z cD;cases h;exact FY ag ax aE cD ai
    ·rename_i cD;cases h
     have:dz P H t (.ptr id off)=some (.av [] 0 .full):=by simp [dz,aE,e6,dK,ax,cD,I.view]
     obtain ⟨x,ab,ae,aF⟩:=jk ag this ai;exact ⟨x,ab,aZ.same ag ae aF⟩
    ·simp at h
   ·simp at h
  ·simp at h
 ·split at h
  ·split at h
   ·split at h
    ·rename_i l aE;split at h
     ·rename_i rid o n cap z cD;split at h
      ·rename_i ak;simp only [sf,r_,Prod.mk.injEq] at h;obtain ⟨row,cI,r',h,rfl,rfl⟩:=h;exact FZ ag aE cD ak.2 cI h ai
      ·simp at h
     ·simp at h
    ·simp at h
   ·simp at h
  ·simp at h
 ·split at h
  ·split at h
   ·split at h
    ·simp only [r_,Prod.mk.injEq] at h;obtain ⟨r',h,rfl,rfl⟩:=h;obtain ⟨x,ab,ae,aF⟩:=jk ag h ai;exact ⟨x,ab,aZ.same ag ae aF⟩
    ·simp at h
   ·simp at h
  ·simp at h
 ·split at h
  ·rename_i e id off ax;split at h
   ·split at h
    ·rename_i l aE;split at h
     ·rename_i c n z cD;cases h;exact Bh ag ax aE cD ai
     ·rename_i c n z cD;split at h
      ·split at h
       ·simp at h
       ·rename_i aI;cases h;exact Gb ag ax aI aE cD ai
      ·cases h;obtain ⟨_,x,_,_,_,ab,ae⟩:=Bi ag ax aE cD ai;exact ⟨x,ab,ae⟩
     ·rename_i bH c2 iY cD;cases h
      have:dz P H t (.ptr id off)=some bH.view:=by simp [dz,aE,e6,dK,ax,cD]
      obtain ⟨x,ab,ae,aF⟩:=jk ag this ai;exact ⟨x,ab,aZ.same ag ae aF⟩
     ·simp at h
    ·rename_i l g cX aE;have aR:=(sa.1 aE).1;split at h
     ·rename_i c n z cD;cases h;obtain ⟨b,cur,cV,aA,aG,aT,br,bg,bd,cap,dd,dy,dS,gF⟩:=ag.obj id _ aE;obtain ⟨x,ab,ay,bV,S',bU,b1,eb,fU⟩:=Bh (ag.oR aE) ax (by rw [sk aR]) cD ai;have aO:=eb.xQ (g:=g) (z:=cX) (by rw [sk (by simpa using aR)]) (bU _ _ aA) (bU _ _ dd) dy dS aT gF;rw [sV,sV] at aO;exact ⟨x,ab,ay,bV,S',bU,b1,aO,fU⟩
     ·rename_i c n cD;cases h
      have:dz P H t (.ptr id off)=some (.av c n .full):=by simp [dz,aE,e6,dK,ax,cD,I.view]
      obtain ⟨x,ab,ae,aF⟩:=jk ag this ai;exact ⟨x,ab,aZ.same ag ae aF⟩
     ·simp at h
    ·simp at h
   ·simp at h
  ·simp at h
theorem yd (ag:aK B aa J S w H) {lo:Nat} {b:Builtin} {ts:Array TypeId} (ty:TypeId) (cs:Array Bool) {us:List I} {r:I} {H':List ar} {vs:List Value} (h:ei P lo b ts H us=some (r,H'))
  (ad:a5 (fun i=>.arg i) aa J S w us vs):∃ y w',(builtin b ts ty cs vs.toArray).run P w=.ok (.value y) w'∧aZ B aa J S w H' r y w':=by
 have one:∀ {u:I},us=[u]→∃ v,vs=[v]∧Rel J S w u v:=fun {u} e=>by
  subst e
  match vs,ad with
  | [v],ad=>exact ⟨v,rfl,ad.rel 0 u v rfl rfl⟩
  | [],ad=>exact absurd ad.len (by simp)
  | _::_::_,ad=>exact absurd ad.len (by simp)
 have two:∀ {u x:I},us=[u,x]→∃ v y,vs=[v,y]∧Rel J S w u v∧aU aa J S w (.arg 0) u v∧Rel J S w x y∧aU aa J S w (.arg 1) x y:=fun {u x} e=>by
  subst e
  match vs,ad with
  | [v,y],ad=>exact ⟨v,y,rfl,ad.rel 0 u v rfl rfl,ad.own 0 u v rfl rfl,ad.rel 1 x y rfl rfl,ad.own 1 x y rfl rfl⟩
  | [],ad=>exact absurd ad.len (by simp)
  | [_],ad=>exact absurd ad.len (by simp)
  | _::_::_::_,ad=>exact absurd ad.len (by simp)
 unfold ei at h;split at h
 ·
  unfold hQ at h;split at h
  ·rename_i s x;split at h
   ·rename_i t dn gQ;(have gQ:ts=#[t,dn]:=by rw [←tF (xs:=ts),gQ]);subst gQ;simp only [r_,Prod.mk.injEq] at h;obtain ⟨r',h,rfl,rfl⟩:=h;obtain ⟨v,y,rfl,aS,bx,bj,bK⟩:=two rfl;obtain ⟨z,w',ab,ae⟩:=Bd ag ty (ez _) (eA _) (ez _) (eA _) (by simp) h aS bx bj bK;exact ⟨z,w',by simp [builtin,ab],ae⟩
   ·simp at h
  ·simp at h
 ·
  match us with
  | [u] =>
    obtain ⟨v,rfl,aS⟩:=one rfl;obtain ⟨y,ab,ae⟩:=FW ag (ts:=ts) ty h aS;exact ⟨y,w,by simp [builtin,ab],ae⟩
  | []=>simp [hx] at h
  | _::_::_=>simp [hx] at h
 ·
  match us with
  | [u] =>
    obtain ⟨v,rfl,aS⟩:=one rfl;obtain ⟨y,ab,ae⟩:=FQ ag (ts:=ts) ty h aS;exact ⟨y,w,by simp [builtin,ab],ae⟩
  | []=>simp [j_] at h
  | _::_::_=>simp [j_] at h
 ·
  match us with
  | [u,x] =>
    obtain ⟨v,y,rfl,aS,bx,bj,bK⟩:=two rfl;obtain ⟨z,w',ab,ae⟩:=FT ag (ts:=ts) ty (ez _) (eA _) h aS bj bK;exact ⟨z,w',by simp [builtin,ab],ae⟩
  | []=>simp [j'] at h
  | [_]=>simp [j'] at h
  | _::_::_::_=>simp [j'] at h
 ·
  match us with
  | [u] =>
    obtain ⟨v,rfl,aS⟩:=one rfl;obtain ⟨y,w',ab,ae⟩:=FR ag (ts:=ts) ty h aS;exact ⟨y,w',by simp [builtin,ab],ae⟩
  | []=>simp [lb] at h
  | _::_::_=>simp [lb] at h
 ·
  match us with
  | [u,x] =>
    obtain ⟨v,y,rfl,aS,_,bj,_⟩:=two rfl;obtain ⟨z,w',ab,ae⟩:=FU ag (ts:=ts) ty h aS bj;exact ⟨z,w',by simp [builtin,ab],ae⟩
  | []=>simp [hR] at h
  | [_]=>simp [hR] at h
  | _::_::_::_=>simp [hR] at h
 ·simp only [r_,Prod.mk.injEq] at h;obtain ⟨r',h,rfl,rfl⟩:=h;obtain ⟨y,ab,ae,aF⟩:=F6 (P:=P) ts ty h ad;exact ⟨y,w,by simp [builtin,ab],aZ.same ag ae aF⟩
 ·simp only [r_,Prod.mk.injEq] at h;obtain ⟨r',h,rfl,rfl⟩:=h;obtain ⟨y,ab,ae,aF⟩:=F5 (P:=P) ts ty h ad;exact ⟨y,w,by simp [builtin,ab],aZ.same ag ae aF⟩
 ·simp at h
end
end Go.Proofs.Ytkoioidpbbbaiaa.Ab


namespace Go.Proofs.Ytkoioidpbbbaiaa.Ab
open Go
section
variable {P:Program} {B:Nat} {J:List Nat} {w:World} {H:List ar} {aa:Nat→Option aH} {S:Nat→Nat→Prop}
theorem a5.tail {bA:Nat→aH} {us:List I} {vs:List Value} {u:I} {v:Value} (h:a5 bA aa J S w (u::us) (v::vs)):a5 (fun i=>bA (i+1)) aa J S w us vs :=
 ⟨by simpa using h.len,fun i a b cu af=>h.rel (i+1) a b (by simpa using cu) (by simpa using af),fun i a b cu af=>h.own (i+1) a b (by simpa using cu) (by simpa using af)⟩
theorem lh {bA:Nat→aH} {us:List I} {vs:List Value} (ad:a5 bA aa J S w us vs) {aV:Operand→Value} (i:Nat) (l:Option Operand) (ao:∀ x,l=some x→vs[i]?=some (aV x)) :
  eO J S w (dv us i l) (l.map aV):=by
 cases l with
 | none=>trivial
 | some x =>
   have ab:=ao x rfl;(have ae:i<us.length:=by rw [ad.len];exact (sa.1 ab).1);simp only [dv,si ae,se];exact ad.rel i _ _ (si ae) ab
theorem eO.mono {S':Nat→Nat→Prop} (cp:∀ b o,S b o→S' b o) {a:Option I} {b:Option Value} (h:eO J S w a b):eO J S' w a b:=by
 cases a <;> cases b <;> first | exact h | exact Rel.mono (Ext.refl J) (fun b o h=>⟨cp b o h,rfl⟩) h
theorem Gc (ag:aK B aa J S w H) {aV:Operand→Value} {t:TypeId} {x:Operand} {l h m:Option Operand} {u:I} {vs:List I} {r:I} {i1 i2:Nat}
  (aq:e0 P t u.view (dv vs 0 l) (dv vs i1 h) (dv vs i2 m)=some r) (ab:i1=l.toList.length) (ae:i2=l.toList.length+h.toList.length)
  (iB:Rel J S w u (aV x)) (iw:aU aa J S w (.arg 0) u (aV x)) {bA:Nat→aH} (dY:a5 bA aa J S w vs ((l.toList++h.toList++m.toList).map aV)) :
  ∃ v,(Instr.sliceAt t (aV x) (l.map aV) (h.map aV) (m.map aV)).run P w=.ok v w∧aZ B aa J S w H r v w:=by
 obtain ⟨S',aJ,aN,b9,aS⟩:=mQ ag (ez _) (eA _) iB iw;obtain ⟨v,q1,aW,cF⟩:=Fo (J:=J) (S:=S') (w:=w) aq (I.dm u) aS
  ((lh (aV:=aV) dY 0 l (fun y aY=>by subst aY;simp)).mono aJ)
  ((lh (aV:=aV) dY i1 h (fun y aY=>by subst ab aY;cases l <;> simp)).mono aJ)
  ((lh (aV:=aV) dY i2 m (fun y aY=>by subst ae aY;cases l <;> cases h <;> simp)).mono aJ)
 exact ⟨v,q1,aZ.after (Ext.refl J) (bl.settle aJ fun b o h=>(aN b o h).imp id fun h=>⟨_,h⟩) (aZ.same b9 aW cF)⟩
theorem F_ (ag:aK B aa J S w H) {aV:Operand→Value} {t:TypeId} {x:Operand} {l h m:Option Operand} {us:List I} {r:I} (aq:ej P t l h m us=some r)
  (ad:a5 (fun i=>.arg i) aa J S w us ((x::(l.toList++h.toList++m.toList)).map aV)) :
  ∃ v,(Instr.sliceAt t (aV x) (l.map aV) (h.map aV) (m.map aV)).run P w=.ok v w∧aZ B aa J S w H r v w:=by
 match us,ad with
 | [],ad=>exact absurd ad.len (by simp)
 | u::vs,ad =>
   have iB:=ad.rel 0 u _ rfl rfl;have iw:=ad.own 0 u _ rfl rfl;have dY:=ad.tail;unfold ej at aq;dsimp only at aq;split at aq
   ·rename_i cells len z;split at aq
    ·rename_i e a1;simp only [sf,r_] at aq;obtain ⟨s,ah,n,aI,rfl⟩:=aq;have m8:=lh (aV:=aV) dY 0 h (fun y aY=>by subst aY;simp);generalize aj:aV x=cG at iB iw ⊢;cases iB with
     | b3 c a =>
       obtain ⟨q,q1,aW⟩:=hV (P:=P) (isS:=true) (cap:=0) (lo:=none) (lo':=none) aI rfl (by omega) trivial m8;(obtain rfl:n=0:=by omega);exact ⟨.slice a 0 0,by cases a <;> simp [Instr.sliceAt,Instr.slice,run_underlying a1,q,run_sizeOf ah,Addr.add],aa,J,S,Ext.refl J,bl.refl aa S w,ag,by simpa using .b3 _ _,by cases a <;> first | trivial | exact .inl ⟨rfl,rfl,by simp⟩⟩
     | av _ _ c b o cap f ak hle hu bz b2=>exact absurd rfl (hu _)
     | cP cells len z b o cap =>
       rcases iw with ⟨rfl,rfl,rfl⟩ | ⟨bx,bK,k9,ir,hs,gV,⟨cur,ce,j8,ht,oe⟩,mY⟩
       ·obtain ⟨q,q1,aW⟩:=hV (P:=P) (isS:=true) (cap:=0) (lo:=none) (lo':=none) aI rfl (by omega) trivial m8;(obtain rfl:n=0:=by omega);exact ⟨.slice (some ⟨b,o,none⟩) 0 0,by simp [Instr.sliceAt,Instr.slice,run_underlying a1,q,run_sizeOf ah],aa,J,S,Ext.refl J,bl.refl aa S w,ag,.cP _ _ _ _ _ _,.inl ⟨rfl,rfl,by simp⟩⟩
       ·obtain ⟨q,q1,aW⟩:=hV (P:=P) (isS:=true) (cap:=cap) (lo:=none) (lo':=none) aI rfl (by omega) trivial m8;simp only at bx j8 mY bK;refine ⟨.slice (some ⟨b,o,none⟩) n cap,by simp [Instr.sliceAt,Instr.slice,run_underlying a1,q,run_sizeOf ah];intro;simp [Addr.add],?_⟩;refine hS ag (ez 0) (eA 0) (.cP _ _ _ _ _ _) (.inr ⟨bx,bK,by omega,ir,hs,?_,⟨cur,ce,j8,ht,fun j u v hu ad=>?_⟩,mY⟩)
        ·rw [sZ,gV];exact Nat.min_eq_left (s_ _ aW)
        ·rw [sI] at hu;split at hu
         ·exact oe j u v hu ad
         ·simp at hu
    ·simp at aq
   ·
    rename_i cells len z lo gj;split at aq
    ·rename_i e a1;simp only [sf] at aq;obtain ⟨s,ah,aq⟩:=aq;split at aq
     ·rename_i bR;subst bR;simp only [r_] at aq;obtain ⟨n,aI,rfl⟩:=aq;have rl:=lh (aV:=aV) dY 0 (some lo) (fun y aY=>by cases aY;simp);generalize aj:aV x=cG at iB iw ⊢;cases iB with
      | b3 c a =>
        obtain ⟨q,q1,aW⟩:=hV (P:=P) (isS:=true) (cap:=0) (hi:=none) (hi':=none) (len:=0) rfl aI (by omega) rl trivial;simp only [se,Option.map_none] at q;(obtain rfl:n=0:=by omega);exact ⟨.slice a 0 0,by cases a <;> simp [Instr.sliceAt,Instr.slice,run_underlying a1,q,run_sizeOf ah,Addr.add],aa,J,S,Ext.refl J,bl.refl aa S w,ag,by simpa using .b3 _ _,by cases a <;> first | trivial | exact .inl ⟨rfl,rfl,by simp⟩⟩
      | av _ _ c b o cap f ak hle hu bz b2 =>
        obtain ⟨q,q1,aW⟩:=hV (P:=P) (isS:=true) (cap:=cap) (hi:=none) (hi':=none) (len:=len) rfl aI hle rl trivial;simp only [se,Option.map_none] at q;have CT:∀ k,(cells.drop k).take cells.length=cells.drop k:=fun k=>tg (by rw [tz];omega);by_cases er:cap=n
        ·(obtain rfl:n=len:=by omega);rw [er] at q;refine ⟨.slice (some ⟨b,o,none⟩) 0 0,by simp [Instr.sliceAt,Instr.slice,run_underlying a1,q,run_sizeOf ah,er],?_⟩;rw [Nat.sub_self];rcases iw with ⟨aQ,CR,cH⟩ | ⟨bx,bK,k9,ir,hs,gV,j8,⟨cur,ce,ht,oe⟩,mY⟩
         ·rw [cH,List.drop_nil];exact ⟨aa,J,S,Ext.refl J,bl.refl aa S w,ag,.av [] 0 _ b o 0 (fun _=>undef) (by simp) (sc _) (by simp) (by simp) (by simp),.inl ⟨rfl,rfl,rfl⟩⟩
         ·rw [List.drop_eq_nil_of_le (by omega)];exact ⟨aa,J,S,Ext.refl J,bl.refl aa S w,ag,.av [] 0 _ b o 0 (fun _=>undef) (by simp) (sc _) (by simp) (by simp) (by simp),.inl ⟨rfl,rfl,rfl⟩⟩
        ·have zr:=Rel.sub (J:=J) (k:=cells.length) (n:=len-n) (cap':=cap-n) (n*s) (.own s) (by simp) (by omega) (by simp) bz b2;rw [CT] at zr;refine ⟨.slice (some ⟨b,o+n*s,none⟩) (len-n) (cap-n),by simp [Instr.sliceAt,Instr.slice,run_underlying a1,q,run_sizeOf ah,er,add_lit],?_⟩;rcases iw with ⟨aQ,CR,cH⟩ | ⟨bx,bK,k9,ir,hs,gV,j8,⟨cur,ce,ht,oe⟩,mY⟩
         ·exfalso;omega
         ·refine hS ag (ez 0) (eA 0) zr (.inr ⟨bx,trivial,rfl,by omega,by omega,gV,?_,⟨cur,ce,ht,?_⟩,fun cz jX=>mY cz ?_⟩)
          ·rw [tz,j8,Nat.sub_mul]
          ·have e1:n*s≤cap*s:=s_ _ (by omega);have b':(cap-n)*s=cap*s-n*s:=Nat.sub_mul _ _ _;show cur.size=o+n*s+(cap-n)*s;simp only at oe;omega
          ·have e1:n*s≤len*s:=s_ _ q1;simp only [tz] at jX ⊢;omega
     ·simp at aq
    ·simp at aq
   ·
    rename_i id gid len z;split at aq
    ·rename_i e a1;simp only [sf,r_] at aq;obtain ⟨s,ah,n,aI,rfl⟩:=aq;have m8:=lh (aV:=aV) dY 0 h (fun y aY=>by subst aY;simp);generalize aj:aV x=cG at iB iw ⊢;cases iB with
     | cm _ _ _ _ b cap af aO hle =>
       obtain ⟨q,q1,aW⟩:=hV (P:=P) (isS:=true) (cap:=cap) (lo:=none) (lo':=none) aI rfl hle trivial m8;exact ⟨.slice (some ⟨b,0,none⟩) n cap,by simp [Instr.sliceAt,Instr.slice,run_underlying a1,q,run_sizeOf ah];intro;simp [Addr.add],aa,J,S,Ext.refl J,bl.refl aa S w,ag,.cm _ _ _ _ b cap af aO (by omega),trivial⟩
    ·simp at aq
   ·exact Gc ag aq (by cases l <;> rfl) (by cases l <;> cases h <;> rfl) iB iw dY
theorem F7 {aV:Operand→Value} (eW:∀ v,aV (.const v)=v) {C:b8} {lo mode:Nat} {o:Oper} {us:List I} {r:I} {H':List ar} (ag:aK B aa J S w H)
  (h:a3 P C lo o mode us H=some (r,H')) (iX:∀ c f,o.op=.call c→c.callee≠.value f)
  (aB:dF o mode=false→∀ u∈us,u.plain=true) (ad:a5 (fun i=>.arg i) aa J S w us ((opsOf o).map aV)):eD P aV o w (aZ B aa J S w H' r):=by
 have base:(cB P o us).map (·,H)=some (r,H')→dF o mode=false→eD P aV o w (aZ B aa J S w H' r):=fun h ao=>by
  simp only [r_,Prod.mk.injEq] at h;obtain ⟨r',aX,rfl,rfl⟩:=h;exact F8 eW ag aX ao (aB ao) ad
 cases aC:o.op
 case call c =>
  simp only [a3,aC] at h;cases ak:c.callee with
  | builtin b =>
    simp only [ak] at h;have he:opsOf o=c.args.toList:=by
     obtain ⟨B',args,B5⟩:=c;simp only at ak;subst ak;simp only [opsOf,aC]
    rw [he] at ad;obtain ⟨y,w',ab,ae⟩:∃ y w',(builtin b c.argTypes o.type (c.args.map fun | .const _=>true | _=>false) (c.args.toList.map aV).toArray).run P w=.ok (.value y) w'∧aZ B aa J S w H' r y w':=by
     cases b
     case append =>
      simp only at h;split at h
      ·exact yd ag o.type _ h ad
      ·unfold oh at h;split at h
       ·rename_i cells n z H1 heq;split at h
        ·simp at h
        ·rename_i aI;cases h;obtain ⟨y,w',ab,ae⟩:=yd ag (lo:=lo) (b:=.append) o.type (c.args.map fun | .const _=>true | _=>false) (by simpa only [ei] using heq) ad;have e1:H1=H:=by
          unfold hQ at heq;split at heq
          ·split at heq
           ·simp only [r_,Prod.mk.injEq] at heq;obtain ⟨_,_,_,rfl⟩:=heq;rfl
           ·simp at heq
          ·simp at heq
         subst e1;obtain ⟨bu,ck,bL,aJ,aN,cb,hq,n4⟩:=ae;exact ⟨y,w',ab,aZ.after aJ aN (xJ cb (l:=.res) (by simp) (by simp) aI hq n4)⟩
       ·simp at h
      ·match us,h,ad with
       | [u,x],h,ad =>
         obtain ⟨v,bc,e1,aS,bx,ad⟩:=ad.g4;obtain ⟨y,bc,b',bj,bK,ad⟩:=ad.g4;cases bc with
         | cons=>exact absurd ad.len (by simp)
         | nil =>
         obtain ⟨z,w',ab,ae⟩:=FJ ag o.type (ez _) (eA _) (ez _) (eA _) (by simp) h aS bx bj bK;rw [e1,b'];exact ⟨z,w',by simp [builtin,ab],ae⟩
     all_goals exact yd ag o.type _ h ad
    refine .inl ⟨y,w',?_,ae⟩;simp only [Go.execOp,aC,resolve,ak,Sem.run_bind,Sem.run_pure,Result.andThen_ok,invoke];rw [←ab,←ux,tF];rfl
  | value f=>exact absurd ak (iX c f aC)
  | invoke x n=>simp [ak] at h
 all_goals (have bh:=ad;rw [xE (by simp [aC])] at bh;simp only [aC,Op.operands] at bh)
 case move x =>
  simp only [a3,aC] at h;exact .inl ⟨aV x,w,by simp [Go.execOp,aC],Bf ag eW h bh⟩
 case assign x =>
  simp only [a3,aC] at h;exact .inl ⟨aV x,w,by simp [Go.execOp,aC],Bf ag eW h bh⟩
 case load t a =>
  simp only [a3,aC] at h;obtain ⟨u,rfl,aS,_⟩:=a5.one (x:=a) (by simpa using bh);obtain ⟨x,ab,ae⟩:=FX ag h aS;exact .inl ⟨x,w,by simp [Go.execOp,aC,ab],ae⟩
 case store t a x =>
  simp only [a3,aC] at h;obtain ⟨u,v,rfl,aS,bx,bj,bK⟩:=a5.two (x:=a) (y:=x) (by simpa using bh);unfold gm at h;simp only at h;split at h
  ·simp only [r_,Prod.mk.injEq] at h;obtain ⟨H1,h,rfl,rfl⟩:=h;obtain ⟨w',ab,ae⟩:=Bg ag (ez _) (eA _) h aS bj bK undef;exact .inr ⟨w',by simp [Go.execOp,aC,ab],ae⟩
  ·simp only [r_,Prod.mk.injEq] at h;obtain ⟨H1,h,rfl,rfl⟩:=h;obtain ⟨w',ab,ae⟩:=F' ag (ez _) (eA _) h aS bj bK undef;exact .inr ⟨w',by simp [Go.execOp,aC,ab],ae⟩
  ·split at h
   ·split at h
    ·split at h
     ·simp at h
     ·simp only [r_,Prod.mk.injEq] at h;obtain ⟨H1,h,rfl,rfl⟩:=h;obtain ⟨w',ab,ae⟩:=Bg ag (ez _) (eA _) h aS bj bK undef;exact .inr ⟨w',by simp [Go.execOp,aC,ab],ae⟩
    ·simp at h
   ·simp at h
  ·simp only [r_,Prod.mk.injEq] at h;obtain ⟨H1,h,rfl,rfl⟩:=h;obtain ⟨w',ab,ae⟩:=Ga ag (ez _) (eA _) h aS bj bK undef;exact .inr ⟨w',by simp [Go.execOp,aC,ab],ae⟩
 case box e x =>
  simp only [a3,aC] at h;obtain ⟨u,rfl,aS,bx⟩:=a5.one (x:=x) (by simpa using bh);unfold gW at h;simp only at h;split at h
  ·simp only [r_,Prod.mk.injEq] at h;obtain ⟨vc,h,rfl,rfl⟩:=h;obtain ⟨y,w',ab,ae⟩:=FL (P:=P) ag (ez _) (eA _) h aS bx e;exact .inl ⟨y,w',by simp [Go.execOp,aC,ab],ae⟩
  ·split at h
   ·rename_i vc fO;split at h
    ·rename_i aB;cases h;obtain ⟨y,w',ab,ae⟩:=FM (P:=P) ag fO aB aS e;exact .inl ⟨y,w',by simp [Go.execOp,aC,ab],ae⟩
    ·simp at h
   ·simp at h
 case alloc t =>
  simp only [a3,aC] at h;unfold la at h;split at h
  ·simp only [r_,Prod.mk.injEq] at h;obtain ⟨z,h,rfl,rfl⟩:=h;obtain ⟨y,w',ab,ae⟩:=FH ag h (.tuple #[]);exact .inl ⟨y,w',by simp [Go.execOp,aC,ab],ae⟩
  ·split at h
   ·rename_i e bk he;simp only [r_,Prod.mk.injEq] at h;obtain ⟨s,_,rfl,rfl⟩:=h;obtain ⟨y,w',ab,ae⟩:=FI (s:=s) ag bk (.tuple #[]);exact .inl ⟨y,w',by simp [Go.execOp,aC,ab],ae⟩
   ·simp at h
 case build t parts =>
  simp only [a3,aC] at h;split at h
  ·exact base h (by simp [dF,aC])
  ·simp only [r_,Prod.mk.injEq] at h;obtain ⟨r',h,rfl,rfl⟩:=h;(have dg:a5 (fun i=>.arg i) aa J S w us ((parts.toList.map (·.2)).map aV):=by simpa using bh);have hlen:us.length=parts.toList.length:=by simpa using dg.len
   obtain ⟨v,q1,aW⟩:=FO (parts':=parts.map fun (x:Nat×Operand)=>(x.1,aV x.2)) ag h (by simp [eN,uO,hlen]) (fun j x y aj aY=>by
    simp only [eN,uP] at aj;obtain ⟨xg,hp⟩:=aj;simp only [ux,sm,r_] at aY;obtain ⟨p,fN,rfl⟩:=aY;have aO:((parts.toList.map (·.2)).map aV)[j]?=some (aV p.2):=by simp only [sm,fN,se]
    exact ⟨dg.rel j _ _ hp aO,dg.own j _ _ hp aO⟩)
   exact .inl ⟨v,w,by simp [Go.execOp,aC,q1],aW⟩
 case buildSlice t len parts =>
  simp only [a3,aC] at h;split at h
  ·exact base h (by simp [dF,aC])
  ·simp only [r_,Prod.mk.injEq] at h;obtain ⟨⟨cs,s⟩,h,rfl,rfl⟩:=h;obtain ⟨v,w',q1,aW⟩:=FP eW ag aC h (aB (by simp [dF,aC])) ad;exact .inl ⟨v,w',q1,aW⟩
 case makeSlice t a b =>
  simp only [a3,aC] at h;obtain ⟨u,v,rfl,aS,_,bj,_⟩:=a5.two (x:=a) (y:=b) (by simpa using bh);unfold ka at h;split at h
  ·rename_i k n k' c heq;simp at heq;obtain ⟨rfl,rfl⟩:=heq;split at h
   ·rename_i ak;have e1:=aS.di;have b':=bj.di;split at h
    ·simp only [r_,Prod.mk.injEq] at h;obtain ⟨z,h,rfl,rfl⟩:=h;obtain ⟨y,w',ab,ae⟩:=F2 (k:=k) (k':=k') ag ak.1 ak.2 h;exact .inl ⟨y,w',by simp [Go.execOp,aC,e1,b',ab],ae⟩
    ·split at h
     ·rename_i iX;simp only [r_,Prod.mk.injEq] at h;obtain ⟨z,h,rfl,rfl⟩:=h;obtain ⟨rfl,aQ⟩:=iX;obtain ⟨y,w',ab,ae⟩:=F3 (k:=k) (k':=k') ag aQ h;exact .inl ⟨y,w',by simp [Go.execOp,aC,e1,b',ab],ae⟩
     ·simp at h
   ·simp at h
  ·simp at h
 case makeMap t r =>
  simp only [a3,aC] at h;obtain ⟨x,w',ab,rfl,ae⟩:=F1 (P:=P) ag h;exact .inl ⟨x,w',by simp [Go.execOp,aC,ab],ae⟩
 case mapUpdate t m k v =>
  simp only [a3,aC] at h;have aB:=aB (by simp [dF,aC]);obtain ⟨js,km,lC,rfl,e',bO,oI⟩:∃ js km lC,us=[js,km,lC]∧Rel J S w js (aV m)∧Rel J S w km (aV k)∧Rel J S w lC (aV v):=by
   match us,bh with
   | [js,km,lC],bh=>exact ⟨js,km,lC,rfl,bh.rel 0 _ _ rfl rfl,bh.rel 1 _ _ rfl rfl,bh.rel 2 _ _ rfl rfl⟩
   | [],bh=>exact absurd bh.len (by simp)
   | [_],bh=>exact absurd bh.len (by simp)
   | [_,_],bh=>exact absurd bh.len (by simp)
   | _::_::_::_::_,bh=>exact absurd bh.len (by simp)
  obtain ⟨w',ab,ae⟩:=F4 ag h e' bO (aB km (by simp)) oI (aB lC (by simp)) undef;exact .inr ⟨w',by simp [Go.execOp,aC,ab],ae⟩
 case lookup t m k ok =>
  simp only [a3,aC] at h;obtain ⟨js,km,rfl,e',_,bO,_⟩:=a5.two (x:=m) (y:=k) (by simpa using bh);obtain ⟨x,ab,ae⟩:=F0 ag h e' bO;exact .inl ⟨x,w,by simp [Go.execOp,aC,ab],ae⟩
 case range t m =>
  simp only [a3,aC] at h;obtain ⟨js,rfl,e',_⟩:=a5.one (x:=m) (by simpa using bh);obtain ⟨x,w',ab,ae⟩:=F9 ag h e';exact .inl ⟨x,w',by simp [Go.execOp,aC,ab],ae⟩
 case entry m =>
  simp only [a3,aC] at h;obtain ⟨js,rfl,e',_⟩:=a5.one (x:=m) (by simpa using bh);obtain ⟨x,ab,ae⟩:=FV (P:=P) ag h e';exact .inl ⟨x,w,by simp [Go.execOp,aC,ab],ae⟩
 case slice t x l bE m =>
  simp only [a3,aC,cB,r_,Prod.mk.injEq] at h;obtain ⟨r',h,rfl,rfl⟩:=h;obtain ⟨v,ab,ae⟩:=F_ (x:=x) ag h (by simpa using bh);exact .inl ⟨v,w,by simp [Go.execOp,aC,ab],ae⟩
 all_goals exact base (by simpa only [a3,aC] using h) (by simp [dF,aC])
end
end Go.Proofs.Ytkoioidpbbbaiaa.Ab


namespace Go.Proofs.Ytkoioidpbbbaiaa.Ab
open Go
def dr (aa:Nat→Option aH):Nat→Option aH:=fun b=>match aa b with
 | some (.slot _)=>none
 | x=>x
def back (aa bu:Nat→Option aH) (d:Option Nat):Nat→Option aH:=fun b=>match aa b with
 | some (.slot i)=>if d=some i then none else some (.slot i)
 | _=>match bu b with
   | some .res=>d.map .slot
   | some (.obj id)=>some (.obj id)
   | some (.cell id j)=>some (.cell id j)
   | _=>none
def Marks (N:Nat) (aa:Nat→Option aH) (w:World) (fG:List Deferred):Prop :=
 N≤w.heap.size∧(∀ d∈fG,∃ r,d.target=.collected r∧N≤r∧aa r=none∧w.heap[r]?=some (.deferred (some [])))∧fG.Pairwise (fun a b=>a.target≠b.target)
structure cA (B N:Nat) (aa:Nat→Option aH) (J:List Nat) (S:Nat→Nat→Prop) (w:World) (s:a6) (a:Act):Prop where
 T:a5 .slot aa J S w s.T a.tmps.toList
 H:aK B aa J S w s.H
 M:Marks N aa w a.defers
def Step (B N:Nat) (aa:Nat→Option aH) (J:List Nat) (S:Nat→Nat→Prop) (w:World) (aD:a6) (aM:Act) (w':World):Prop :=
 ∃ ay bV S',Ext J bV∧bl aa S w ay S' w'∧cA B N ay bV S' w' aD aM
section
variable {P:Program} {B N:Nat} {J:List Nat} {w:World} {H:List ar} {aa:Nat→Option aH} {S:Nat→Nat→Prop}
theorem Marks.az {ay:Nat→Option aH} {S':Nat→Nat→Prop} {w':World} {fG:List Deferred} (h:Marks N aa w fG) (az:bl aa S w ay S' w'):Marks N ay w' fG:=⟨sT h.1 az.size,fun d a1=>by
 obtain ⟨r,ab,ae,aF,a_⟩:=h.2.1 d a1;have ai:r<w.heap.size:=(sJ.1 a_).1;refine ⟨r,ab,ae,?_,(az.cE r ai aF).trans a_⟩;cases bP:ay r with
 | none=>rfl
 | some l =>
   rcases az.own r (by simp [bP]) with bQ | bQ
   ·exact absurd aF bQ
   ·omega,h.2.2⟩
theorem nN {b:Nat} (h:aa b=none):dr aa b=none:=by simp [dr,h]
theorem pM {b i:Nat} (h:aa b=some (.slot i)):dr aa b=none:=by simp [dr,h]
theorem y_ {b:Nat} {l:aH} (h:aa b=some l) (ao:∀ i,l≠.slot i):dr aa b=some l:=by
 cases l <;> first | (simp only [dr,h];done) | exact absurd rfl (ao _)
theorem y' {b:Nat} {l:aH} (h:dr aa b=some l):aa b=some l∧∀ i,l≠.slot i:=by
 unfold dr at h;split at h
 ·simp at h
 ·rename_i aI;exact ⟨h,fun i e=>by subst e;exact aI i h⟩
theorem C7 (b i:Nat):dr aa b≠some (.slot i):=fun h=>(y' h).2 i rfl
theorem B7 {bu:Nat→Option aH} {d:Option Nat} {b i:Nat} (h:aa b=some (.slot i)) (a1:d≠some i):back aa bu d b=some (.slot i):=by simp [back,h,a1]
theorem mB (ag:aK B aa J S w H):aK B (dr aa) J S w H:=by
 refine ⟨ag.cK,fun id o aq=>?_,ag.cd,fun b l af=>ag.base b l (y' af).1,ag.c0⟩;refine (ag.obj id o aq).frame (Ext.refl J) (fun _ _ h=>⟨h,rfl⟩) fun b l af ao=>⟨y_ af ?_,rfl,fun _ h=>h⟩;rcases ao with rfl | ⟨j,rfl⟩ <;> simp
theorem Bx {us:List I} {vs:List Value} (h:a5 (fun i=>.arg i) aa J S w us vs):a5 (fun i=>.arg i) (dr aa) J S w us vs :=
 ⟨h.len,h.rel,fun i u v hu ad=>(h.own i u v hu ad).mono (Ext.refl J) (fun _ _ h=>⟨h,rfl⟩) fun b af=>⟨y_ af (by simp),rfl,fun _ h=>h⟩⟩
theorem Aj (a:Act) (d:Option Tmp) (v:Value):(a.put d v).tmps.toList=match d with | some d=>a.tmps.toList.set d v | none=>a.tmps.toList:=by
 cases d <;> simp [Act.put]
theorem put_defers (a:Act) (d:Option Tmp) (v:Value):(a.put d v).defers=a.defers:=by
 cases d <;> rfl
theorem z_ {T:List I} {a:Act} {H':List ar} {r:I} {v:Value} {w':World} (dst:Option Tmp) (aL:cA B N aa J S w ⟨T,H⟩ a) {bu:Nat→Option aH} {ck:List Nat} {bL:Nat→Nat→Prop}
  (bN:Ext J ck) (ep:bl (dr aa) S w bu bL w') (ch:aK B bu ck bL w' H') (ai:Rel ck bL w' r v) (aq:aU bu ck bL w' .res r v) :
  bl aa S w (back aa bu dst) bL w'∧cA B N (back aa bu dst) ck bL w' ⟨put T dst r,H'⟩ (a.put dst v):=by
 have ps:∀ b l,aa b=some l→b<w.heap.size:=fun b l h=>(aL.H.base b l h).2;have kO:∀ b l,bu b=some l→∀ i,aa b≠some (.slot i):=fun b l h i ah=>by
  rcases ep.own b (by simp [h]) with ab | ab
  ·exact ab (pM ah)
  ·have:=ps b _ ah;omega
 have y4:∀ b l,bu b=some l→back aa bu dst b=match l with | .res=>dst.map .slot | .obj id=>some (.obj id) | .cell id j=>some (.cell id j) | _=>none:=fun b l h=>by
  unfold back;split
  ·rename_i i ah;exact absurd ah (kO b l h i)
  ·rw [h];cases l <;> rfl
 have az:bl aa S w (back aa bu dst) bL w':=by
  refine ⟨ep.os,ep.tape,ep.output,ep.size,fun b af aI=>ep.cE b af (nN aI),ep.set,fun b o h=>?_,fun b h=>?_⟩
  ·rcases ep.fresh b o h with h | h | h
   ·exact .inl h
   ·exact .inr (.inl fun aI=>h (nN aI))
   ·exact .inr (.inr h)
  ·unfold back at h;split at h
   ·rename_i ah;exact .inl (by simp [ah])
   ·rcases ep.own b (fun aI=>by simp [aI] at h) with ab | ab
    ·exact .inl fun aI=>ab (nN aI)
    ·exact .inr ab
 refine ⟨az,⟨?_,⟨ch.cK,fun id o aq=>?_,ch.cd,fun b l af=>?_,ch.c0⟩,?_⟩⟩
 ·have fT:∀ (i:Nat) (u:I) (x:Value),dst≠some i→T[i]?=some u→a.tmps.toList[i]?=some x→Rel ck bL w' u x∧aU (back aa bu dst) ck bL w' (.slot i) u x:=fun i u x a1 hu aj=>by
   refine ⟨(aL.T.rel i u x hu aj).mono bN ep.set,(aL.T.own i u x hu aj).mono bN ep.set fun b af=>⟨B7 af a1,ep.cE b (ps b _ af) (pM af),fun o h=>?_⟩⟩;rcases ep.fresh b o h with h | h | h
   ·exact h
   ·exact absurd (pM af) h
   ·have:=ps b _ af;omega
  cases dst with
  | none=>exact ⟨aL.T.len,fun i u x hu aj=>(fT i u x (by simp) hu aj).1,fun i u x hu aj=>(fT i u x (by simp) hu aj).2⟩
  | some d =>
    have hlen:=aL.T.len;have both:∀ (i:Nat) (u:I) (x:Value),(T.set d r)[i]?=some u→(a.tmps.toList.set d v)[i]?=some x→Rel ck bL w' u x∧aU (back aa bu (some d)) ck bL w' (.slot i) u x:=fun i u x hu aj=>by
     by_cases aE:d=i
     ·subst aE;(have aR:d<T.length:=by have:=(sa.1 hu).1;simpa using this);(have mw:d<a.tmps.toList.length:=by have:=(sa.1 aj).1;simpa using this);rw [sk aR] at hu;rw [sk mw] at aj;cases hu;cases aj;exact ⟨ai,aq.mono (Ext.refl _) (fun _ _ h=>⟨h,rfl⟩) fun b af=>⟨by rw [y4 b _ af];rfl,rfl,fun _ h=>h⟩⟩
     ·rw [sd aE] at hu aj;exact fT i u x (by simpa using aE) hu aj
    refine ⟨by simp [put,g3,Act.put,hlen],?_,?_⟩
    ·intro i u x hu aj;simp only [put,g3] at hu;rw [Aj] at aj;exact (both i u x hu aj).1
    ·intro i u x hu aj;simp only [put,g3] at hu;rw [Aj] at aj;exact (both i u x hu aj).2
 ·refine (ch.obj id o aq).frame (Ext.refl ck) (fun _ _ h=>⟨h,rfl⟩) fun b l af ao=>⟨?_,rfl,fun _ h=>h⟩;rw [y4 b l af];rcases ao with rfl | ⟨j,rfl⟩ <;> rfl
 ·unfold back at af;split at af
  ·rename_i i ah;have:=aL.H.base b _ ah;exact ⟨this.1,ud this.2 ep.size⟩
  ·cases ae:bu b with
   | none=>simp [ae] at af
   | some l'=>exact ch.base b l' ae
 ·rw [put_defers];exact aL.M.az az
theorem oj {T:List I} {a:Act} {H':List ar} {r:I} {v:Value} {w':World} (dst:Option Tmp) (aL:cA B N aa J S w ⟨T,H⟩ a) (aB:aZ B (dr aa) J S w H' r v w')
  (u:I) (hu:∀ bu ck bL,Rel ck bL w' r v→aU bu ck bL w' .res r v→Rel ck bL w' u v) :
  ∃ ay bV S',Ext J bV∧bl aa S w ay S' w'∧cA B N ay bV S' w' ⟨put T dst r,H'⟩ (a.put dst v)∧Rel bV S' w' u v:=by
 obtain ⟨bu,ck,bL,bN,ep,ch,ai,aq⟩:=aB;obtain ⟨ab,ae⟩:=z_ dst aL bN ep ch ai aq;exact ⟨_,ck,bL,bN,ab,ae,hu bu ck bL ai aq⟩
theorem Step.trans {b5:Nat→Option aH} {cZ:List Nat} {a4:Nat→Nat→Prop} {bI:World} (bN:Ext J cZ) (az:bl aa S w b5 a4 bI) {aD:a6} {aM:Act} {w':World} (h:Step B N b5 cZ a4 bI aD aM w') :
  Step B N aa J S w aD aM w' :=
 let ⟨ay,bV,S',aJ,aN,cb⟩:=h
 ⟨ay,bV,S',bN.trans aJ,az.trans aN,cb⟩
theorem a5.swap {bA:Nat→aH} {T:List I} {bc:List Value} (h:a5 bA aa J S w T bc) (t:Nat) {u:I} (hu:u.plain=true) (ai:∀ v,bc[t]?=some v→Rel J S w u v):a5 bA aa J S w (T.set t u) bc:=by
 refine ⟨by simpa using h.len,fun i x v aj ad=>?_,fun i x v aj ad=>?_⟩
 ·by_cases hi:t=i
  ·subst hi;(have aR:t<T.length:=by have:=(sa.1 aj).1;simpa using this);rw [sk aR] at aj;cases aj;exact ai v ad
  ·rw [sd hi] at aj;exact h.rel i x v aj ad
 ·by_cases hi:t=i
  ·subst hi;(have aR:t<T.length:=by have:=(sa.1 aj).1;simpa using this);rw [sk aR] at aj;cases aj;exact aU.b4 hu
  ·rw [sd hi] at aj;exact h.own i x v aj ad
end
end Go.Proofs.Ytkoioidpbbbaiaa.Ab


namespace Go.Proofs.Ytkoioidpbbbaiaa.Ab
open Go
section
variable {P:Program} {B N:Nat} {J:List Nat} {w:World} {H:List ar} {aa:Nat→Option aH} {S:Nat→Nat→Prop}
theorem Rel.narrow {ck:List Nat} {bL:Nat→Nat→Prop} {bX:World} (bN:Ext J ck) {u:I} {v v2:Value} (h:Rel J S w u v) (ae:Rel ck bL bX u v2):Rel J bL bX u v2:=by
 induction h generalizing v2 with
 | a0 v=>exact .a0 v2
 | bool b=>cases ae;exact .bool b
 | dA b=>cases ae;exact .dA _
 | int k n=>cases ae;exact .int k n
 | str s=>cases ae;exact .str s
 | eI=>cases ae;exact .eI
 | ptr id off b h =>
   cases ae with
   | ptr _ _ cw k=>rw [bN _ _ h] at k;cases k;exact .ptr id off b h
 | cm id gid len z b cap h aO hle =>
   cases ae with
   | cm _ _ _ _ cw o5 k zF _ =>
     rw [bN _ _ h] at k;cases k;rw [bN _ _ aO] at zF;cases zF;exact .cm id gid len z b cap h aO hle
 | bS cells b o f h ai a8 =>
   cases ae with
   | bS _ b o f k ew=>exact .bS cells b o f k fun j u aw=>a8 j u aw (ew j u aw)
 | b3 c a =>
   cases ae with
   | b3 c a=>exact .b3 c a
   | av _ _ _ b o cap f ak hle hu k ew=>exact .av [] 0 c b o cap f ak hle hu k fun j u aw=>by simp at aw
   | cP _ _ z b o cap=>exact .cP _ _ z b o cap
 | av cells len c b o cap f ak hle hu h ai a8 =>
   cases ae with
   | b3 c a=>exact .b3 c a
   | av _ _ _ b o cap f ak hle hu k ew=>exact .av cells len c b o cap f ak hle hu k fun j u aw=>a8 j u aw (ew j u aw)
   | cP _ _ z b o cap=>exact .cP _ _ z b o cap
 | raw cells len z b o cap =>
   cases ae with
   | raw _ _ _ b o cap=>exact .raw _ _ z b o cap
 | cP cells len z b o cap =>
   cases ae with
   | b3 c a=>exact .b3 _ _
   | av _ _ _ b o cap f ak hle hu k ew=>exact absurd rfl (hu z)
   | cP _ _ z b o cap=>exact .cP _ _ z b o cap
 | ref id off len c bb b cap h ak hle =>
   cases ae with
   | ref _ _ _ _ _ cw o5 k DS DV=>rw [bN _ _ h] at k;cases k;exact .ref id off len c bb b o5 h DS DV
 | func f as bs vs ws ab GM bU b1 aS bj i1 i2 =>
   cases ae with
   | func _ _ _ eY Gy aJ aN _ _ q1 aW =>
     refine .func f as bs eY Gy aJ aN bU b1 (fun j u v hu ad=>?_) (fun j u v hu ad=>?_)
     ·(have aw:j<vs.size:=by have:=(sa.1 hu).1;omega);exact i1 j u vs[j] hu (sr aw) (q1 j u v hu ad)
     ·(have aw:j<ws.size:=by have:=(sa.1 hu).1;omega);exact i2 j u ws[j] hu (sr aw) (aW j u v hu ad)
 | yield id b h =>
   cases ae with
   | yield _ cw k=>rw [bN _ _ h] at k;cases k;exact .yield id b h
 | map id b h =>
   cases ae with
   | map _ cw k=>rw [bN _ _ h] at k;cases k;exact .map id b h
 | agg as vs h p one r a8 =>
   cases ae with
   | agg _ eY k _ xC q =>
     refine .agg as eY k p xC fun j u v hu ad=>?_;(have aw:j<vs.size:=by have:=(sa.1 hu).1;omega);exact a8 j u vs[j] hu (sr aw) (q j u v hu ad)
 | tuple as vs h p r a8 =>
   cases ae with
   | tuple _ eY k _ q =>
     refine .tuple as eY k p fun j u v hu ad=>?_;(have aw:j<vs.size:=by have:=(sa.1 hu).1;omega);exact a8 j u vs[j] hu (sr aw) (q j u v hu ad)
 | c3 as c n z bs vs h lp lq one oq ro ot kZ io xk =>
   cases ae with
   | c3 _ _ _ _ _ eY k _ _ xC EP ES ER =>
     refine .c3 as c n z bs eY k lp lq xC (fun j u v hu ad=>?_) (fun v ad=>?_) (fun j u v hu ad=>?_)
     ·(have aw:j<vs.size:=by have:=(sa.1 hu).1;omega);exact kZ j u vs[j] hu (sr aw) (EP j u v hu ad)
     ·(have aw:as.length<vs.size:=by omega);exact io vs[as.length] (sr aw) (ES v ad)
     ·(have aw:as.length+1+j<vs.size:=by have:=(sa.1 hu).1;omega);exact xk j u vs[as.length+1+j] hu (sr aw) (ER j u v hu ad)
theorem j6 {f:I→Option I}:∀ {xs ys:List I},ea f xs=some ys→ys.length=xs.length∧∀ (j:Nat) (y:I),ys[j]?=some y→∃ x,xs[j]?=some x∧f x=some y
 | [],ys,h=>by simp [ea] at h;subst h;simp
 | x::xs,ys,h=>by
   simp only [ea] at h;split at h
   ·rename_i y aY;simp only [r_] at h;obtain ⟨ys,h,rfl⟩:=h;obtain ⟨ab,ae⟩:=j6 h;refine ⟨by simp [ab],fun j z bk=>?_⟩;cases j with
    | zero=>simp at bk;subst bk;exact ⟨x,rfl,aY⟩
    | succ j=>simpa using ae j z (by simpa using bk)
   ·simp at h
theorem h7 {lo id0 n d:Nat} {u r:I} (h:bM H lo id0 n d u=some r):(u.plain=true→r.plain=true)∧(u.cW=true→r.cW=true):=by
 cases d with
 | zero=>simp [bM] at h
 | succ d =>
   unfold bM at h;split at h
   ·simp only [r_] at h;rename_i c;obtain ⟨cs,_,rfl⟩:=h;cases c <;> exact ⟨fun h=>h,fun h=>h⟩
   ·simp only [r_] at h;obtain ⟨cs,_,rfl⟩:=h;exact ⟨fun h=>rfl,fun h=>rfl⟩
   ·simp only [r_] at h;obtain ⟨cs,_,rfl⟩:=h;exact ⟨fun h=>rfl,fun h=>rfl⟩
   ·simp only [r_] at h;obtain ⟨cs,_,rfl⟩:=h;exact ⟨fun h=>rfl,fun h=>rfl⟩
   ·split at h <;> simp at h;subst h;exact ⟨fun h=>rfl,fun h=>rfl⟩
   ·split at h
    ·simp at h;subst h;exact ⟨fun h=>rfl,fun h=>rfl⟩
    ·split at h
     ·simp at h;subst h;exact ⟨fun h=>rfl,fun h=>rfl⟩
     ·split at h
      ·simp only [r_] at h;obtain ⟨cs,_,rfl⟩:=h;exact ⟨fun h=>rfl,fun h=>rfl⟩
      ·simp at h
   ·split at h
    ·simp at h;subst h;exact ⟨fun h=>rfl,fun h=>rfl⟩
    ·split at h
     ·simp at h;subst h;exact ⟨fun h=>rfl,fun h=>rfl⟩
     ·split at h
      ·simp only [r_] at h;obtain ⟨cs,_,rfl⟩:=h;rename_i cap _ _ _ _ _ _;constructor <;> intro _ <;> (unfold e3;split <;> (try split) <;> rfl)
      ·simp at h
   ·split at h <;> simp at h;subst h;exact ⟨fun h=>rfl,fun h=>rfl⟩
   ·split at h
    ·simp at h;subst h;exact ⟨fun h=>rfl,fun h=>rfl⟩
    ·split at h
     ·simp at h;subst h;exact ⟨fun h=>rfl,fun h=>rfl⟩
     ·simp at h;subst h;exact ⟨fun h=>rfl,fun h=>rfl⟩
   ·simp at h
   ·simp at h
   ·simp at h
   ·simp at h;subst h;exact ⟨fun h=>h,fun h=>h⟩
theorem Cq {cap:Option Nat} {n m:Nat} (ak:∀ k,cap=some k→m=k) (h:e3 cap n=.full):m=n:=by
 unfold e3 at h;cases cap with
 | none=>simp at h
 | some c =>
   simp only at h;split at h
   ·rename_i CQ;rw [ak c rfl,CQ]
   ·cases h
theorem yX {cap:Option Nat} {n:Nat} (z:Nat):e3 cap n≠.uniq z:=by
 unfold e3;cases cap with
 | none=>simp
 | some c=>simp only;split <;> simp
def gB (aa:Nat→Option aH) (S:Nat→Nat→Prop) (w:World) (lo id0:Nat) (b o:Nat):Prop :=
 S b o∨((∃ id,lo≤id∧id≠id0∧aa b=some (.obj id))∧∃ v,w.cell? ⟨b,o,none⟩=some v)
theorem l9 (ag:aK B aa J S w H) {lo id0 n:Nat} {gy:List Nat} (bD:∀ (id b:Nat),id<lo→J[id]?=some b→gy[id]?=some b) (aI:∀ b,J[id0]?=some b→gy[n]?=some b) :
  ∀ (d:Nat) (u r:I) (v:Value),bM H lo id0 n d u=some r→Rel J S w u v→Rel gy (gB aa S w lo id0) w r v:=by
 intro d
 induction d with
 | zero=>intro u r v h;simp [bM] at h
 | succ d a8 =>
   intro u r v h ai;have list:∀ {cells cs:List I} {b o:Nat} {f:Nat→Value},ea (bM H lo id0 n d) cells=some cs →
     (∀ (j:Nat) (u:I),cells[j]?=some u→S b (o+j)∧w.cell? ⟨b,o+j,none⟩=some (f j)∧u.plain=true∧(f j).oneCell'=true) →
     (∀ (j:Nat) (u:I),cells[j]?=some u→Rel J S w u (f j)) →
     (∀ (j:Nat) (u:I),cs[j]?=some u→gB aa S w lo id0 b (o+j)∧w.cell? ⟨b,o+j,none⟩=some (f j)∧u.plain=true∧(f j).oneCell'=true) ∧
     (∀ (j:Nat) (u:I),cs[j]?=some u→Rel gy (gB aa S w lo id0) w u (f j)):=fun hm ak fu=>by
    obtain ⟨ab,ae⟩:=j6 hm;refine ⟨fun j y aY=>?_,fun j y aY=>?_⟩
    ·obtain ⟨x,aj,aP⟩:=ae j y aY;obtain ⟨a7,a9,bt,b6⟩:=ak j x aj;exact ⟨.inl a7,a9,(h7 aP).1 bt,b6⟩
    ·obtain ⟨x,aj,aP⟩:=ae j y aY;exact a8 x y _ aP (fu j x aj)
   have arr:∀ {as bs:List I} {vs:Array Value},ea (bM H lo id0 n d) as=some bs→vs.size=as.length→(∀ u∈as,u.plain=true) →
     (∀ (j:Nat) (u:I) (v:Value),as[j]?=some u→vs[j]?=some v→Rel J S w u v) →
     vs.size=bs.length∧(∀ u∈bs,u.plain=true)∧∀ (j:Nat) (u:I) (v:Value),bs[j]?=some u→vs[j]?=some v→Rel gy (gB aa S w lo id0) w u v:=fun hm ao aB fu=>by
    obtain ⟨ab,ae⟩:=j6 hm;refine ⟨by omega,fun y aY=>?_,fun j y v aY ad=>?_⟩
    ·obtain ⟨j,aw⟩:=sW.1 aY;obtain ⟨x,aj,aP⟩:=ae j y aw;exact (h7 aP).1 (aB x (sv aj))
    ·obtain ⟨x,aj,aP⟩:=ae j y aY;exact a8 x y v aP (fu j x v aj ad)
   cases ai with
   | a0 v=>simp only [bM,Option.some.injEq] at h;subst h;exact .a0 v
   | bool b=>simp only [bM,Option.some.injEq] at h;subst h;exact .bool b
   | dA b=>simp only [bM,Option.some.injEq] at h;subst h;exact .dA b
   | int k n=>simp only [bM,Option.some.injEq] at h;subst h;exact .int k n
   | str s=>simp only [bM,Option.some.injEq] at h;subst h;exact .str s
   | eI=>simp only [bM,Option.some.injEq] at h;subst h;exact .eI
   | raw=>simp [bM] at h
   | c3=>simp [bM] at h
   | cm=>simp [bM] at h
   | map id b k =>
     simp only [bM] at h;split at h
     ·rename_i aR;simp only [Option.some.injEq] at h;subst h;exact .map _ b (bD id b aR k)
     ·split at h
      ·rename_i heq;subst heq;simp only [Option.some.injEq] at h;subst h;exact .map _ b (aI b k)
      ·simp only [Option.some.injEq] at h;subst h;exact .a0 _
   | yield id b k =>
     simp only [bM] at h;split at h
     ·rename_i aR;simp only [Option.some.injEq] at h;subst h;exact .yield _ b (bD id b aR k)
     ·simp at h
   | b3 c a =>
     simp only [bM,r_] at h;obtain ⟨cs,hm,rfl⟩:=h;simp [ea] at hm;subst hm;exact .b3 _ _
   | av cells len c b o cap f ak hle hu k ew =>
     simp only [bM,r_] at h;obtain ⟨cs,hm,rfl⟩:=h;obtain ⟨l1,l2⟩:=list hm k ew;exact .av _ _ _ b o cap f ak hle hu l1 l2
   | cP cells len z b o cap =>
     simp only [bM,r_] at h;obtain ⟨cs,hm,rfl⟩:=h;exact .cP _ _ z b o cap
   | bS cells b o f k ew =>
     simp only [bM,r_] at h;obtain ⟨cs,hm,rfl⟩:=h;obtain ⟨l1,l2⟩:=list hm k ew;exact .bS _ b o f l1 l2
   | agg as vs k p one q =>
     simp only [bM,r_] at h;obtain ⟨cs,hm,rfl⟩:=h;obtain ⟨aA,aG,aT⟩:=arr hm k p q;exact .agg _ vs aA aG one aT
   | tuple as vs k p q =>
     simp only [bM,r_] at h;obtain ⟨cs,hm,rfl⟩:=h;obtain ⟨aA,aG,aT⟩:=arr hm k p q;exact .tuple _ vs aA aG aT
   | func f as bs vs ws aJ aN bU b1 q1 aW =>
     simp only [bM] at h;split at h
     ·rename_i cu af;simp only [Option.some.injEq] at h;subst h;obtain ⟨aA,aG,aT⟩:=arr cu aJ bU q1;obtain ⟨bm,cw,e2⟩:=arr af aN b1 aW;exact .func f _ _ vs ws aA bm aG cw aT e2
     ·simp at h
   | ptr id off b k =>
     simp only [bM] at h;split at h
     ·rename_i aR;simp only [Option.some.injEq] at h;subst h;exact .ptr _ _ b (bD id b aR k)
     ·rename_i fh;split at h
      ·rename_i heq;subst heq;simp only [Option.some.injEq] at h;subst h;exact .ptr _ _ b (aI b k)
      ·rename_i bJ;split at h
       ·rename_i l aE;simp only [r_] at h;obtain ⟨cs,hm,rfl⟩:=h;obtain ⟨au,cur,e,aA,aG,aT,br,bg,bd⟩:=ag.obj id _ aE;rw [k] at aA;cases aA;obtain ⟨da,db⟩:=j6 hm;(have bz:∀ o,o<cur.size→w.cell? ⟨b,o,none⟩=cur[o]?:=fun o aq=>by simp [World.cell?,aT,aq]);have facts:∀ (j:Nat) (y:I),cs[j]?=some y→∃ x c,off+j<cur.size∧cur[off+j]?=some c∧c.oneCell'=true∧x.plain=true∧bM H lo id0 n d x=some y∧Rel J S w x c:=fun j y aY=>by
         obtain ⟨x,aj,aP⟩:=db j y aY;have h':=(sa.1 aj).1;simp at h';(have fr:off+j<l.length:=by omega);(have fi:off+j<cur.size:=by omega);have ao:l[off+j]?=some l[off+j]:=si fr;have ad:cur[off+j]?=some cur[off+j]:=sr fi;obtain ⟨a7,a9,bt,b6⟩:=bd (off+j) _ _ ao ad;rw [sm,sQ,ao] at aj;simp at aj;subst aj;exact ⟨_,_,fi,ad,a9,I.dm _,aP,bt.view a7⟩
        refine .bS cs b off (fun j=>cur.getD (off+j) undef) (fun j y aY=>?_) (fun j y aY=>?_)
        ·obtain ⟨x,c,aw,c8,ab,aB,aP,eh⟩:=facts j y aY;(have aO:cur.getD (off+j) undef=c:=by rw [su,c8];rfl);rw [aO];exact ⟨.inr ⟨⟨id,by omega,bJ,aG⟩,c,by rw [bz _ aw,c8]⟩,by rw [bz _ aw,c8],(h7 aP).1 aB,ab⟩
        ·obtain ⟨x,c,aw,c8,ab,aB,aP,eh⟩:=facts j y aY;(have aO:cur.getD (off+j) undef=c:=by rw [su,c8];rfl);simp only [aO];exact a8 x y c aP eh
       ·simp at h
   | ref id off len cap bb b eo k ak hle =>
     simp only [bM] at h;split at h
     ·rename_i aR;simp only [Option.some.injEq] at h;subst h;exact .ref _ _ _ _ _ b eo (bD id b aR k) ak hle
     ·rename_i fh;split at h
      ·rename_i heq;subst heq;simp only [Option.some.injEq] at h;subst h;exact .ref _ _ _ _ _ b eo (aI b k) ak hle
      ·rename_i bJ;split at h
       ·rename_i row cI;simp only [r_] at h;obtain ⟨cs,hm,rfl⟩:=h;unfold rowOf at cI;simp only at cI;split at cI
        ·rename_i l aE;split at cI
         ·rename_i dJ;simp only [Option.some.injEq] at cI;obtain ⟨au,cur,e,aA,aG,aT,br,bg,bd⟩:=ag.obj id _ aE;rw [k] at aA;cases aA;obtain ⟨da,db⟩:=j6 hm;(have bz:∀ o,o<cur.size→w.cell? ⟨b,o,none⟩=cur[o]?:=fun o aq=>by simp [World.cell?,aT,aq]);have facts:∀ (j:Nat) (y:I),cs[j]?=some y→∃ x c,off+j<cur.size∧cur[off+j]?=some c∧c.oneCell'=true∧x.plain=true∧bM H lo id0 n d x=some y∧Rel J S w x c:=fun j y aY=>by
           obtain ⟨x,aj,aP⟩:=db j y aY;subst cI;have h':=(sa.1 aj).1;simp at h';(have fr:off+j<l.length:=by omega);(have fi:off+j<cur.size:=by omega);have ao:l[off+j]?=some l[off+j]:=si fr;have ad:cur[off+j]?=some cur[off+j]:=sr fi;obtain ⟨a7,a9,bt,b6⟩:=bd (off+j) _ _ ao ad;rw [sm,sI,if_pos (by omega),sQ,ao] at aj;simp at aj;subst aj;exact ⟨_,_,fi,ad,a9,I.dm _,aP,bt.view a7⟩
          refine .av cs len _ b off eo (fun j=>cur.getD (off+j) undef) (fun C0=>Cq ak C0) hle (fun z=>yX z) (fun j y aY=>?_) (fun j y aY=>?_)
          ·obtain ⟨x,c,aw,c8,ab,aB,aP,eh⟩:=facts j y aY;(have aO:cur.getD (off+j) undef=c:=by rw [su,c8];rfl);rw [aO];exact ⟨.inr ⟨⟨id,by omega,bJ,aG⟩,c,by rw [bz _ aw,c8]⟩,by rw [bz _ aw,c8],(h7 aP).1 aB,ab⟩
          ·obtain ⟨x,c,aw,c8,ab,aB,aP,eh⟩:=facts j y aY;(have aO:cur.getD (off+j) undef=c:=by rw [su,c8];rfl);simp only [aO];exact a8 x y c aP eh
         ·simp at cI
        ·simp at cI
       ·simp at h
end
end Go.Proofs.Ytkoioidpbbbaiaa.Ab


namespace Go.Proofs.Ytkoioidpbbbaiaa.Ab
open Go
def fQ (aa:Nat→Option aH) (lo id0 n:Nat):Nat→Option aH:=fun b=>match aa b with
 | some (.obj id)=>if id<lo then some (.obj id) else if id=id0 then some (.obj n) else none
 | some (.cell id j)=>if id<lo then some (.cell id j) else if id=id0 then some (.cell n j) else none
 | x=>x
section
variable {P:Program} {B N:Nat} {J:List Nat} {w:World} {H:List ar} {aa:Nat→Option aH} {S:Nat→Nat→Prop}
theorem gC.narrow {bu nj:Nat→Option aH} {ck:List Nat} {bL jz:Nat→Nat→Prop} {bX:World} (bN:Ext J ck) {id:Nat} {o:ar} (h:gC aa J S w id o) (ae:gC bu ck bL bX id o)
  (cp:∀ b o,bL b o→jz b o) (al:∀ b l,bu b=some l→(l=.obj id∨∃ j,l=.cell id j)→nj b=some l∧∀ o,jz b o→bL b o):gC nj J jz bX id o:=by
 cases o with
 | dead=>trivial
 | map es clock =>
   obtain ⟨b,bB,aA,aG,aT,br,bg,bd⟩:=h;obtain ⟨cw,Ck,a7,a9,bt,b6,dV,f'⟩:=ae;rw [bN _ _ aA] at a7;cases a7;obtain ⟨aJ,aN⟩:=al b _ a9 (.inl rfl);refine ⟨b,Ck,aA,aJ,bt,b6,fun o aq=>dV o (aN o aq),fun j i k v x hu ad=>?_⟩;(have aw:j<bB.size:=by have:=(sa.1 hu).1;omega);obtain ⟨bU,b1,eb,fU,m1⟩:=bd j i k v bB[j] hu (sr aw);obtain ⟨q1,aW,cF,dG,m6⟩:=f' j i k v x hu ad;exact ⟨q1,aW,(eb.narrow bN cF).mono (Ext.refl J) (fun b o h=>⟨cp b o h,rfl⟩),dG,(m1.narrow bN m6).mono (Ext.refl J) (fun b o h=>⟨cp b o h,rfl⟩)⟩
 | iter m s e t =>
   obtain ⟨b,ec,aA,aG,aT,br,bg⟩:=h;obtain ⟨cw,GH,a7,a9,bt,b6,dV⟩:=ae;rw [bN _ _ aA] at a7;cases a7;rw [bN _ _ aT] at bt;cases bt;obtain ⟨aJ,aN⟩:=al b _ a9 (.inl rfl);exact ⟨b,ec,aA,aJ,aT,b6,fun o aq=>dV o (aN o aq)⟩
 | cells l =>
   obtain ⟨b,cur,e,aA,aG,aT,br,bg,bd⟩:=h;obtain ⟨cw,o9,b',a7,a9,bt,b6,dV,f'⟩:=ae;rw [bN _ _ aA] at a7;cases a7;obtain ⟨aJ,aN⟩:=al b _ a9 (.inl rfl);refine ⟨b,o9,b',aA,aJ,bt,b6,fun o aq=>dV o (aN o aq),fun j u v hu ad=>?_⟩;(have aw:j<cur.size:=by have:=(sa.1 hu).1;omega);obtain ⟨bU,b1,eb,fU⟩:=bd j u cur[j] hu (sr aw);obtain ⟨q1,aW,cF,dG⟩:=f' j u v hu ad;refine ⟨q1,aW,(eb.narrow bN cF).mono (Ext.refl J) (fun b o h=>⟨cp b o h,rfl⟩),?_⟩;have hm:=fun b af=>al b (.cell id j) af (.inr ⟨j,rfl⟩);unfold aU at dG ⊢;split at dG
   ·rcases dG with dG | ⟨ab,ae,aF,a_,bP,bQ,cO,cR,cn⟩
    ·exact .inl dG
    ·exact .inr ⟨(hm _ ab).1,ae,aF,a_,bP,bQ,cO,cR,fun o aq ah=>cn o aq ((hm _ ab).2 o ah)⟩
   ·simp [I.cW] at q1
   ·obtain ⟨ab,aQ,a_,bP,bQ,cO,ah,⟨cur,e,cR,cn,dp⟩,fp⟩:=dG;have hl:=ah;rw [sq] at hl;exact ⟨(hm _ ab).1,aQ,a_,bP,bQ,cO,ah,⟨cur,e,cR,cn,fun j u v hu ad=>⟨(dp j u v hu ad).1,A7 (hl u (sv hu)) (dp j u v hu ad).2⟩⟩,fun o ah=>fp o ((hm _ ab).2 o ah)⟩
   ·exact fun v ad=>(dG v ad).mono fun b af=>⟨(hm b af).1,rfl,(hm b af).2⟩
   ·trivial
 | grow l gid z =>
   obtain ⟨b,cur,e,aA,aG,aT,br,bg,bd,cap,dd,dy⟩:=h;obtain ⟨cw,o9,b',a7,a9,bt,b6,dV,f',o5,nv,nw⟩:=ae;rw [bN _ _ aA] at a7;cases a7;rw [bN _ _ dd] at nv;cases nv;obtain ⟨aJ,aN⟩:=al b _ a9 (.inl rfl);refine ⟨b,o9,b',aA,aJ,bt,b6,fun o aq=>dV o (aN o aq),fun j u v hu ad=>?_,cap,dd,nw⟩;(have aw:j<cur.size:=by have:=(sa.1 hu).1;omega);obtain ⟨bU,b1,eb,fU⟩:=bd j u cur[j] hu (sr aw);obtain ⟨q1,aW,cF,dG⟩:=f' j u v hu ad;refine ⟨q1,aW,(eb.narrow bN cF).mono (Ext.refl J) (fun b o h=>⟨cp b o h,rfl⟩),?_⟩;have hm:=fun b af=>al b (.cell id j) af (.inr ⟨j,rfl⟩);unfold aU at dG ⊢;split at dG
   ·rcases dG with dG | ⟨ab,ae,aF,a_,bP,bQ,cO,cR,cn⟩
    ·exact .inl dG
    ·exact .inr ⟨(hm _ ab).1,ae,aF,a_,bP,bQ,cO,cR,fun o aq ah=>cn o aq ((hm _ ab).2 o ah)⟩
   ·simp [I.cW] at q1
   ·obtain ⟨ab,aQ,a_,bP,bQ,cO,ah,⟨cur,e,cR,cn,dp⟩,fp⟩:=dG;have hl:=ah;rw [sq] at hl;exact ⟨(hm _ ab).1,aQ,a_,bP,bQ,cO,ah,⟨cur,e,cR,cn,fun j u v hu ad=>⟨(dp j u v hu ad).1,A7 (hl u (sv hu)) (dp j u v hu ad).2⟩⟩,fun o ah=>fp o ((hm _ ab).2 o ah)⟩
   ·exact fun v ad=>(dG v ad).mono fun b af=>⟨(hm b af).1,rfl,(hm b af).2⟩
   ·trivial
 | loop st cL fn T params assign body jD =>
   obtain ⟨aj,aY,b,L,aA,aG,aT,br,bg,bd,dd,dy,dS⟩:=h;obtain ⟨_,_,cw,jx,a7,a9,bt,b6,dV,f',nv,nw,B_⟩:=ae;rw [bN _ _ aA] at a7;cases a7;refine ⟨aj,aY,b,jx,aA,(al b _ a9 (.inl rfl)).1,bt,b6,dV,f',nv,fun i u v hu ad=>?_,B_⟩;(have aw:i<L.tmps.size:=by have:=(sa.1 hu).1;omega);exact ⟨(nw i u v hu ad).1,(((dy i u L.tmps[i] hu (sr aw)).2).narrow bN (nw i u v hu ad).2).mono (Ext.refl J) (fun b o h=>⟨cp b o h,rfl⟩)⟩
theorem n7 {lo id0 n b:Nat} {l:aH} (h:aa b=some l) (ao:∀ id,(l=.obj id∨∃ j,l=.cell id j)→id<lo):fQ aa lo id0 n b=some l:=by
 unfold fQ;rw [h];cases l with
 | obj id=>simp [ao id (.inl rfl)]
 | cell id j=>simp [ao id (.inr ⟨j,rfl⟩)]
 | _=>rfl
theorem Ea {lo id0 n b:Nat} (h:aa b=none):fQ aa lo id0 n b=none:=by simp [fQ,h]
theorem pf {bu:Nat→Option aH} {ck:List Nat} {bL:Nat→Nat→Prop} {bX:World} {H2:List ar} (ag:aK B aa J S w H) (bN:Ext J ck) (az:bl aa S w bu bL bX) (ch:aK B bu ck bL bX H2)
  (ih:∀ id,id<H.length→H2[id]?=H[id]?) (id0 n:Nat) :
  bl aa S w (fQ bu H.length id0 n) (gB bu bL bX H.length id0) bX∧aK B (fQ bu H.length id0 n) J (gB bu bL bX H.length id0) bX H:=by
 have aI:∀ b,fQ bu H.length id0 n b≠none→bu b≠none:=fun b h aQ=>h (Ea aQ);refine ⟨⟨az.os,az.tape,az.output,az.size,az.cE,fun b o h=>⟨.inl (az.set b o h).1,(az.set b o h).2⟩,fun b o h=>?_,fun b h=>az.own b (aI b h)⟩,⟨ag.cK,fun id o aq=>?_,fun b o h=>?_,fun b l af=>?_,ch.c0⟩⟩
 ·rcases h with h | ⟨⟨id,_,_,h⟩,_⟩
  ·exact az.fresh b o h
  ·rcases az.own b (by simp [h]) with ab | ab
   ·exact .inr (.inl ab)
   ·exact .inr (.inr ab)
 ·have aR:=(sa.1 aq).1;have pX:H2[id]?=some o:=by rw [ih id aR];exact aq
  refine (ag.obj id o aq).narrow bN (ch.obj id o pX) (fun b o h=>.inl h) fun b l af ao=>⟨n7 af fun bC c'=>?_,fun o h=>?_⟩
  ·have:bC=id:=by
    rcases ao with rfl | ⟨j,rfl⟩ <;> rcases c' with h | ⟨zA,h⟩ <;> cases h <;> rfl
   omega
  ·rcases h with h | ⟨⟨bC,ab,_,h⟩,_⟩
   ·exact h
   ·rw [af] at h;rcases ao with rfl | ⟨j,rfl⟩
    ·cases h;omega
    ·cases h
 ·rcases h with h | ⟨_,h⟩
  ·exact ch.cd b o h
  ·exact h
 ·cases h:bu b with
  | none=>simp [fQ,h] at af
  | some l'=>exact ch.base b l' h
theorem kE {ck gy:List Nat} {bX:World} {bu nj:Nat→Option aH} {bL jz:Nat→Nat→Prop} {l l':aH} (fj:∀ b,bu b=some l→nj b=some l'∧∀ o,jz b o→bL b o) {H2:List ar} {lo id0 n d:Nat} {u r:I} {v:Value}
  (b2:∀ (d:Nat) (u r:I) (v:Value),bM H2 lo id0 n d u=some r→Rel ck bL bX u v→Rel gy jz bX r v)
  (h:bM H2 lo id0 n d u=some r) (aq:aU bu ck bL bX l u v):aU nj gy jz bX l' r v:=by
 by_cases aB:u.plain=true
 ·exact aU.b4 ((h7 h).1 aB)
 ·cases d with
  | zero=>simp [bM] at h
  | succ d =>
    obtain ⟨cells,len,c,rfl⟩:∃ cells len c,u=.av cells len c:=by
     cases u <;> first | exact ⟨_,_,_,rfl⟩ | exact absurd rfl aB | simp [bM] at h
    simp only [bM,r_] at h;obtain ⟨cs,hm,rfl⟩:=h;obtain ⟨da,db⟩:=j6 hm;cases c with
    | shared=>exact absurd rfl aB
    | full=>exact absurd rfl aB
    | own z =>
      cases v with
      | slice o2 m eo =>
       cases o2 with
       | none=>trivial
       | some a =>
        simp only [aU] at aq ⊢;rcases aq with ⟨ab,ae,aF⟩ | ⟨ab,ae,aF,a_,bP,bQ,cO,cR,cn⟩
        ·subst aF;simp [ea] at hm;subst hm;exact .inl ⟨ab,ae,rfl⟩
        ·exact .inr ⟨(fj _ ab).1,ae,aF,a_,bP,bQ,by omega,cR,fun o aq ah=>cn o (by omega) ((fj _ ab).2 o ah)⟩
      | _=>trivial
    | uniq z =>
      cases v with
      | slice o2 m eo =>
       cases o2 with
       | none=>trivial
       | some a =>
        simp only [aU] at aq ⊢;rcases aq with ⟨ab,ae,aF⟩ | ⟨ab,ae,a_,bP,bQ,cO,⟨cur,e,cR,cn,dp⟩,fp⟩
        ·subst aF;simp [ea] at hm;subst hm;exact .inl ⟨ab,ae,rfl⟩
        ·refine .inr ⟨(fj _ ab).1,ae,a_,bP,bQ,by omega,⟨cur,e,cR,cn,fun j y c aY ak=>?_⟩,fun o ah=>fp o ((fj _ ab).2 o ah)⟩;obtain ⟨x,aj,aP⟩:=db j y aY;obtain ⟨q1,aW,cF⟩:=dp j x c aj ak;exact ⟨(h7 aP).1 q1,aW,b2 d x y c aP cF⟩
      | _=>trivial
theorem xH (ag:aK B aa J S w H) {H2:List ar} {r v:I} {x:Value} {bX:World} (ih:∀ id,id<H.length→H2[id]?=H[id]?) {n d:Nat} (aP:bM H2 H.length H2.length n d r=some v)
  (aB:aZ B aa J S w H2 r x bX):aZ B aa J S w H v x bX:=by
 obtain ⟨bu,ck,bL,bN,az,ch,ai,aq⟩:=aB;obtain ⟨dB,aF⟩:=pf ag bN az ch ih H2.length n
 have b2:=fun d u r v=>l9 (gy:=J) (id0:=H2.length) (n:=n) ch (lo:=H.length) (fun id b aR af=>by
   (have ia:id<J.length:=by rw [ag.cK];exact aR);have aj:=si ia;rw [bN _ _ aj] at af;cases af;exact aj) (fun b af=>by
   have:=(sa.1 af).1;rw [ch.cK] at this;omega) d u r v
 refine ⟨_,J,_,Ext.refl J,dB,aF,b2 d r v x aP ai,kE (l:=.res) (fun b af=>⟨n7 af (fun id h=>by rcases h with h | ⟨j,h⟩ <;> cases h),fun o h=>?_⟩) b2 aP aq⟩;rcases h with h | ⟨⟨id,_,_,h⟩,_⟩
 ·exact h
 ·rw [af] at h;cases h
theorem EH (ag:aK B aa J S w H) {H2:List ar} {r v:I} {x:Value} {bX:World} (ih:∀ id,id<H.length→H2[id]?=H[id]?) {id0 d g':Nat} {l l':List I} (fh:H.length≤id0)
  (aE:H2[id0]?=some (.cells l)) (ao:ea (bM H2 H.length id0 H.length g') l=some l') (aP:bM H2 H.length id0 H.length d r=some v)
  (aB:aZ B aa J S w H2 r x bX):aZ B aa J S w (H++[.cells l']) v x bX:=by
 obtain ⟨bu,ck,bL,bN,az,ch,ai,aq⟩:=aB;obtain ⟨dB,aF⟩:=pf ag bN az ch ih id0 H.length;obtain ⟨de,cur,e,aA,aG,aT,br,bg,bd⟩:=ch.obj id0 _ aE;have mF:Ext J (J++[de]):=Ext.append J [de]
 have b2:=fun d u r v=>l9 (gy:=J++[de]) (id0:=id0) (n:=H.length) ch (lo:=H.length) (fun id b aR af=>by
   (have ia:id<J.length:=by rw [ag.cK];exact aR);have aj:=si ia;rw [bN _ _ aj] at af;cases af;exact mF _ _ aj) (fun b af=>by
   rw [aA] at af;cases af;exact Ext.last ag de) d u r v
 obtain ⟨da,db⟩:=j6 ao;have pK:∀ id,(aH.obj id0≠.obj id)∨id=id0:=fun id=>by
  by_cases h:id=id0
  ·exact .inr h
  ·exact .inl fun e=>h (by cases e;rfl)
 have kL:∀ b,bu b=some (.obj id0)→fQ bu H.length id0 H.length b=some (.obj H.length):=fun b af=>by
  simp only [fQ,af];simp;omega
 have Dc:∀ b j,bu b=some (.cell id0 j)→fQ bu H.length id0 H.length b=some (.cell H.length j):=fun b j af=>by
  simp only [fQ,af];simp;omega
 have cp:∀ b l,bu b=some l→(∀ id,l≠.obj id∨id=id0)→∀ o,gB bu bL bX H.length id0 b o→bL b o:=fun b l af bJ o h=>by
  rcases h with h | ⟨⟨id,_,aI,h⟩,_⟩
  ·exact h
  ·rw [af] at h;cases h;rcases bJ id with h | h
   ·exact absurd rfl h
   ·exact absurd h aI
 refine ⟨_,J++[de],_,mF,dB,aF.push de ⟨de,cur,e,Ext.last ag de,kL de aG,aT,by omega,fun o h=>bg o (cp de _ aG pK o h),fun j u c hu ak=>?_⟩,
  b2 d r v x aP ai,kE (l:=.res) (fun b af=>⟨n7 af (fun id h=>by rcases h with h | ⟨j,h⟩ <;> cases h),cp b _ af (fun id=>.inl (by simp))⟩) b2 aP aq⟩
 obtain ⟨y,aY,pJ⟩:=db j u hu;obtain ⟨a7,a9,bt,b6⟩:=bd j y c aY ak;exact ⟨(h7 pJ).2 a7,a9,b2 g' y u c pJ bt,kE (l:=.cell id0 j) (fun b af=>⟨Dc b j af,cp b _ af (fun id=>.inl (by simp))⟩) b2 pJ b6⟩
theorem mapM_some {f:I→Option I}:∀ {xs ys:List (Nat×I×I)},mapM f xs=some ys→ys.length=xs.length∧∀ (j i:Nat) (k v:I),ys[j]?=some (i,k,v)→∃ dj v0,xs[j]?=some (i,dj,v0)∧f dj=some k∧f v0=some v
 | [],ys,h=>by simp [mapM] at h;subst h;simp
 | (i0,dj,v0)::xs,ys,h=>by
   simp only [mapM] at h;split at h
   ·rename_i aJ v1 al ad;simp only [r_] at h;obtain ⟨ys,h,rfl⟩:=h;obtain ⟨ab,ae⟩:=mapM_some h;refine ⟨by simp [ab],fun j i k v aw=>?_⟩;cases j with
    | zero=>simp at aw;obtain ⟨rfl,rfl,rfl⟩:=aw;exact ⟨dj,v0,rfl,al,ad⟩
    | succ j=>simpa using ae j i k v (by simpa using aw)
   ·simp at h
theorem EI (ag:aK B aa J S w H) {H2:List ar} {r v:I} {x:Value} {bX:World} (ih:∀ id,id<H.length→H2[id]?=H[id]?) {id0 d g':Nat} {es es':List (Nat×I×I)} {clock:Nat} (fh:H.length≤id0)
  (aE:H2[id0]?=some (.map es clock)) (ao:mapM (bM H2 H.length id0 H.length g') es=some es') (aP:bM H2 H.length id0 H.length d r=some v)
  (aB:aZ B aa J S w H2 r x bX):aZ B aa J S w (H++[.map es' clock]) v x bX:=by
 obtain ⟨bu,ck,bL,bN,az,ch,ai,aq⟩:=aB;obtain ⟨dB,aF⟩:=pf ag bN az ch ih id0 H.length;obtain ⟨de,bB,aA,aG,aT,br,bg,bd⟩:=ch.obj id0 _ aE;have mF:Ext J (J++[de]):=Ext.append J [de]
 have b2:=fun d u r v=>l9 (gy:=J++[de]) (id0:=id0) (n:=H.length) ch (lo:=H.length) (fun id b aR af=>by
   (have ia:id<J.length:=by rw [ag.cK];exact aR);have aj:=si ia;rw [bN _ _ aj] at af;cases af;exact mF _ _ aj) (fun b af=>by
   rw [aA] at af;cases af;exact Ext.last ag de) d u r v
 obtain ⟨da,db⟩:=mapM_some ao;have pK:∀ id,(aH.obj id0≠.obj id)∨id=id0:=fun id=>by
  by_cases h:id=id0
  ·exact .inr h
  ·exact .inl fun e=>h (by cases e;rfl)
 have kL:∀ b,bu b=some (.obj id0)→fQ bu H.length id0 H.length b=some (.obj H.length):=fun b af=>by
  simp only [fQ,af];simp;omega
 have cp:∀ b l,bu b=some l→(∀ id,l≠.obj id∨id=id0)→∀ o,gB bu bL bX H.length id0 b o→bL b o:=fun b l af bJ o h=>by
  rcases h with h | ⟨⟨id,_,aI,h⟩,_⟩
  ·exact h
  ·rw [af] at h;cases h;rcases bJ id with h | h
   ·exact absurd rfl h
   ·exact absurd h aI
 refine ⟨_,J++[de],_,mF,dB,aF.push de ⟨de,bB,Ext.last ag de,kL de aG,aT,by omega,fun o h=>bg o (cp de _ aG pK o h),fun j i k v c hu ak=>?_⟩,
  b2 d r v x aP ai,kE (l:=.res) (fun b af=>⟨n7 af (fun id h=>by rcases h with h | ⟨j,h⟩ <;> cases h),cp b _ af (fun id=>.inl (by simp))⟩) b2 aP aq⟩
 obtain ⟨dj,v0,aY,y8,kJ⟩:=db j i k v hu;obtain ⟨a7,a9,bt,b6,dV⟩:=bd j i dj v0 c aY ak;exact ⟨a7,(h7 y8).1 a9,b2 g' dj k _ y8 bt,(h7 kJ).1 b6,b2 g' v0 v _ kJ dV⟩
theorem yH {u:I} (h:u.plain=true):u.ha.plain=true:=by
 unfold I.ha;split
 ·rfl
 ·exact h
theorem Ci {u:I} (h:u.plain=true):u.cc.plain=true:=by
 unfold I.cc;split <;> first | rfl | exact h
theorem Rel.ha {u:I} {v:Value} (h:Rel J S w u v):Rel J S w u.ha v:=by
 unfold I.ha;split
 ·rename_i c n;cases h with
  | b3 _ a=>exact .b3 _ a
  | av _ _ _ b o cap f ak hle hu k ew=>exact .av _ _ _ b o cap f (by simp) hle (by simp) k ew
 ·exact h
theorem Rel.cc {u:I} {v:Value} (h:Rel J S w u v):Rel J S w u.cc v:=by
 unfold I.cc;split
 ·rename_i c n;cases h with
  | b3 _ a=>exact .b3 _ a
  | av _ _ _ b o cap f ak hle hu k ew=>exact .av _ _ _ b o cap f (by simp) hle (by simp) k ew
 ·cases h with
  | agg as vs l p one r =>
    refine .agg _ vs (by simpa using l) (fun u hu=>?_) one fun j u v hu ad=>?_
    ·obtain ⟨x,aj,rfl⟩:=sC.1 hu;exact yH (p x aj)
    ·rw [sm] at hu;simp only [r_] at hu;obtain ⟨x,aj,rfl⟩:=hu;exact (r j x v aj ad).ha
 ·cases h with
  | tuple as vs l p r =>
    refine .tuple _ vs (by simpa using l) (fun u hu=>?_) fun j u v hu ad=>?_
    ·obtain ⟨x,aj,rfl⟩:=sC.1 hu;exact yH (p x aj)
    ·rw [sm] at hu;simp only [r_] at hu;obtain ⟨x,aj,rfl⟩:=hu;exact (r j x v aj ad).ha
 ·exact h
theorem aU.cc {l:aH} {u:I} {v:Value} (h:aU aa J S w l u v):aU aa J S w l u.cc v:=by
 by_cases aB:u.plain=true
 ·exact aU.b4 (Ci aB)
 ·have:u.cc=u:=by
   cases u <;> first | exact absurd rfl aB | skip
   ·rename_i c n k;cases k <;> first | rfl | exact absurd rfl aB
   ·rfl
   ·rfl
   ·rfl
  rw [this];exact h
theorem a5.cc {bA:Nat→aH} {T:List I} {bc:List Value} (h:a5 bA aa J S w T bc):a5 bA aa J S w (T.map I.cc) bc :=
 ⟨by simpa using h.len,fun i u v hu ad=>by
  rw [sm] at hu;simp only [r_] at hu;obtain ⟨x,aj,rfl⟩:=hu;exact (h.rel i x v aj ad).cc,fun i u v hu ad=>by
  rw [sm] at hu;simp only [r_] at hu
  obtain ⟨x,aj,rfl⟩:=hu;exact (h.own i x v aj ad).cc⟩
theorem aZ.cc {H':List ar} {r:I} {v:Value} {w':World} (h:aZ B aa J S w H' r v w'):aZ B aa J S w H' r.cc v w':=by
 obtain ⟨bu,ck,bL,a,b,c,d,e⟩:=h;exact ⟨bu,ck,bL,a,b,c,d.cc,e.cc⟩
theorem Gm {u:I} (h:u.plain=true):u.kn.plain=true:=by
 unfold I.kn;split
 ·rfl
 ·exact h
theorem Rel.kn {u:I} {v:Value} (h:Rel J S w u v):Rel J S w u.kn v:=by
 unfold I.kn;split
 ·exact .a0 v
 ·exact h
theorem Rel.gw {u:I} {v:Value} (h:Rel J S w u v):Rel J S w u.gw v:=by
 unfold I.gw;split
 ·rename_i cs;cases h with
  | bS _ b o f k ew =>
    refine .bS _ b o f (fun j u hu=>?_) fun j u hu=>?_
    ·rw [sm] at hu;simp only [r_] at hu;obtain ⟨x,aj,rfl⟩:=hu;obtain ⟨aJ,aN,cb,hq⟩:=k j x aj;exact ⟨aJ,aN,Gm cb,hq⟩
    ·rw [sm] at hu;simp only [r_] at hu;obtain ⟨x,aj,rfl⟩:=hu;exact (ew j x aj).kn
 ·exact h
theorem aU.gw {l:aH} {u:I} {v:Value} (h:aU aa J S w l u v):aU aa J S w l u.gw v:=by
 unfold I.gw;split
 ·exact aU.b4 rfl
 ·exact h
theorem a5.gw {bA:Nat→aH} {T:List I} {bc:List Value} (h:a5 bA aa J S w T bc):a5 bA aa J S w (T.map I.gw) bc :=
 ⟨by simpa using h.len,fun i u v hu ad=>by
  rw [sm] at hu;simp only [r_] at hu;obtain ⟨x,aj,rfl⟩:=hu;exact (h.rel i x v aj ad).gw,fun i u v hu ad=>by
  rw [sm] at hu;simp only [r_] at hu
  obtain ⟨x,aj,rfl⟩:=hu;exact (h.own i x v aj ad).gw⟩
theorem Rel.pure (bV:List Nat) {u:I} {v:Value} (h:Rel J S w u v):∀ {d:Nat},cr d u=true→Rel bV S w u v:=by
 have all:∀ {d:Nat} {l:List I},l.all (cr d)=true→∀ {j:Nat} {u:I},l[j]?=some u→cr d u=true:=fun h j u hu=>by
  rw [sq] at h;exact h u (sv hu)
 induction h with
 | a0 v=>intros;exact .a0 v
 | bool b=>intros;exact .bool b
 | dA b=>intros;exact .dA b
 | int k n=>intros;exact .int k n
 | str s=>intros;exact .str s
 | eI=>intros;exact .eI
 | ptr id off b k=>intro d h;cases d <;> simp [cr] at h
 | bS cells b o f k ew a8 =>
   intro d h;cases d with
   | zero=>simp [cr] at h
   | succ d=>simp only [cr] at h;exact .bS cells b o f k fun j u aw=>a8 j u aw (all h aw)
 | b3 c a=>intros;exact .b3 c a
 | av cells len c b o cap f ak hle hu k ew a8 =>
   intro d h;cases d with
   | zero=>simp [cr] at h
   | succ d=>simp only [cr] at h;exact .av cells len c b o cap f ak hle hu k fun j u aw=>a8 j u aw (all h aw)
 | cP cells len z b o cap=>intros;exact .cP cells len z b o cap
 | raw=>intro d h;cases d <;> simp [cr] at h
 | c3=>intro d h;cases d <;> simp [cr] at h
 | cm=>intro d h;cases d <;> simp [cr] at h
 | ref id off len c bb b cap k ak hle=>intro d h;cases d <;> simp [cr] at h
 | func f as bs vs ws ab ae bU b1 aS bj i1 i2 =>
   intro d h;cases d with
   | zero=>simp [cr] at h
   | succ d =>
     simp only [cr,sn] at h;exact .func f as bs vs ws ab ae bU b1 (fun j u v hu ad=>i1 j u v hu ad (all h.1 hu)) (fun j u v hu ad=>i2 j u v hu ad (all h.2 hu))
 | yield id b k=>intro d h;cases d <;> simp [cr] at h
 | map id b k=>intro d h;cases d <;> simp [cr] at h
 | agg as vs k p one r a8 =>
   intro d h;cases d with
   | zero=>simp [cr] at h
   | succ d=>simp only [cr] at h;exact .agg as vs k p one fun j u v hu ad=>a8 j u v hu ad (all h hu)
 | tuple as vs k p r a8 =>
   intro d h;cases d with
   | zero=>simp [cr] at h
   | succ d=>simp only [cr] at h;exact .tuple as vs k p fun j u v hu ad=>a8 j u v hu ad (all h hu)
def dT (aa:Nat→Option aH):Nat→Option aH:=fun b=>match aa b with
 | some (.arg i)=>some (.arg i)
 | _=>none
theorem yy {b i:Nat} (h:aa b=some (.arg i)):dT aa b=some (.arg i):=by simp [dT,h]
theorem ku {b:Nat} {l:aH} (h:dT aa b=some l):∃ i,aa b=some (.arg i)∧l=.arg i:=by
 unfold dT at h;split at h
 ·rename_i i hi;cases h;exact ⟨i,hi,rfl⟩
 ·cases h
theorem aU.pure (bV:List Nat) {i:Nat} {u:I} {v:Value} {d:Nat} (aB:cr d u=true) (h:aU aa J S w (.arg i) u v):aU (dT aa) bV S w (.arg i) u v:=by
 unfold aU at h ⊢;split at h
 ·rcases h with h | ⟨ab,h⟩
  ·exact .inl h
  ·exact .inr ⟨yy ab,h⟩
 ·rename_i cells len z a n cap;cases d with
  | zero=>simp [cr] at aB
  | succ d =>
    simp only [cr] at aB;rcases h with h | ⟨ab,ae,aF,a_,bP,bQ,⟨cur,e,cO,cR,cn⟩,dp⟩
    ·exact .inl h
    ·refine .inr ⟨yy ab,ae,aF,a_,bP,bQ,⟨cur,e,cO,cR,fun j u v hu ad=>?_⟩,dp⟩;obtain ⟨bU,b1,eb⟩:=cn j u v hu ad;rw [sq] at aB;exact ⟨bU,b1,eb.pure bV (aB u (sv hu))⟩
 ·cases d <;> simp [cr] at aB
 ·cases d <;> simp [cr] at aB
 ·trivial
theorem a5.pure {T:List I} {bc:List Value} (h:a5 (fun i=>.arg i) aa J S w T bc) (aB:T.all (cr 8)=true):a5 (fun i=>.arg i) (dT aa) [] S w T bc:=by
 rw [sq] at aB;exact ⟨h.len,fun i u v hu ad=>(h.rel i u v hu ad).pure [] (aB u (sv hu)),fun i u v hu ad=>(h.own i u v hu ad).pure [] (aB u (sv hu))⟩
theorem w7 (ag:aK B aa J S w H):aK B (dT aa) [] S w [] :=
 ⟨rfl,fun id o h=>by simp at h,ag.cd,fun b l af=>by obtain ⟨i,h,_⟩:=ku af;exact ag.base b _ h,ag.c0⟩
theorem xI (ag:aK B aa J S w H) {H2:List ar} {r v:I} {x:Value} {bX:World} {n d:Nat} (aP:bM H2 0 H2.length n d r=some v)
  (aB:aZ B (dT aa) [] S w H2 r x bX):aZ B aa J S w H v x bX:=by
 classical
 obtain ⟨bu,ck,bL,bN,az,ch,ai,aq⟩:=aB
 let ay:Nat→Option aH:=fun b=>match aa b with
  | some (.obj id)=>some (.obj id)
  | some (.cell id j)=>some (.cell id j)
  | _=>match bu b with
    | some (.obj _)=>none
    | some (.cell _ _)=>none
    | l=>l
 have jZ:∀ b l,aa b=some l→((∃ id,l=.obj id)∨∃ id j,l=.cell id j)→ay b=some l∧bu b=none∧b<w.heap.size:=fun b l af ao=>by
  have aR:=(ag.base b l af).2;have ae:bu b=none:=by
   cases h:bu b with
   | none=>rfl
   | some l' =>
     rcases az.own b (by simp [h]) with ab | ab
     ·exfalso;apply ab;rcases ao with ⟨id,rfl⟩ | ⟨id,j,rfl⟩ <;> simp [dT,af]
     ·omega
  refine ⟨?_,ae,aR⟩;rcases ao with ⟨id,rfl⟩ | ⟨id,j,rfl⟩ <;> simp [ay,af]
 have xa:∀ b,ay b≠none→aa b≠none∨bu b≠none:=fun b h=>by
  by_cases ab:aa b=none
  ·right;intro ae;apply h;simp [ay,ab,ae]
  ·exact .inl ab
 have cu:∀ b,dT aa b≠none→aa b≠none:=fun b h aQ=>h (by simp [dT,aQ]);have pn:∀ b o,gB bu bL bX 0 H2.length b o→S b o∨aa b≠none∨w.heap.size≤b:=fun b o h=>by
  rcases h with h | ⟨⟨id,_,_,h⟩,_⟩
  ·rcases az.fresh b o h with h | h | h
   ·exact .inl h
   ·exact .inr (.inl (cu b h))
   ·exact .inr (.inr h)
  ·rcases az.own b (by simp [h]) with ab | ab
   ·exact .inr (.inl (cu b ab))
   ·exact .inr (.inr ab)
 have l5:bl aa S w ay (gB bu bL bX 0 H2.length) bX :=
  ⟨az.os,az.tape,az.output,az.size,fun b af aI=>az.cE b af (by simp [dT,aI]),fun b o h=>⟨.inl (az.set b o h).1,(az.set b o h).2⟩,pn,fun b h=>by
   rcases xa b h with h | h
   ·exact .inl h
   ·rcases az.own b h with h | h
    ·exact .inl (cu b h)
    ·exact .inr h⟩
 have b2:=fun d u r v=>l9 (gy:=J) (id0:=H2.length) (n:=n) ch (lo:=0) (fun id b aR af=>by omega) (fun b af=>by
   have:=(sa.1 af).1;rw [ch.cK] at this;omega) d u r v
 refine ⟨ay,J,_,Ext.refl J,l5,ag.frame l5 (fun b l af ao=>?_) (fun b o h=>?_) (fun b l af=>?_),b2 d r v x aP ai,kE (l:=.res) (fun b af=>?_) b2 aP aq⟩
 ·obtain ⟨ab,ae,aF⟩:=jZ b l af ao;have aI:dT aa b=none:=by rcases ao with ⟨id,rfl⟩ | ⟨id,j,rfl⟩ <;> simp [dT,af]
  refine ⟨ab,az.cE b aF aI,fun o h=>?_⟩;rcases h with h | ⟨⟨id,_,_,h⟩,_⟩
  ·rcases az.fresh b o h with h | h | h
   ·exact h
   ·exact absurd aI h
   ·omega
  ·rw [ae] at h;cases h
 ·rcases h with h | ⟨_,h⟩
  ·exact ch.cd b o h
  ·exact h
 ·by_cases h:aa b=none
  ·(have bw:bu b≠none:=fun ae=>by simp [ay,h,ae] at af);cases ae:bu b with
   | none=>exact absurd ae bw
   | some l'=>exact ch.base b l' ae
  ·cases ab:aa b with
   | none=>exact absurd ab h
   | some l'=>obtain ⟨p,q⟩:=ag.base b l' ab;exact ⟨p,ud q az.size⟩
 ·refine ⟨?_,fun o h=>?_⟩
  ·cases ab:aa b with
   | none=>simp [ay,ab,af]
   | some l =>
     cases l with
     | obj id=>have:=(jZ b _ ab (.inl ⟨id,rfl⟩)).2.1;rw [af] at this;cases this
     | cell id j=>have:=(jZ b _ ab (.inr ⟨id,j,rfl⟩)).2.1;rw [af] at this;cases this
     | _=>simp [ay,ab,af]
  ·rcases h with h | ⟨⟨id,_,_,h⟩,_⟩
   ·exact h
   ·rw [af] at h;cases h
def f_ (aa:Nat→Option aH) (S:Nat→Nat→Prop) (w:World):Nat→Nat→Prop:=fun b o=>S b o∨((∃ id,aa b=some (.obj id))∧∃ v,w.cell? ⟨b,o,none⟩=some v)
theorem A8 {J bV:List Nat} {S S':Nat→Nat→Prop} {u:I} {v:Value} (h:g1 u=true) (ai:Rel J S w u v):Rel bV S' w u v:=by
 cases ai <;> simp [g1] at h
 ·exact .bool _
 ·exact .int _ _
 ·exact .str _
theorem Fy {bV:List Nat} {S':Nat→Nat→Prop} {u:I} {v:Value} (h:fz u=true) (ai:Rel J S w u v):Rel bV S' w u v:=by
 cases ai with
 | bool b=>exact .bool b
 | dA b=>simp [fz] at h
 | c3=>simp [fz] at h
 | int k n=>exact .int k n
 | str s=>exact .str s
 | tuple as vs k p q =>
   simp only [fz,sq] at h;exact .tuple as vs k p fun j u v hu ad=>A8 (h u (sv hu)) (q j u v hu ad)
 | cP cells len z b o cap=>exact .cP _ _ _ _ _ _
 | b3 c a =>
   exact .b3 _ _
 | av cells len c b o cap f ak hle hu k ew=>cases c <;> simp [fz] at h;exact absurd rfl (hu _)
 | _=>simp [fz] at h
theorem Fx {aa ay:Nat→Option aH} {bV:List Nat} {S S':Nat→Nat→Prop} {u:I} {v:Value} (h:fz u=true) (aq:aU aa J S w .res u v) (fj:∀ b,aa b=some .res→ay b=some .res∧∀ o,S' b o→S b o):aU ay bV S' w .res u v:=by
 unfold aU at aq ⊢;split at aq
 ·simp [fz] at h
 ·simp only [fz,sq] at h;rcases aq with aq | ⟨ab,aQ,a_,bP,bQ,cO,⟨cur,e,cR,cn,dp⟩,fp⟩
  ·exact .inl aq
  ·obtain ⟨aJ,aN⟩:=fj _ ab;exact .inr ⟨aJ,aQ,a_,bP,bQ,cO,⟨cur,e,cR,cn,fun j u v hu ad=>⟨(dp j u v hu ad).1,(dp j u v hu ad).2.1,A8 (h u (sv hu)) (dp j u v hu ad).2.2⟩⟩,fun o ah=>fp o (aN o ah)⟩
 ·simp [fz] at h
 ·simp [fz] at h
 ·trivial
theorem Bb {u:I} (h:u.plain=true):(ki H u).plain=true:=by
 unfold ki;split
 ·split <;> rfl
 ·exact h
theorem Bc (ag:aK B aa J S w H) {u:I} {v:Value} (ai:Rel J S w u v):Rel J (f_ aa S w) w (ki H u) v:=by
 have hm:Rel J (f_ aa S w) w u v:=ai.mono (Ext.refl J) fun b o h=>⟨.inl h,rfl⟩;cases ai <;> try exact hm
 case ref id off len cap bb b eo af ak hle =>
  unfold ki;simp only;split
  ·rename_i row cI;unfold rowOf at cI;simp only at cI;split at cI
   ·rename_i l aE;split at cI
    ·rename_i dJ;simp only [Option.some.injEq] at cI;obtain ⟨au,cur,e,aA,aG,aT,br,bg,bd⟩:=ag.obj id _ aE;rw [af] at aA;cases aA;(have bz:∀ o,o<cur.size→w.cell? ⟨b,o,none⟩=cur[o]?:=fun o aq=>by simp [World.cell?,aT,aq]);have facts:∀ (j:Nat) (y:I),row[j]?=some y→∃ c,off+j<cur.size∧cur[off+j]?=some c∧c.oneCell'=true∧y.plain=true∧Rel J S w y c:=fun j y aY=>by
      subst cI;have h':=(sa.1 aY).1;simp at h';(have fr:off+j<l.length:=by omega);(have fi:off+j<cur.size:=by omega);have ao:l[off+j]?=some l[off+j]:=si fr;have ad:cur[off+j]?=some cur[off+j]:=sr fi;obtain ⟨a7,a9,bt,b6⟩:=bd (off+j) _ _ ao ad;rw [sm,sI,if_pos (by omega),sQ,ao] at aY;simp at aY;subst aY;exact ⟨_,fi,ad,a9,I.dm _,bt.view a7⟩
     refine .av row len .shared b off eo (fun j=>cur.getD (off+j) undef) (by simp) hle (by simp) (fun j y aY=>?_) (fun j y aY=>?_)
     ·obtain ⟨c,aw,c8,ab,aB,eh⟩:=facts j y aY;(have aO:cur.getD (off+j) undef=c:=by rw [su,c8];rfl);rw [aO];exact ⟨.inr ⟨⟨id,aG⟩,c,by rw [bz _ aw,c8]⟩,by rw [bz _ aw,c8],aB,ab⟩
     ·obtain ⟨c,aw,c8,ab,aB,eh⟩:=facts j y aY;(have aO:cur.getD (off+j) undef=c:=by rw [su,c8];rfl);simp only [aO];exact eh.mono (Ext.refl J) fun b o h=>⟨.inl h,rfl⟩
    ·cases cI
   ·cases cI
  ·exact hm
theorem yc (ag:aK B aa J S w H) {u:I} {v:Value} (ai:Rel J S w u v):Rel J (f_ aa S w) w (hW H u) v:=by
 have hm:Rel J (f_ aa S w) w u v:=ai.mono (Ext.refl J) fun b o h=>⟨.inl h,rfl⟩;have jK:=Bc ag ai;cases ai <;> first | exact hm | exact jK | skip
 rename_i id off b af;unfold hW;simp only;split
 ·rename_i l aE;obtain ⟨au,cur,e,aA,aG,aT,br,bg,bd⟩:=ag.obj id _ aE;rw [af] at aA;cases aA;have bz:∀ o,o<cur.size→w.cell? ⟨b,o,none⟩=cur[o]?:=fun o aq=>by simp [World.cell?,aT,aq]
  have facts:∀ (j:Nat) (y:I),(((l.drop off).map I.view).map (ki H))[j]?=some y→∃ c,off+j<cur.size∧cur[off+j]?=some c∧c.oneCell'=true∧y.plain=true∧Rel J (f_ aa S w) w y c:=fun j y aY=>by
   have h':=(sa.1 aY).1;simp at h';(have fr:off+j<l.length:=by omega);(have fi:off+j<cur.size:=by omega);have ao:l[off+j]?=some l[off+j]:=si fr;have ad:cur[off+j]?=some cur[off+j]:=sr fi;obtain ⟨a7,a9,bt,b6⟩:=bd (off+j) _ _ ao ad;rw [sm,sm,sQ,ao] at aY;simp at aY;subst aY;exact ⟨_,fi,ad,a9,Bb (I.dm _),Bc ag (bt.view a7)⟩
  refine .bS _ b off (fun j=>cur.getD (off+j) undef) (fun j y aY=>?_) (fun j y aY=>?_)
  ·obtain ⟨c,aw,c8,ab,aB,eh⟩:=facts j y aY;(have aO:cur.getD (off+j) undef=c:=by rw [su,c8];rfl);rw [aO];exact ⟨.inr ⟨⟨id,aG⟩,c,by rw [bz _ aw,c8]⟩,by rw [bz _ aw,c8],aB,ab⟩
  ·obtain ⟨c,aw,c8,ab,aB,eh⟩:=facts j y aY;(have aO:cur.getD (off+j) undef=c:=by rw [su,c8];rfl);simp only [aO];exact eh
 ·exact hm
theorem oK {u:I} (h:u.plain=true):(hW H u).plain=true:=by
 unfold hW;split
 ·split <;> rfl
 ·exact Bb rfl
 ·exact h
theorem FG (ag:aK B aa J S w H) {u:I} {v:Value} (ai:Rel J S w u v):Rel J (f_ aa S w) w (iD H u) v:=by
 have hm:Rel J (f_ aa S w) w u v:=ai.mono (Ext.refl J) fun b o h=>⟨.inl h,rfl⟩;have nU:=yc ag ai;cases ai <;> try exact hm
 ·exact nU
 ·exact nU
 ·rename_i f as bs vs ws ab ae bU b1 aS bj;refine .func f _ _ vs ws (by simpa using ab) (by simpa using ae) (fun u hu=>?_) (fun u hu=>?_) (fun j u v hu ad=>?_) (fun j u v hu ad=>?_)
  ·obtain ⟨x,aj,rfl⟩:=sC.1 hu;exact oK (bU x aj)
  ·obtain ⟨x,aj,rfl⟩:=sC.1 hu;exact oK (b1 x aj)
  ·rw [sm] at hu;simp only [r_] at hu;obtain ⟨x,aj,rfl⟩:=hu;exact yc ag (aS j x v aj ad)
  ·rw [sm] at hu;simp only [r_] at hu;obtain ⟨x,aj,rfl⟩:=hu;exact yc ag (bj j x v aj ad)
theorem FF {i:Nat} {u:I} {v:Value} (h:aU aa J S w (.arg i) u v):aU aa J (f_ aa S w) w (.arg i) (iD H u) v:=by
 have cp:∀ b,aa b=some (.arg i)→∀ o,f_ aa S w b o→S b o:=fun b af o h=>by
  rcases h with h | ⟨⟨id,h⟩,_⟩
  ·exact h
  ·rw [af] at h;cases h
 have hm:aU aa J (f_ aa S w) w (.arg i) u v:=h.mono (Ext.refl J) (fun b o h=>⟨.inl h,rfl⟩) fun b af=>⟨af,rfl,cp b af⟩;cases u <;> try exact hm
 ·rename_i id off;exact aU.b4 (show (hW H (.ptr id off)).plain=true from oK rfl)
 ·rename_i id off len cap bb;exact aU.b4 (show (hW H (.ref id off len cap bb)).plain=true from oK rfl)
theorem Gt (ag:aK B aa J S w H) {T:List I} {bc:List Value} (h:a5 (fun i=>.arg i) aa J S w T bc):a5 (fun i=>.arg i) aa J (f_ aa S w) w (T.map (iD H)) bc :=
 ⟨by simpa using h.len,fun i u v hu ad=>by
  rw [sm] at hu;simp only [r_] at hu;obtain ⟨x,aj,rfl⟩:=hu;exact FG ag (h.rel i x v aj ad),fun i u v hu ad=>by
  rw [sm] at hu;simp only [r_] at hu
  obtain ⟨x,aj,rfl⟩:=hu;exact FF (h.own i x v aj ad)⟩
theorem Dy (ag:aK B aa J S w H):aK B (dT aa) [] (f_ aa S w) w [] :=
 ⟨rfl,fun id o h=>by simp at h,fun b o h=>by
  rcases h with h | ⟨_,h⟩
  ·exact ag.cd b o h
  ·exact h,fun b l af=>by obtain ⟨i,h,_⟩:=ku af;exact ag.base b _ h,ag.c0⟩
theorem EJ (ag:aK B aa J S w H) {H2:List ar} {r v:I} {x:Value} {bX:World} {n d:Nat} (aP:bM H2 0 H2.length n d r=some v)
  (ah:fz v=true) (aB:aZ B (dT aa) [] (f_ aa S w) w H2 r x bX):aZ B aa J S w H v x bX:=by
 classical
 obtain ⟨bu,ck,bL,bN,az,ch,ai,aq⟩:=aB
 let ay:Nat→Option aH:=fun b=>match aa b with
  | some (.obj id)=>some (.obj id)
  | some (.cell id j)=>some (.cell id j)
  | _=>match bu b with
    | some (.obj _)=>none
    | some (.cell _ _)=>none
    | l=>l
 have jZ:∀ b l,aa b=some l→((∃ id,l=.obj id)∨∃ id j,l=.cell id j)→ay b=some l∧bu b=none∧b<w.heap.size:=fun b l af ao=>by
  have aR:=(ag.base b l af).2;have ae:bu b=none:=by
   cases h:bu b with
   | none=>rfl
   | some l' =>
     rcases az.own b (by simp [h]) with ab | ab
     ·exfalso;apply ab;rcases ao with ⟨id,rfl⟩ | ⟨id,j,rfl⟩ <;> simp [dT,af]
     ·omega
  refine ⟨?_,ae,aR⟩;rcases ao with ⟨id,rfl⟩ | ⟨id,j,rfl⟩ <;> simp [ay,af]
 have xa:∀ b,ay b≠none→aa b≠none∨bu b≠none:=fun b h=>by
  by_cases ab:aa b=none
  ·right;intro ae;apply h;simp [ay,ab,ae]
  ·exact .inl ab
 have cu:∀ b,dT aa b≠none→aa b≠none:=fun b h aQ=>h (by simp [dT,aQ])
 let S':Nat→Nat→Prop:=fun b o=>S b o∨(gB bu bL bX 0 H2.length b o∧∀ id,aa b≠some (.obj id))
 have pn:∀ b o,S' b o→S b o∨aa b≠none∨w.heap.size≤b:=fun b o h=>by
  rcases h with h | ⟨h | ⟨⟨id,_,_,h⟩,_⟩,ft⟩
  ·exact .inl h
  ·rcases az.fresh b o h with (h | ⟨⟨id,h⟩,_⟩) | h | h
   ·exact .inl h
   ·exact absurd h (ft id)
   ·exact .inr (.inl (cu b h))
   ·exact .inr (.inr h)
  ·rcases az.own b (by simp [h]) with ab | ab
   ·exact .inr (.inl (cu b ab))
   ·exact .inr (.inr ab)
 have l5:bl aa S w ay S' bX :=
  ⟨az.os,az.tape,az.output,az.size,fun b af aI=>az.cE b af (by simp [dT,aI]),fun b o h=>⟨.inl h,(az.set b o (.inl h)).2⟩,pn,fun b h=>by
   rcases xa b h with h | h
   ·exact .inl h
   ·rcases az.own b h with h | h
    ·exact .inl (cu b h)
    ·exact .inr h⟩
 have b2:=fun d u r v=>l9 (gy:=J) (id0:=H2.length) (n:=n) ch (lo:=0) (fun id b aR af=>by omega) (fun b af=>by
   have:=(sa.1 af).1;rw [ch.cK] at this;omega) d u r v
 have Dw:=b2 d r v x aP ai
 have nS:aU (fun b=>match bu b with | some .res=>some .res | _=>none) J (gB bu bL bX 0 H2.length) bX .res v x:=kE (l:=.res) (fun b af=>⟨by simp [af],fun o h=>by
  rcases h with h | ⟨⟨id,_,_,h⟩,_⟩
  ·exact h
  ·rw [af] at h;cases h⟩) b2 aP aq
 refine ⟨ay,J,S',Ext.refl J,l5,ag.frame l5 (fun b l af ao=>?_) (fun b o h=>?_) (fun b l af=>?_),Fy ah Dw,Fx ah nS fun b af=>?_⟩
 ·obtain ⟨ab,ae,aF⟩:=jZ b l af ao;have aI:dT aa b=none:=by rcases ao with ⟨id,rfl⟩ | ⟨id,j,rfl⟩ <;> simp [dT,af]
  refine ⟨ab,az.cE b aF aI,fun o h=>?_⟩;rcases h with h | ⟨h | ⟨⟨id,_,_,h⟩,_⟩,ft⟩
  ·exact h
  ·rcases az.fresh b o h with (h | ⟨⟨id,h⟩,_⟩) | h | h
   ·exact h
   ·exact absurd h (ft id)
   ·exact absurd aI h
   ·omega
  ·rw [ae] at h;cases h
 ·rcases h with h | ⟨h | ⟨_,h⟩,_⟩
  ·obtain ⟨v,ad⟩:=ag.cd b o h;exact ⟨v,((az.set b o (.inl h)).2).trans ad⟩
  ·exact ch.cd b o h
  ·exact h
 ·by_cases h:aa b=none
  ·(have bw:bu b≠none:=fun ae=>by simp [ay,h,ae] at af);cases ae:bu b with
   | none=>exact absurd ae bw
   | some l'=>exact ch.base b l' ae
  ·cases ab:aa b with
   | none=>exact absurd ab h
   | some l'=>obtain ⟨p,q⟩:=ag.base b l' ab;exact ⟨p,ud q az.size⟩
 ·have gN:bu b=some .res:=by
   split at af
   ·assumption
   ·cases af
  refine ⟨?_,fun o h=>?_⟩
  ·cases ab:aa b with
   | none=>simp [ay,ab,gN]
   | some l =>
     cases l with
     | obj id=>have:=(jZ b _ ab (.inl ⟨id,rfl⟩)).2.1;rw [gN] at this;cases this
     | cell id j=>have:=(jZ b _ ab (.inr ⟨id,j,rfl⟩)).2.1;rw [gN] at this;cases this
     | _=>simp [ay,ab,gN]
  ·rcases h with h | ⟨h,_⟩
   ·exact .inl ((az.set b o (.inl h)).1)
   ·exact h
end
end Go.Proofs.Ytkoioidpbbbaiaa.Ab


namespace Go.Proofs.Ytkoioidpbbbaiaa.Ab
open Go
def ba (lo:Nat) (H H':List ar):Prop:=H.length≤H'.length∧∀ id,id<lo→id<H.length→H'[id]?=H[id]?
theorem ba.refl (lo:Nat) (H:List ar):ba lo H H:=⟨sc _,fun _ _ _=>rfl⟩
theorem ba.trans {lo:Nat} {H H1 H2:List ar} (h:ba lo H H1) (k:ba lo H1 H2):ba lo H H2 :=
 ⟨sT h.1 k.1,fun id ab ae=>(k.2 id ab (ud ae h.1)).trans (h.2 id ab ae)⟩
theorem ba.append (lo:Nat) (H X:List ar):ba lo H (H++X):=⟨by simp,fun id _ h=>sg h⟩
theorem ba.set {lo id:Nat} (H:List ar) (x:ar) (h:lo≤id):ba lo H (H.set id x):=⟨by simp,fun bC ab _=>sd (by omega)⟩
def fZ (B:Nat) (aa:Nat→Option aH) (J:List Nat) (S:Nat→Nat→Prop) (w:World) (H':List ar) (r:I):Ending→World→Prop
 | .returned v,w'=>aZ B aa J S w H' r v w'
 | _,_=>False
def nn (aa:Nat→Option aH):Prop:=∀ b i,aa b≠some (.slot i)
def jh (L:Loop) (vs:List Value):Array Value:=(L.params.zip vs.toArray).foldl (fun tmps (x:Tmp×Value)=>tmps.setIfInBounds x.1 x.2) L.tmps
def jA (P:Program) (bY:fc) (args:List I) (H H':List ar) (r:I):Prop :=
 match bY with
 | .fn k => (∃ f, P.funcs[k]? = some f ∧ f.body.isSome = true ∧ f.name ≠ "runtime.NumGoroutine") ∧
   ∀ B aa J S w vs,aK B aa J S w H→nn aa→a5 (fun i=>.arg i) aa J S w args vs→CallsIn Fence.wide 0 P k vs.toArray w (fZ B aa J S w H' r)
 | .yield l=>∀ B aa J S w vs b,aK B aa J S w H→nn aa→a5 (fun i=>.arg i) aa J S w args vs→J[l]?=some b →
   ∃ L,w.heap[b]?=some (.loop L)∧vs.length=L.params.size∧RoundIn Fence.wide 0 P b L.fn (jh L vs) L.assign L.body w (fZ B aa J S w H' r)
structure c6 (P:Program) (C:b8):Prop where
 low:∀ {bY args H lo r H'},C bY args H lo=some (r,H')→ba lo H H'
 ok:∀ {bY args H lo r H'},C bY args H lo=some (r,H')→jA P bY args H H' r
section
variable {P:Program} {B N:Nat} {J:List Nat} {w:World} {H:List ar} {aa:Nat→Option aH} {S:Nat→Nat→Prop}
theorem fZ.mono {H' H1:List ar} {r r':I} (h:∀ v w',aZ B aa J S w H' r v w'→aZ B aa J S w H1 r' v w') (e:Ending) (w':World) (k:fZ B aa J S w H' r e w'):fZ B aa J S w H1 r' e w':=by
 cases e with
 | returned v=>exact h v w' k
 | panicked c=>exact k
 | outgrown=>exact k
theorem jA.mono {bY:fc} {args:List I} {H' H1:List ar} {r r':I} (k:jA P bY args H H' r)
  (h:∀ B aa J S w,aK B aa J S w H→∀ v w',aZ B aa J S w H' r v w'→aZ B aa J S w H1 r' v w'):jA P bY args H H1 r':=by
 cases bY with
 | fn f =>
   exact ⟨k.1,fun B aa J S w vs ag aI ad=>CallsIn.mono (k.2 B aa J S w vs ag aI ad) (fZ.mono (h B aa J S w ag))⟩
 | yield l =>
   intro B aa J S w vs b ag aI ad af;obtain ⟨L,ab,ae,aF⟩:=k B aa J S w vs b ag aI ad af;exact ⟨L,ab,ae,RoundIn.mono aF (fZ.mono (h B aa J S w ag))⟩
theorem Cu (ag:aK B aa J S w H) {id:Nat} {l:List I} (aE:H[id]?=some (.cells l)) {v:Value} (ai:Rel J S w (.ptr id 0) v) :
  ∃ ay S',bl aa S w ay S' w∧aK B ay J S' w (H.set id .dead)∧Rel J S' w (.bS (l.map I.view)) v:=by
 classical
 cases ai with
 | ptr _ _ b af =>
   obtain ⟨au,cur,e,aA,aG,aT,br,bg,bd⟩:=ag.obj id _ aE;rw [af] at aA;cases aA
   let S':Nat→Nat→Prop:=fun au o=>S au o∨(au=b∧o<cur.size)
   let ay:Nat→Option aH:=fun au=>if au=b then none else aa au
   have bz:∀ o,o<cur.size→w.cell? ⟨b,o,none⟩=cur[o]?:=fun o aq=>by
    simp [World.cell?,aT,aq]
   have az:bl aa S w ay S' w:=⟨rfl,rfl,rfl,sc _,fun _ _ _=>rfl,fun _ _ h=>⟨.inl h,rfl⟩,fun au o h=>by
     rcases h with h | ⟨rfl,_⟩
     ·exact .inl h
     ·exact .inr (.inl (by simp [aG])),fun au bw=>by
     by_cases dI:au=b
     ·simp [ay,dI] at bw
     ·simp only [ay,dI,if_false] at bw;exact .inl bw⟩
   have bW:aK B ay J S' w (H.set id .dead):=by
    refine ⟨by simpa using ag.cK,fun bC o aq=>?_,fun au o h=>?_,fun au l' bw=>?_,ag.c0⟩
    ·by_cases cx:bC=id
     ·subst cx
      have:o=.dead:=by
       have:=(sa.1 aE).1;simp [this] at aq;exact aq.symm
      subst this;trivial
     ·rw [sd (Ne.symm cx)] at aq;refine (ag.obj bC o aq).frame (Ext.refl J) az.set (fun au l' bw ao=>?_);have bJ:au≠b:=fun e=>by
       subst e;rw [aG] at bw;cases bw;rcases ao with h | ⟨j,h⟩
       ·cases h;exact cx rfl
       ·cases h
      exact ⟨by simp [ay,bJ,bw],rfl,fun o h=>h.resolve_right fun h=>bJ h.1⟩
    ·rcases h with h | ⟨rfl,h⟩
     ·exact ag.cd _ _ h
     ·exact ⟨_,(bz o h).trans (sr h)⟩
    ·by_cases dI:au=b
     ·simp [ay,dI] at bw
     ·simp only [ay,dI,if_false] at bw;exact ag.base _ _ bw
   refine ⟨ay,S',az,bW,.bS _ b 0 (fun j=>cur.getD j undef) (fun j u aw=>?_) (fun j u aw=>?_)⟩
   all_goals
    rw [sm] at aw;cases ao:l[j]? with
    | none=>rw [ao] at aw;simp at aw
    | some yi =>
      rw [ao] at aw;simp only [se,Option.some.injEq] at aw;subst aw;have aR:=(sa.1 ao).1;have pO:cur[j]?=some cur[j]:=sr (by omega);(have aO:cur.getD j undef=cur[j]:=by simp [su,pO]);obtain ⟨a7,a9,bt,b6⟩:=bd j yi _ ao pO
      first
       | (simp only [aO];exact ⟨.inr ⟨rfl,by omega⟩,by rw [sB,bz j (by omega),pO],I.dm _,a9⟩)
       | (simp only [aO];exact (bt.view a7).mono (Ext.refl J) az.set)
theorem a5.EA {bA:Nat→aH} {u:I} {vs:List Value} (h:a5 bA aa J S w [u] vs):∃ v,vs=[v]∧Rel J S w u v∧aU aa J S w (bA 0) u v:=by
 cases vs with
 | nil=>have:=h.len;simp at this
 | cons v r=>cases r with
   | nil=>exact ⟨v,rfl,h.rel 0 u v rfl rfl,h.own 0 u v rfl rfl⟩
   | cons x y=>have:=h.len;simp at this
theorem nx {C:b8} (bn:c6 P C) {lo mode:Nat} {bY:fc} {args:List I} {v:I} {H1:List ar} (h:eQ C lo mode bY args H=some (v,H1)):ba lo H H1∧jA P bY args H H1 v:=by
 have frozen:∀ {r:I} {H2:List ar},C bY args H H.length=some (r,H2)→((bM H2 H.length H2.length 0 8 r).map fun v=>(v,H))=some (v,H1)→ba lo H H1∧jA P bY args H H1 v:=fun ak aP=>by
  simp only [r_,Prod.mk.injEq] at aP;obtain ⟨bo,aP,rfl,rfl⟩:=aP;exact ⟨ba.refl _ _,(bn.ok ak).mono fun B aa J S w ag x w' aB=>xH ag (fun id aE=>(bn.low ak).2 id aE aE) aP aB⟩
 unfold eQ at h;split at h
 ·simp only [sf] at h;obtain ⟨⟨r,H2⟩,ak,aP⟩:=h;exact frozen ak aP
 ·exact ⟨bn.low h,bn.ok h⟩
 ·split at h
  ·rename_i k aB;simp only [sf] at h;obtain ⟨⟨r,H2⟩,ak,aP⟩:=h;simp only [r_,Prod.mk.injEq] at aP;obtain ⟨bo,aP,rfl,rfl⟩:=aP;obtain ⟨aJ,aN⟩:=bn.ok ak
   exact ⟨ba.refl _ _,aJ,fun B aa J S w vs ag aI ad=>CallsIn.mono (aN B _ [] S w vs (w7 ag) (fun b i h=>by obtain ⟨_,_,h⟩:=ku h;cases h) (ad.pure aB).cc) fun e w' he=>by
     cases e with
     | returned v=>exact (xI ag aP he).cc
     | panicked c=>exact he.elim
     | outgrown=>exact he.elim⟩
  ·simp at h
 ·split at h
  ·rename_i k aB;simp only [sf] at h;obtain ⟨⟨r,H2⟩,ak,bo,aP,h⟩:=h;split at h
   ·rename_i w9;simp only [Option.some.injEq,Prod.mk.injEq] at h;obtain ⟨rfl,rfl⟩:=h;obtain ⟨aJ,aN⟩:=bn.ok ak
    exact ⟨ba.refl _ _,aJ,fun B aa J S w vs ag aI ad=>CallsIn.mono (aN B _ [] _ w vs (Dy ag) (fun b i h=>by obtain ⟨_,_,h⟩:=ku h;cases h) ((Gt ag ad).pure aB).cc) fun e w' he=>by
     cases e with
     | returned v=>exact (EJ ag aP w9 he).cc
     | panicked c=>exact he.elim
     | outgrown=>exact he.elim⟩
   ·simp at h
  ·simp at h
 ·split at h
  ·rename_i k aB;simp only [sf] at h;obtain ⟨⟨r,H2⟩,ak,aP⟩:=h;simp only [r_,Prod.mk.injEq] at aP;obtain ⟨bo,aP,rfl,rfl⟩:=aP;obtain ⟨aJ,aN⟩:=bn.ok ak
   exact ⟨ba.refl _ _,aJ,fun B aa J S w vs ag aI ad=>CallsIn.mono (aN B _ [] S w vs (w7 ag) (fun b i h=>by obtain ⟨_,_,h⟩:=ku h;cases h) (ad.gw.pure aB).cc) fun e w' he=>by
     cases e with
     | returned v=>exact (xI ag aP he).cc
     | panicked c=>exact he.elim
     | outgrown=>exact he.elim⟩
  ·simp at h
 ·split at h
  ·rename_i k id;split at h
   ·rename_i bD;split at h
    ·rename_i l aE;split at h
     ·rename_i aB;simp only [sf] at h;obtain ⟨⟨r,H2⟩,ak,aP⟩:=h;simp only [r_,Prod.mk.injEq] at aP;obtain ⟨bo,aP,rfl,rfl⟩:=aP;obtain ⟨aJ,aN⟩:=bn.ok ak;refine ⟨ba.set _ _ bD,aJ,fun B aa J S w vs ag aI ad=>?_⟩;obtain ⟨v0,gj,aS,_⟩:=a5.EA ad;subst gj;obtain ⟨ay,S',az,bW,bj⟩:=Cu ag aE aS
      have dg:a5 (fun i=>.arg i) ay J S' w [I.bS (l.map I.view)] [v0]:=⟨rfl,fun i u v hu ad=>by
       cases i with
       | zero=>simp at hu ad;subst hu ad;exact bj
       | succ i=>simp at hu,fun i u v hu ad=>by
       cases i with
       | zero=>simp at hu ad;subst hu;exact aU.b4 rfl
       | succ i=>simp at hu⟩
      (have j0:([I.bS (l.map I.view)]).all (cr 8)=true:=by simp [aB]);exact CallsIn.mono (aN B _ [] S' w _ (w7 bW) (fun b i h=>by obtain ⟨_,_,h⟩:=ku h;cases h) (dg.pure j0).cc) fun e w' he=>by
       cases e with
       | returned v=>exact aZ.after (Ext.refl J) az (xI bW aP he).cc
       | panicked c=>exact he.elim
       | outgrown=>exact he.elim
     ·simp at h
    ·simp at h
   ·simp at h
  ·simp at h
 ·simp only [sf] at h;obtain ⟨⟨r,H2⟩,ak,aP⟩:=h;simp only [r_,Prod.mk.injEq] at aP;obtain ⟨bo,aP,rfl,rfl⟩:=aP;refine ⟨ba.refl _ _,?_⟩;have bT:=(bn.ok ak).mono (r':=bo.cc) (H1:=H) fun B aa J S w ag x w' aB=>(xH ag (fun id aE=>(bn.low ak).2 id aE aE) aP aB).cc;cases bY with
  | fn k=>exact ⟨bT.1,fun B aa J S w vs ag aI ad=>bT.2 B aa J S w vs ag aI ad.cc⟩
  | yield l=>exact fun B aa J S w vs b ag aI ad af=>bT B aa J S w vs b ag aI ad.cc af
 ·simp only [sf] at h;obtain ⟨⟨r,H2⟩,ak,aP⟩:=h;split at aP
  ·exact frozen ak aP
  ·rename_i id0 pG;split at aP
   ·rename_i l aE;split at aP
    ·rename_i fh;split at aP
     ·rename_i l' bo ao ad;simp only [Option.some.injEq,Prod.mk.injEq] at aP;obtain ⟨rfl,rfl⟩:=aP;exact ⟨ba.append _ _ _,(bn.ok ak).mono fun B aa J S w ag x w' aB=>EH ag (fun id aE=>(bn.low ak).2 id aE aE) fh aE ao ad aB⟩
     ·simp at aP
    ·simp at aP
   ·rename_i es clock aE;split at aP
    ·rename_i fh;split at aP
     ·rename_i l' bo ao ad;simp only [Option.some.injEq,Prod.mk.injEq] at aP;obtain ⟨rfl,rfl⟩:=aP;exact ⟨ba.append _ _ _,(bn.ok ak).mono fun B aa J S w ag x w' aB=>EI ag (fun id aE=>(bn.low ak).2 id aE aE) fh aE ao ad aB⟩
     ·simp at aP
    ·simp at aP
   ·simp at aP
end
end Go.Proofs.Ytkoioidpbbbaiaa.Ab


namespace Go.Proofs.Ytkoioidpbbbaiaa.Ab
open Go
def gn (g:Nat→Option Nat) (aa:Nat→Option aH):Nat→Option aH:=fun b=>match aa b with
 | some (.arg i)=>(g i).map .arg
 | some (.obj id)=>some (.obj id)
 | some (.cell id j)=>some (.cell id j)
 | _=>none
def fm (d':Bool) (vs:List I):List I:=match d' with | true=>vs | false=>vs.map I.view
def ek (F:Fence):Prop:=F=Fence.wide∨∃ l,F=Fence.wide.inRound l
section
variable {P:Program} {B N:Nat} {J:List Nat} {w:World} {H:List ar} {aa:Nat→Option aH} {S:Nat→Nat→Prop}
theorem ek.fn {F:Fence} (h:ek F) (f:FuncId):F.fn f:=by rcases h with rfl | ⟨l,rfl⟩ <;> trivial
theorem ek.depth {F:Fence} (h:ek F):F.depth=none:=by rcases h with rfl | ⟨l,rfl⟩ <;> rfl
theorem ek.calls {F:Fence} (h:ek F) {n:Nat} {f:FuncId} {args:Array Value} {w:World} {R:Ending→World→Prop} (k:CallsIn Fence.wide n P f args w R):CallsIn F n P f args w R:=by
 rcases h with rfl | ⟨l,rfl⟩
 ·exact k
 ·exact CallsIn.inRound l k
theorem ek.rounds {F:Fence} (h:ek F) {n l:Nat} {f:FuncId} {tmps:Array Value} {assign body:Code} {w:World} {R:Ending→World→Prop} (k:RoundIn Fence.wide n P l f tmps assign body w R):RoundIn F n P l f tmps assign body w R:=by
 rcases h with rfl | ⟨l,rfl⟩
 ·exact k
 ·exact k
theorem EZ {g:Nat→Option Nat} {b:Nat} (h:aa b=none):gn g aa b=none:=by simp [gn,h]
theorem E0 {g:Nat→Option Nat} {b:Nat} (h:gn g aa b≠none):aa b≠none:=fun aQ=>h (EZ aQ)
theorem At (g:Nat→Option Nat) (aa:Nat→Option aH) (S:Nat→Nat→Prop) (w:World):bl aa S w (gn g aa) S w :=
 ⟨rfl,rfl,rfl,sc _,fun _ _ _=>rfl,fun _ _ h=>⟨h,rfl⟩,fun _ _ h=>.inl h,fun _ h=>.inl (E0 h)⟩
theorem Au (g:Nat→Option Nat) (aa:Nat→Option aH):nn (gn g aa):=fun b i h=>by
 unfold gn at h;split at h <;> simp at h
theorem zn (ag:aK B aa J S w H) (g:Nat→Option Nat):aK B (gn g aa) J S w H:=by
 refine ⟨ag.cK,fun id o aq=>?_,ag.cd,fun b l af=>?_,ag.c0⟩
 ·refine (ag.obj id o aq).frame (Ext.refl J) (fun _ _ h=>⟨h,rfl⟩) fun b l af ao=>⟨?_,rfl,fun _ h=>h⟩;rcases ao with rfl | ⟨j,rfl⟩ <;> simp [gn,af]
 ·cases h:aa b with
  | none=>simp [gn,h] at af
  | some l'=>exact ag.base b l' h
theorem EF {g:Nat→Option Nat} {i j:Nat} (aO:g i=some j) {u:I} {v:Value} (h:aU aa J S w (.arg i) u v):aU (gn g aa) J S w (.arg j) u v :=
 h.mono (Ext.refl J) (fun _ _ h=>⟨h,rfl⟩) fun b af=>⟨by simp [gn,af,aO],rfl,fun _ h=>h⟩
theorem EU {T:List I} {a:Act} (aL:cA B N aa J S w ⟨T,H⟩ a) (ops:List Operand) (ts:List Bool) (d':Bool) :
  ∃ b5 a4,bl aa S w b5 a4 w∧cA B N b5 J a4 w ⟨(rd T ts ops).2,H⟩ a ∧
    a5 (fun i=>.arg i) b5 J a4 w (fm d' (rd T ts ops).1) (ops.map a.eval):=by
 obtain ⟨b5,a4,g,b0,ag,ad⟩:=EV a ops ts T 0 aa S aL.T aL.H;simp only [sB] at ad;cases d' with
 | true=>exact ⟨b5,a4,g.az w,⟨b0,ag,aL.M.az (g.az w)⟩,ad⟩
 | false =>
   obtain ⟨bL,aJ,aN,ch,dg⟩:=FA (rd T ts ops).1 (ops.map a.eval) (fun i=>.arg i) a4 (fun i j h=>by cases h;rfl) (fun i id=>by simp) (fun i id j=>by simp) ad ag;have az:bl b5 a4 w b5 bL w:=bl.settle aJ fun b o h=>(aN b o h).imp id fun ⟨i,h⟩=>⟨_,h⟩;refine ⟨b5,bL,(g.az w).trans az,⟨⟨b0.len,fun i u v hu ad=>(b0.rel i u v hu ad).mono (Ext.refl J) (fun b o h=>⟨aJ b o h,rfl⟩),fun i u v hu ad=>?_⟩,ch,(aL.M.az (g.az w)).az az⟩,dg⟩;refine (b0.own i u v hu ad).mono (Ext.refl J) (fun b o h=>⟨aJ b o h,rfl⟩) fun b af=>⟨af,rfl,fun o h=>?_⟩;rcases aN b o h with h | ⟨j,h⟩
   ·exact h
   ·rw [af] at h;cases h
theorem pa {C:b8} {lo:Nat} {o:Oper} {an:bZ} {s aD:a6} (h:Ab.execOp P C lo o an s=some aD) :
  ∃ r H',a3 P C lo o an.mode (fm (dF o an.mode) (rd s.T an.cC (opsOf o)).1) s.H=some (r,H') ∧
    aD=⟨put (inPlace o an.mode (rd s.T an.cC (opsOf o)).2 r) o.dst r,H'⟩:=by
 unfold Ab.execOp at h;simp only [r_] at h;obtain ⟨⟨r,H'⟩,h,rfl⟩:=h;exact ⟨r,H',h,rfl⟩
theorem Es {C:b8} {lo mode:Nat} {o:Oper} {us:List I} {r:I} {H':List ar} {t:Nat} (hm:mode≠0) (Df:mode≠4) (aq:o.op=.move (.tmp t)∨o.op=.assign (.tmp t))
  (h:a3 P C lo o mode us H=some (r,H')) {aa:Nat→Option aH} {J:List Nat} {S:Nat→Nat→Prop} {w:World} {l:aH} {v:Value} (ai:Rel J S w r v) (hw:aU aa J S w l r v):Rel J S w r.view v:=by
 by_cases hu:r.cW=true
 ·exact ai.view hu
 ·obtain ⟨cells,len,z,rfl⟩:∃ cells len z,r=.av cells len (.uniq z):=by
   unfold I.cW at hu;split at hu
   ·exact ⟨_,_,_,rfl⟩
   ·simp at hu
  have aQ:len=0:=by
   (have aX:eX P lo mode o.type (.tmp t) H us=some (.av cells len (.uniq z),H'):=by rcases aq with aq | aq <;> simpa only [a3,aq] using h);unfold eX at aX;split at aX
   ·split at aX
    ·exact absurd rfl hm
    ·split at aX
     ·split at aX
      ·rename_i bk;cases aX;exact bk
      ·cases aX
     ·cases aX
     ·cases aX
     ·simp at aX
    ·exact absurd rfl Df
    ·split at aX
     ·split at aX
      ·simp only [sf,r_,Prod.mk.injEq] at aX;obtain ⟨row,cI,n,aI,ab,ae⟩:=aX;have:=congrArg (fun x=>match x with | I.av _ _ c=>c | _=>.shared) ab;exact absurd this (yX z)
      ·simp at aX
     ·split at aX
      ·split at aX
       ·split at aX
        ·cases aX
        ·cases aX
       ·cases aX
      ·cases aX
     ·simp only [Option.some.injEq,Prod.mk.injEq] at aX;have:=aX.1 ▸ I.dm _;cases this
   ·simp at aX
  subst aQ;have ak:cells=[]:=by
   cases ai with
   | b3 c a=>rfl
   | av _ _ _ b o cap f ak hle b_ k ew=>exact absurd rfl (b_ z)
   | cP _ _ z b o cap =>
     rcases hw with ⟨_,_,h⟩ | ⟨_,_,_,_,_,h,_⟩
     ·exact h
     ·exact sO.1 (by simpa using h)
  subst ak;cases ai with
  | b3 c a=>exact .b3 _ _
  | av _ _ _ b o cap f ak hle b_ k ew=>exact absurd rfl (b_ z)
  | cP _ _ z b o cap=>exact .av [] 0 .shared b o cap (fun _=>undef) (by simp) (Nat.zero_le _) (by simp) (by simp) (by simp)
theorem xw {lo id:Nat} {H H':List ar} {f:List I→Option (List I)} (h:fS lo H id f=some H'):ba lo H H':=by
 unfold fS at h;split at h
 ·rename_i bD;split at h
  ·simp only [r_] at h;obtain ⟨l',_,rfl⟩:=h;exact ba.set _ _ bD
  ·simp at h
 ·simp at h
theorem D_ {lo:Nat} {t:TypeId} {us:List I} {r:I} {H':List ar} (h:je P lo t H us=some (r,H')):ba lo H H':=by
 unfold je at h;split at h
 ·split at h
  ·split at h
   ·split at h
    ·rename_i bD;split at h
     ·split at h
      ·cases h;exact ba.set _ _ bD
      ·cases h;exact ba.set _ _ bD
      ·cases h
     ·cases h
    ·cases h
   ·cases h
  ·cases h
 ·cases h
theorem D8 {lo:Nat} {ts:Array TypeId} {us:List I} {r:I} {H':List ar} (h:hR P lo ts H us=some (r,H')):ba lo H H':=by
 unfold hR at h;split at h
 ·split at h
  ·split at h
   ·split at h
    ·rename_i bD;split at h
     ·split at h
      ·cases h;exact ba.set _ _ bD
      ·cases h;exact ba.refl _ _
      ·cases h
     ·cases h
    ·cases h
   ·cases h
  ·cases h
 ·cases h
theorem Fv {t:TypeId} {ok:Bool} {us:List I} {r:I} {H':List ar} (h:iv P t ok H us=some (r,H')):H'=H:=by
 unfold iv at h;split at h
 ·split at h
  ·split at h
   ·split at h
    ·simp only [r_,Prod.mk.injEq] at h;obtain ⟨_,_,_,rfl⟩:=h;rfl
    ·cases h
   ·cases h
  ·cases h
 ·cases h
theorem Fu {us:List I} {r:I} {H':List ar} (h:ld H us=some (r,H')):H'=H:=by
 unfold ld at h;split at h
 ·split at h
  ·split at h
   ·split at h
    ·split at h
     ·cases h;rfl
     ·cases h
    ·cases h
   ·cases h
  ·cases h
 ·cases h
theorem xx {lo id:Nat} {H H':List ar} {f:List I→Option (List I)} (h:gT lo H id f=some H'):ba lo H H':=by
 unfold gT at h;split at h
 ·rename_i bD;split at h
  ·simp only [r_] at h;obtain ⟨l',_,rfl⟩:=h;exact ba.set _ _ bD
  ·simp only [r_] at h;obtain ⟨l',_,rfl⟩:=h;exact ba.set _ _ bD
  ·simp at h
 ·simp at h
theorem D7 {lo:Nat} {ts:Array TypeId} {us:List I} {r:I} {H':List ar} (h:iu P lo ts H us=some (r,H')):ba lo H H':=by
 unfold iu at h;split at h
 ·split at h
  ·split at h
   ·split at h
    ·split at h
     ·cases h
     ·cases h;exact ba.append _ _ _
    ·cases h
   ·split at h
    ·rename_i bD;split at h
     ·split at h
      ·split at h
       ·cases h;exact (ba.set _ _ bD).trans (ba.append _ _ _)
       ·cases h
      ·cases h
     ·cases h
    ·cases h
   ·cases h
  ·cases h
 ·cases h
theorem D6 {lo:Nat} {ts:Array TypeId} {us:List I} {r:I} {H':List ar} (h:jc P lo ts H us=some (r,H')):ba lo H H':=by
 refine ba.trans ?_ (D7 h);unfold jo;split
 ·split
  ·split
   ·rename_i ak;simp only [sn] at ak;exact ba.set _ _ (Nat.le_of_ble_eq_true ak.2)
   ·exact ba.refl _ _
  ·exact ba.refl _ _
 ·exact ba.refl _ _
theorem D' {lo:Nat} {t:TypeId} {us:List I} {r:I} {H':List ar} (h:lg P t H us=some (r,H')):ba lo H H':=by
 unfold lg at h;split at h
 ·split at h
  ·cases h;exact ba.append _ _ _
  ·cases h
 ·cases h
theorem D9 {lo:Nat} {t:TypeId} {x:Option Operand} {r:I} {H':List ar} (h:lf P t x H=some (r,H')):ba lo H H':=by
 unfold lf at h;split at h
 ·cases h;exact ba.append _ _ _
 ·cases h
theorem zP {lo:Nat} {b:Builtin} {ts:Array TypeId} {us:List I} {r:I} {H':List ar} (h:ei P lo b ts H us=some (r,H')):ba lo H H':=by
 have same:∀ {x:Option I},x.map (·,H)=some (r,H')→ba lo H H':=fun h=>by
  simp only [r_,Prod.mk.injEq] at h;obtain ⟨_,_,_,rfl⟩:=h;exact ba.refl _ _
 unfold ei at h;split at h
 ·unfold hQ at h;split at h
  ·split at h
   ·exact same h
   ·simp at h
  ·simp at h
 ·unfold hx at h;split at h
  ·split at h
   ·split at h <;> simp at h;obtain ⟨_,rfl⟩:=h;exact ba.refl _ _
   ·split at h <;> simp at h;obtain ⟨_,rfl⟩:=h;exact ba.refl _ _
   ·split at h <;> simp at h;obtain ⟨_,rfl⟩:=h;exact ba.refl _ _
   ·split at h <;> simp at h;obtain ⟨_,rfl⟩:=h;exact ba.refl _ _
  ·simp at h
 ·unfold j_ at h;split at h
  ·split at h <;> simp at h;obtain ⟨_,rfl⟩:=h;exact ba.refl _ _
  ·split at h <;> simp at h;obtain ⟨_,rfl⟩:=h;exact ba.refl _ _
  ·simp at h
 ·unfold j' at h;split at h
  ·split at h
   ·split at h
    ·split at h
     ·simp only [r_,Prod.mk.injEq] at h;obtain ⟨H1,h,_,rfl⟩:=h;exact xw h
     ·simp at h
    ·simp at h
   ·simp at h
  ·simp at h
 ·unfold lb at h;split at h
  ·split at h
   ·split at h
    ·split at h
     ·simp only [r_,Prod.mk.injEq] at h;obtain ⟨H1,h,_,rfl⟩:=h;exact xx h
     ·simp at h
    ·simp at h
   ·simp at h
  ·split at h <;> simp at h;obtain ⟨_,rfl⟩:=h;exact ba.refl _ _
  ·simp at h
 ·exact D8 h
 ·exact same h
 ·exact same h
 ·simp at h
theorem ED {C:b8} (bn:c6 P C) {lo mode:Nat} {o:Oper} {us:List I} {r:I} {H':List ar} (h:a3 P C lo o mode us H=some (r,H')):ba lo H H':=by
 have same:∀ {x:Option I},x.map (·,H)=some (r,H')→ba lo H H':=fun h=>by
  simp only [r_,Prod.mk.injEq] at h;obtain ⟨_,_,_,rfl⟩:=h;exact ba.refl _ _
 have mx:∀ {t:TypeId} {x:Operand},eX P lo mode t x H us=some (r,H')→ba lo H H':=fun h=>by
  unfold eX at h;split at h
  ·split at h
   ·split at h
    ·simp only [r_,Prod.mk.injEq] at h;obtain ⟨_,_,_,rfl⟩:=h;exact ba.refl _ _
    ·cases h;exact ba.refl _ _
   ·split at h
    ·split at h
     ·cases h;exact ba.refl _ _
     ·cases h;exact ba.append _ _ _
    ·cases h;exact ba.refl _ _
    ·cases h;exact ba.refl _ _
    ·simp at h
   ·split at h
    ·split at h
     ·rename_i bD;split at h
      ·split at h
       ·cases h;exact ba.set _ _ bD
       ·cases h
      ·cases h
     ·cases h
    ·cases h;exact ba.refl _ _
   ·split at h
    ·split at h
     ·rename_i bD;simp only [sf,r_,Prod.mk.injEq] at h;obtain ⟨_,_,_,_,_,rfl⟩:=h;exact ba.set _ _ bD
     ·simp at h
    ·split at h
     ·rename_i bD;split at h
      ·split at h
       ·cases h;exact ba.set _ _ bD
       ·cases h
      ·cases h
     ·cases h
    ·cases h;exact ba.refl _ _
  ·simp at h
 unfold a3 at h;split at h
 ·exact mx h
 ·exact mx h
 ·unfold du at h;split at h
  ·split at h
   ·exact same h
   ·split at h
    ·exact same h
    ·simp at h
   ·split at h
    ·split at h
     ·split at h
      ·cases h;exact ba.refl _ _
      ·cases h;exact ba.refl _ _
      ·simp at h
     ·simp at h
    ·simp at h
   ·split at h
    ·split at h
     ·rename_i bD;split at h
      ·split at h
       ·split at h
        ·rename_i ak;simp only [sf,r_,Prod.mk.injEq] at h;obtain ⟨row,_,_,_,_,rfl⟩:=h;exact (ba.set _ _ ak.1).trans (ba.set _ _ bD)
        ·simp at h
       ·simp at h
      ·simp at h
     ·simp at h
    ·simp at h
   ·split at h
    ·split at h
     ·split at h
      ·exact same h
      ·simp at h
     ·simp at h
    ·simp at h
   ·split at h
    ·split at h
     ·rename_i bD;split at h
      ·split at h
       ·cases h;exact ba.set _ _ bD
       ·split at h
        ·split at h
         ·simp at h
         ·cases h;exact (ba.set _ _ bD).trans (ba.append _ _ _)
        ·cases h;exact ba.set _ _ bD
       ·cases h;exact ba.refl _ _
       ·simp at h
      ·split at h
       ·cases h;exact ba.set _ _ bD
       ·cases h;exact ba.refl _ _
       ·simp at h
      ·simp at h
     ·simp at h
    ·simp at h
  ·simp at h
 ·unfold gm at h;split at h
  ·split at h
   ·simp only [r_,Prod.mk.injEq] at h;obtain ⟨H1,h,_,rfl⟩:=h;unfold g8 at h;split at h
    ·split at h
     ·exact xx h
     ·simp at h
    ·simp at h
   ·simp only [r_,Prod.mk.injEq] at h;obtain ⟨H1,h,_,rfl⟩:=h;unfold lN at h;split at h
    ·split at h
     ·exact xw h
     ·simp at h
    ·simp at h
   ·split at h
    ·split at h
     ·split at h
      ·simp at h
      ·simp only [r_,Prod.mk.injEq] at h;obtain ⟨H1,h,_,rfl⟩:=h;unfold g8 at h;split at h
       ·split at h
        ·exact xx h
        ·simp at h
       ·simp at h
     ·simp at h
    ·simp at h
   ·simp only [r_,Prod.mk.injEq] at h;obtain ⟨H1,h,_,rfl⟩:=h;unfold lO at h;split at h
    ·split at h
     ·exact xw h
     ·simp at h
    ·simp at h
  ·simp at h
 ·unfold gW at h;split at h
  ·split at h
   ·simp only [r_,Prod.mk.injEq] at h;obtain ⟨_,_,_,rfl⟩:=h;exact ba.append _ _ _
   ·split at h
    ·split at h
     ·cases h;exact ba.refl _ _
     ·cases h
    ·cases h
  ·simp at h
 ·unfold la at h;split at h
  ·simp only [r_,Prod.mk.injEq] at h;obtain ⟨_,_,_,rfl⟩:=h;exact ba.append _ _ _
  ·split at h
   ·simp only [r_,Prod.mk.injEq] at h;obtain ⟨_,_,_,rfl⟩:=h;exact ba.append _ _ _
   ·cases h
 ·split at h
  ·exact same h
  ·simp only [r_,Prod.mk.injEq] at h;obtain ⟨_,_,_,rfl⟩:=h;exact ba.refl _ _
 ·split at h
  ·exact same h
  ·simp only [r_,Prod.mk.injEq] at h;obtain ⟨_,_,_,rfl⟩:=h;exact ba.refl _ _
 ·unfold ka at h;split at h
  ·split at h
   ·split at h
    ·simp only [r_,Prod.mk.injEq] at h;obtain ⟨_,_,_,rfl⟩:=h;exact ba.append _ _ _
    ·split at h
     ·simp only [r_,Prod.mk.injEq] at h;obtain ⟨_,_,_,rfl⟩:=h;exact ba.refl _ _
     ·simp at h
   ·simp at h
  ·simp at h
 ·exact D9 h
 ·exact D_ h
 ·rw [Fv h];exact ba.refl _ _
 ·exact D' h
 ·rw [Fu h];exact ba.refl _ _
 ·split at h
  ·split at h
   ·split at h
    ·exact zP h
    ·unfold oh at h;split at h
     ·split at h
      ·simp at h
      ·cases h;exact ba.append _ _ _
     ·simp at h
    ·exact D6 h
   ·exact zP h
  ·unfold hv at h;split at h
   ·unfold ky at h;split at h
    ·exact (nx bn h).1
    ·exact (nx bn h).1
    ·simp at h
   ·simp at h
  ·simp at h
 ·exact same h
end
end Go.Proofs.Ytkoioidpbbbaiaa.Ab


namespace Go.Proofs.Ytkoioidpbbbaiaa.Ab
open Go
section
variable {P:Program} {B N:Nat} {J:List Nat} {w:World} {H:List ar} {aa:Nat→Option aH} {S:Nat→Nat→Prop}
theorem AX {k : Nat} {f : Func} (aP : P.funcs[k]? = some f) (af : f.body.isSome = true) (aI : f.name ≠ "runtime.NumGoroutine") (args : Array Value) (w : World) :
  (callFunc k args).run P w=.ok (.enter k args) w:=by
 have bw:f.body≠none:=fun h=>by simp [h] at af
 simp [callFunc,aP,bw,aI]
theorem Bw {first us cap:List I} {vs ws xs:List Value} (aP:first.length=vs.length) (bU:∀ u∈first,u.plain=true) (aS:∀ (j:Nat) (u:I) (v:Value),first[j]?=some u→vs[j]?=some v→Rel J S w u v)
  (ak:cap.length=ws.length) (b1:∀ u∈cap,u.plain=true) (bj:∀ (j:Nat) (u:I) (v:Value),cap[j]?=some u→ws[j]?=some v→Rel J S w u v)
  (ad:a5 (fun i=>.arg (i+1)) aa J S w us xs) :
  a5 (fun i=>.arg i) (gn (fun i=>match i with | 0=>none | j+1=>some (first.length+j)) aa) J S w (first++us++cap) (vs++xs++ws):=by
 have ao:=ad.len;have key:∀ (i:Nat) (u:I) (v:Value),(first++us++cap)[i]?=some u→(vs++xs++ws)[i]?=some v →
   Rel J S w u v∧aU (gn (fun i=>match i with | 0=>none | j+1=>some (first.length+j)) aa) J S w (.arg i) u v:=fun i u v hu aj=>by
  rcases sL i first.length with ab | ab
  ·rw [sx,sg ab] at hu;rw [sx,sg (by omega)] at aj;exact ⟨aS i u v hu aj,aU.b4 (bU u (sv hu))⟩
  ·rw [sx,ss ab] at hu;rw [sx,ss (by omega),←aP] at aj;rcases sL (i-first.length) us.length with ae | ae
   ·rw [sg ae] at hu;rw [sg (by omega)] at aj;refine ⟨ad.rel _ u v hu aj,EF ?_ (ad.own _ u v hu aj)⟩;show some (first.length+(i-first.length))=some i;congr 1;omega
   ·rw [ss ae] at hu;rw [ss (by omega),←ao] at aj;exact ⟨bj _ u v hu aj,aU.b4 (b1 u (sv hu))⟩
 exact ⟨by simp [aP,ak,ao],fun i u v hu aj=>(key i u v hu aj).1,fun i u v hu aj=>(key i u v hu aj).2⟩
theorem yf {F:Fence} (bG:ek F) {C:b8} (bn:c6 P C) {lo:Nat} {o:Oper} {an:bZ} {s aD:a6} (h:Ab.execOp P C lo o an s=some aD) {a:Act} (aL:cA B N aa J S w s a)
  {K:Act→World→Prop} {Q:Exit→Act→World→Prop} (fJ:∀ aM w',Step B N aa J S w aD aM w'→K aM w'):o.wpIn F 0 P a w K Q:=by
 obtain ⟨r,H',aC,rfl⟩:=pa h;obtain ⟨b5,a4,nE,cg,ad⟩:=EU (H:=s.H) aL (opsOf o) an.cC (dF o an.mode);generalize zs:fm (dF o an.mode) (rd s.T an.cC (opsOf o)).1=us at aC ad;have eW:∀ v,a.eval (.const v)=v:=fun _=>rfl;have jW:∀ c,o.op≠.defer c:=fun c ak=>by simp [a3,ak,cB] at aC
 have nK:∀ v w',(∀ t,o.op=.move (.tmp t)∨o.op=.assign (.tmp t)→v=a.eval (.tmp t))→aZ B (dr b5) J a4 w H' r v w'→K (a.put o.dst v) w':=fun v w' dY aB=>by
  refine fJ _ _ (Step.trans (Ext.refl J) nE ?_);by_cases hm:an.mode=0∨an.mode=4
  ·obtain ⟨ay,bV,S',aJ,aN,gh,_⟩:=oj o.dst cg aB .a0 (fun _ _ _ _ _=>.a0 _);(have hg:inPlace o an.mode (rd s.T an.cC (opsOf o)).2 r=(rd s.T an.cC (opsOf o)).2:=by rcases hm with hm | hm <;> simp [inPlace,hm]);rw [hg];exact ⟨ay,bV,S',aJ,aN,gh⟩
  ·by_cases ax:∃ t,o.op=.move (.tmp t)∨o.op=.assign (.tmp t)
   ·obtain ⟨t,ax⟩:=ax;have hg:inPlace o an.mode (rd s.T an.cC (opsOf o)).2 r=g2 (rd s.T an.cC (opsOf o)).2 t r.view:=by
     unfold inPlace;split
     ·rename_i pR;exact absurd (.inl pR) hm
     ·rename_i pR;exact absurd (.inr pR) hm
     ·rcases ax with ax | ax <;> simp [ax]
    have zt:∀ x,a.tmps.toList[t]?=some x→x=a.eval (.tmp t):=fun x aj=>by
     (have nZ:a.tmps[t]?=some x:=by simpa using aj);simp [Act.eval,nZ,su]
    have zl:v=a.eval (.tmp t):=dY t ax;obtain ⟨ay,bV,S',aJ,aN,gh,nW⟩:=oj o.dst cg aB r.view (fun bu ck bL q1 aW=>Es (fun e=>hm (.inl e)) (fun e=>hm (.inr e)) ax aC q1 aW);refine ⟨ay,bV,S',aJ,aN,?_,gh.H,gh.M⟩;rw [hg];have b0:=gh.T;simp only at b0;cases a1:o.dst with
    | none =>
      simp only [a1,put,Act.put,g3] at b0 ⊢;exact b0.swap t (I.dm _) fun x aj=>by rw [zt x aj,←zl];exact nW
    | some d =>
      simp only [a1,put,Act.put,g3] at b0 ⊢;by_cases xc:t=d
      ·subst xc;rw [sV];exact b0
      ·rw [List.set_comm _ _ xc];refine b0.swap t (I.dm _) fun x aj=>?_;rw [vt,sd (Ne.symm xc)] at aj;rw [zt x aj,←zl];exact nW
   ·have hg:inPlace o an.mode (rd s.T an.cC (opsOf o)).2 r=(rd s.T an.cC (opsOf o)).2:=by
     unfold inPlace;split
     ·rfl
     ·rfl
     ·split
      ·rename_i h;exact absurd ⟨_,.inl h⟩ ax
      ·rename_i h;exact absurd ⟨_,.inr h⟩ ax
      ·rfl
    rw [hg];obtain ⟨ay,bV,S',aJ,aN,gh,_⟩:=oj o.dst cg aB .a0 (fun _ _ _ _ _=>.a0 _);exact ⟨ay,bV,S',aJ,aN,gh⟩
 refine ⟨fun f _=>bG.fn f,?_⟩;rw [Oper.semAt_eq _ _ _ jW];by_cases dW:∃ c f,o.op=.call c∧c.callee=.value f
 ·obtain ⟨c,f,kP,h9⟩:=dW;have he:opsOf o=f::c.args.toList:=by
   obtain ⟨B',args,B5⟩:=c;simp only at h9;subst h9;simp only [opsOf,kP]
  rw [he] at ad;simp only [a3,kP,h9] at aC;have gL:=mB cg.H;have gj:=Bx ad
  match us,aC,gj with
  | [],aC,_=>simp [hv] at aC
  | Gl::Hd,aC,gj =>
    simp only [hv] at aC;have oB:=gj.rel 0 Gl (a.eval f) rfl rfl;have zu:=gj.tail;unfold ky at aC;split at aC
    ·(rename_i k first cap);generalize kJ:a.eval f=Gq at oB;cases oB with
     | func _ _ _ vs ws aJ aN bU b1 aS bj =>
       obtain ⟨_,⟨fn,CY,kH,Dk⟩,pz⟩:=nx bn aC;have nY:=Bw (aa:=dr b5) (J:=J) (S:=a4) (w:=w) (first:=first) (cap:=cap) (vs:=vs.toList) (ws:=ws.toList) (by simp [aJ]) bU (fun j u v hu aj=>aS j u v hu (by simpa using aj)) (by simp [aN]) b1 (fun j u v hu aj=>bj j u v hu (by simpa using aj)) zu;have ak:=pz B _ J a4 w _ (zn gL _) (Au _ _) nY;have kU:(resolve a.eval c o.type).run P w=.ok { target:=.fn (.func k) ws,args:=vs++c.args.map a.eval } w:=by
        simp [resolve,h9,kJ,Deferred.ofValue]
       have dM:(Go.execOp a.eval o).run P w=.ok (.enter k (vs++c.args.map a.eval++ws)) w:=by
        simp only [Go.execOp,kP,Sem.run_bind,kU,Result.andThen_ok,invoke,AX CY kH Dk]
       rw [dM];have hL:(vs.toList++List.map a.eval c.args.toList++ws.toList).toArray=vs++c.args.map a.eval++ws:=by
        apply Array.ext';simp
       rw [hL] at ak;refine ⟨fun iT=>(by rw [bG.depth] at iT;cases iT),bG.calls (CallsIn.mono ak fun e w' he=>?_)⟩;cases e with
       | returned v=>exact nK v w' (fun t ax=>by rcases ax with ax | ax <;> rw [kP] at ax <;> cases ax) (aZ.after (Ext.refl J) (At _ _ _ _) he)
       | panicked c=>exact he.elim
       | outgrown=>exact he.elim
    ·rename_i l;generalize kJ:a.eval f=Gq at oB;cases oB with
     | yield _ b af =>
       obtain ⟨_,pz⟩:=nx bn aC;have nY:=Bw (aa:=dr b5) (J:=J) (S:=a4) (w:=w) (first:=[]) (cap:=[]) (vs:=[]) (ws:=[]) rfl (by simp) (by simp) rfl (by simp) (by simp) zu;simp only [tP,sM] at nY;obtain ⟨L,ab,ae,aF⟩:=pz B _ J a4 w _ b (zn gL _) (Au _ _) nY af;have kU:(resolve a.eval c o.type).run P w=.ok { target:=.fn (.yield b) #[],args:=c.args.map a.eval } w:=by
        simp [resolve,h9,kJ,Deferred.ofValue]
       (have bR:(c.args.map a.eval).size=L.params.size:=by rw [←ae];simp);have dM:(Go.execOp a.eval o).run P w=.ok (.round b L.fn (jh L (List.map a.eval c.args.toList)) L.assign L.body) w:=by
        simp only [Go.execOp,kP,Sem.run_bind,kU,Result.andThen_ok,invoke]
        have:(List.map a.eval c.args.toList).toArray=c.args.map a.eval:=by apply Array.ext';simp
        simp [Instr.yield,run_getLoop ab,bR,jh,this]
       rw [dM];refine ⟨fun iT=>(by rw [bG.depth] at iT;cases iT),bG.rounds (RoundIn.mono aF fun e w' he=>?_)⟩;cases e with
       | returned v=>exact nK v w' (fun t ax=>by rcases ax with ax | ax <;> rw [kP] at ax <;> cases ax) (aZ.after (Ext.refl J) (At _ _ _ _) he)
       | panicked c=>exact he.elim
       | outgrown=>exact he.elim
    ·simp at aC
 ·have iX:∀ c f,o.op=.call c→c.callee≠.value f:=fun c f ab ae=>dW ⟨c,f,ab,ae⟩;have aB:dF o an.mode=false→∀ u∈us,u.plain=true:=fun ao u hu=>by
   rw [ao] at zs;subst zs;obtain ⟨x,_,rfl⟩:=sC.1 hu;exact I.dm x
  rcases F7 eW (mB cg.H) aC iX aB (Bx ad) with ⟨v,w',ab,ae⟩ | ⟨w',ab,ae⟩
  ·rw [ab];exact nK v w' (fun t ax=>by rcases ax with ax | ax <;> simp [Go.execOp,ax] at ab <;> exact ab.1.symm) ae
  ·rw [ab];exact nK undef w' (fun t ax=>by rcases ax with ax | ax <;> simp [Go.execOp,ax] at ab) ae
end
end Go.Proofs.Ytkoioidpbbbaiaa.Ab


namespace Go.Proofs.Ytkoioidpbbbaiaa.Ab
open Go
section
variable {P:Program} {B N:Nat} {J:List Nat} {w:World} {H:List ar} {aa:Nat→Option aH} {S:Nat→Nat→Prop}
theorem cA.df {s:a6} {a:Act} (aL:cA B N aa J S w s a) (t:Nat):Rel J S w (df s.T t) (a.tmps.getD t undef):=by
 rw [gg,sw];cases h:s.T[t]? with
 | none=>exact .a0 _
 | some u =>
   have ao:=aL.T.len;have aR:t<s.T.length:=(sa.1 h).1;(have mw:t<a.tmps.size:=by rw [←sY,←ao];exact aR);(have aj:a.tmps.toList[t]?=some (a.tmps.getD t undef):=by simp [su,mw]);exact aL.T.rel t u _ h aj
theorem cA.az {s:a6} {a:Act} (aL:cA B N aa J S w s a) (x:Operand):Rel J S w (az s.T x) (a.eval x):=by
 cases x with
 | tmp t=>exact aL.df t
 | const v=>exact lP J S w v
 | global g=>exact .a0 _
 | func f=>exact .func f [] [] #[] #[] rfl rfl (by simp) (by simp) (by simp) (by simp)
theorem lD {ops:Array Oper} {o:Oper} {s:a6} {a:Act} (aL:cA B N aa J S w s a) {x:Bool} (h:eB ops o s.T=some x):Region.wanted o (yielded ops a.tmps)=x:=by
 unfold eB at h;unfold Region.wanted;split at h
 ·rename_i aO;rw [aO];simpa using h
 ·rename_i j want aO;rw [aO];split at h
  ·rename_i d a1;split at h
   ·rename_i b af;have ai:=aL.df d;rw [af] at ai;have:=ai.h6;simp only [Option.some.injEq] at h;subst h;have aR:a.tmps[d]?=some (.bool b):=by
     rw [su] at this;cases h:a.tmps[d]? with
     | none=>rw [h] at this;simp [undef] at this
     | some v=>rw [h] at this;simpa using this
    simp [yielded,a1,aR]
   ·rename_i af;have ai:=aL.df d;rw [af] at ai;simp only [Option.some.injEq] at h;subst h;have aI:yielded ops a.tmps j=none:=by
     unfold yielded;rw [a1,sb];cases h:a.tmps[d]? with
     | none=>rfl
     | some v =>
       rw [su,h] at ai;simp only [uq] at ai;cases ai;rfl
    simp [aI]
   ·simp at h
  ·simp at h
theorem cA.skip {T:List I} {a:Act} (aL:cA B N aa J S w ⟨T,H⟩ a) (d:Option Tmp):cA B N aa J S w ⟨put T d (.tuple []),H⟩ (a.put d undef):=by
 cases d with
 | none=>exact aL
 | some d =>
   refine ⟨?_,aL.H,aL.M⟩;have b0:=aL.T;simp only [put,g3,Act.put] at b0 ⊢;have key:∀ (i:Nat) (u:I) (x:Value),(T.set d (.tuple []))[i]?=some u→(a.tmps.toList.set d undef)[i]?=some x→Rel J S w u x∧aU aa J S w (.slot i) u x:=fun i u x hu aj=>by
    by_cases aE:d=i
    ·subst aE;(have aR:d<T.length:=by have:=(sa.1 hu).1;simpa using this);rw [sk aR] at hu;cases hu;rw [sk (by have:=(sa.1 aj).1;simpa using this)] at aj;cases aj;exact ⟨.tuple _ _ rfl (by simp) (by simp),aU.b4 rfl⟩
    ·rw [sd aE] at hu aj;exact ⟨b0.rel i u x hu aj,b0.own i u x hu aj⟩
   refine ⟨by simpa using b0.len,fun i u x hu aj=>?_,fun i u x hu aj=>?_⟩
   ·rw [vt] at aj;exact (key i u x hu aj).1
   ·rw [vt] at aj;exact (key i u x hu aj).2
theorem yp:∀ (k:List Bool) (T:List I) (i:Nat),(eZ k T)[i]?=T[i]?∨(eZ k T)[i]?=(T[i]?).map fun _=>.a0
 | [],T,i=>.inl (by simp [eZ])
 | b::bs,[],i=>.inl (by simp [eZ])
 | b::bs,v::vs,i=>by
   cases i with
   | zero=>cases b <;> simp [eZ]
   | succ i=>simpa [eZ] using yp bs vs i
theorem BI:∀ (k:List Bool) (T:List I),(eZ k T).length=T.length
 | [],T=>by simp [eZ]
 | b::bs,[]=>by simp [eZ]
 | b::bs,v::vs=>by simp [eZ,BI bs vs]
theorem cA.cE {s:a6} {a:Act} (aL:cA B N aa J S w s a) (mN:List (Nat×List Bool)) (id:Nat):cA B N aa J S w (e5 mN id s) a:=by
 unfold e5;split
 ·rename_i k _;refine ⟨⟨by rw [BI];exact aL.T.len,fun i u x hu aj=>?_,fun i u x hu aj=>?_⟩,aL.H,aL.M⟩
  all_goals simp only at hu
  ·rcases yp k s.T i with h | h
   ·rw [h] at hu;exact aL.T.rel i u x hu aj
   ·rw [h] at hu;simp only [r_] at hu;obtain ⟨_,_,rfl⟩:=hu;exact .a0 _
  ·rcases yp k s.T i with h | h
   ·rw [h] at hu;exact aL.T.own i u x hu aj
   ·rw [h] at hu;simp only [r_] at hu;obtain ⟨_,_,rfl⟩:=hu;exact aU.b4 rfl
 ·exact aL
theorem Step.here {s:a6} {a:Act} (aL:cA B N aa J S w s a):Step B N aa J S w s a w:=⟨aa,J,S,Ext.refl J,bl.refl aa S w,aL⟩
theorem xv {F:Fence} (bG:ek F) {C:b8} (bn:c6 P C) {lo:Nat} {ops:Array Oper} {aD:a6} {Q:Exit→Act→World→Prop} :
  ∀ (rest:List Oper) (as:List bZ) (s:a6) (a:Act) (w:World) (aa:Nat→Option aH) (J:List Nat) (S:Nat→Nat→Prop),ee P C lo ops rest as s=some aD→cA B N aa J S w s a →
    (∀ aM w',Step B N aa J S w aD aM w'→Q .normal aM w')→wpListIn F 0 P ops Q rest a w
 | [],as,s,a,w,aa,J,S,h,aL,bp=>by
   simp only [ee,Option.some.injEq] at h;subst h;exact bp a w (Step.here aL)
 | o::rest,as,s,a,w,aa,J,S,h,aL,bp=>by
   simp only [ee] at h;unfold wpListIn;split at h
   ·rename_i hw;rw [lD aL hw];simp only [if_true];simp only [sf] at h;obtain ⟨s1,ab,ae⟩:=h;refine yf bG bn ab aL fun aM w' ah=>?_;obtain ⟨b5,cZ,a4,aJ,aN,cg⟩:=ah;exact xv bG bn rest as.tail s1 aM w' b5 cZ a4 ae cg fun g7 hB dN=>bp g7 hB (dN.trans aJ aN)
   ·rename_i hw;rw [lD aL hw];simp only [tR,if_false];exact ⟨fun f _=>bG.fn f,xv bG bn rest as.tail _ _ w aa J S h (aL.skip o.dst) bp⟩
   ·simp at h
end
end Go.Proofs.Ytkoioidpbbbaiaa.Ab


namespace Go.Proofs.Ytkoioidpbbbaiaa.Ab
open Go
theorem lZ {xs ys:List Nat} (h:jH xs ys=true) (x:Nat) (aj:x∈xs):x ∉ ys:=by
 simp only [jH,sq] at h;have:=h x aj;simpa using this
theorem yb (u:I):u.settle.settle=u.settle:=by
 cases u <;> try rfl
 rename_i c n k;cases k <;> rfl
theorem yj (u:I):u.settle.view=u.view:=by
 cases u <;> try rfl
 rename_i c n k;cases k <;> rfl
theorem nc (T:List I) (t j:Nat):(fX T t (df T t))[j]?=if t=j then (T[j]?).map I.settle else T[j]?:=by
 have aO:df T t=T.getD t .a0:=gg T t;by_cases hn:t=j
 ·subst hn;simp only [if_true];cases h:T[t]? with
  | none =>
    (have aw:df T t=.a0:=by rw [aO,sw,h];rfl);rw [aw];simp [fX,h]
  | some u =>
    (have aw:df T t=u:=by rw [aO,sw,h];rfl);have aR:=(sa.1 h).1;rw [aw];(cases u <;> try (simp [fX,h,I.settle];done));rename_i c n k;cases k <;> simp only [fX,h,I.settle,g3,se] <;> rw [sk aR]
 ·simp only [hn,if_false];unfold fX;split
  ·rw [g3,sd hn]
  ·rfl
theorem ly (T:List I) (t j:Nat) (v:I):(g2 T t v)[j]?=if t=j then (T[j]?).map fun _=>v else T[j]?:=by
 rw [g3];by_cases h:t=j
 ·subst h;simp only [if_true];rcases sL t T.length with ao | ao
  ·rw [sk ao,si ao];rfl
  ·rw [uQ (by simpa using ao),uQ ao];rfl
 ·rw [sd h];simp [h]
theorem kf:∀ (xs:List Operand) (ts:List Bool) (T:List I) (j:Nat),
  ((rd T ts xs).2)[j]?=(T[j]?).map fun u=>if j∈c4 ts xs then .a0 else if j∈tmpsOf xs then u.settle else u
 | [],ts,T,j=>by simp [rd,c4,tmpsOf]
 | .tmp t::rest,ts,T,j=>by
   (have ax:tmpsOf (.tmp t::rest)=t::tmpsOf rest:=by simp [tmpsOf]);rw [ax];cases bE:ts.headD false with
   | true =>
     simp only [rd,bE,c4];rw [kf rest ts.tail,ly];by_cases hn:t=j
     ·subst hn;simp only [if_true,sA,true_or];cases T[t]? with
      | none=>rfl
      | some u=>simp only [se,I.settle];split <;> simp
     ·have xd:¬ j=t:=fun e=>hn e.symm;simp [hn,xd]
   | false =>
     simp only [rd,bE,c4];rw [kf rest ts.tail,nc];by_cases hn:t=j
     ·subst hn;simp only [if_true,sA,true_or];cases T[t]? with
      | none=>rfl
      | some u=>simp only [se,yb];split <;> (try split) <;> rfl
     ·have xd:¬ j=t:=fun e=>hn e.symm;simp [hn,xd]
 | .const v::rest,ts,T,j=>by simpa [rd,c4,tmpsOf] using kf rest ts.tail T j
 | .func f::rest,ts,T,j=>by simpa [rd,c4,tmpsOf] using kf rest ts.tail T j
 | .global g::rest,ts,T,j=>by simpa [rd,c4,tmpsOf] using kf rest ts.tail T j
theorem Ct {T bf:List I} {t:Nat} (h:(T[t]?).map I.settle=(bf[t]?).map I.settle):(df T t).view=(df bf t).view:=by
 rw [gg,gg,sw,sw];cases ab:T[t]? <;> cases ae:bf[t]? <;> rw [ab,ae] at h <;> simp at h <;> simp only [uq];rw [←yj,h,yj]
theorem ke:∀ (xs:List Operand) (ts:List Bool) (T bf:List I),(∀ t∈tmpsOf xs,(T[t]?).map I.settle=(bf[t]?).map I.settle)→(∀ t∈c4 ts xs,T[t]?=bf[t]?) →
  (rd T ts xs).1=(rd bf ts xs).1
 | [],ts,T,bf,_,_=>by simp [rd]
 | .tmp t::rest,ts,T,bf,ab,ae=>by
   (have ax:tmpsOf (.tmp t::rest)=t::tmpsOf rest:=by simp [tmpsOf]);rw [ax] at ab;cases bE:ts.headD false with
   | true =>
     simp only [c4,bE] at ae;simp only [rd,bE];have e:T[t]?=bf[t]?:=ae t (by simp);rw [ke rest ts.tail (g2 T t .a0) (g2 bf t .a0) (fun u hu=>?_) (fun u hu=>?_)]
     ·congr 1;rw [gg,gg,sw,sw,e]
     ·rw [ly,ly];by_cases ho:t=u
      ·subst ho;simp [e]
      ·simp [ho,ab u (by simp [hu])]
     ·rw [ly,ly];by_cases ho:t=u
      ·subst ho;simp [e]
      ·simp [ho,ae u (by simp [hu])]
   | false =>
     simp only [c4,bE] at ae;simp only [rd,bE];have e:=ab t (by simp);rw [ke rest ts.tail (fX T t (df T t)) (fX bf t (df bf t)) (fun u hu=>?_) (fun u hu=>?_),Ct e]
     ·rw [nc,nc];by_cases ho:t=u
      ·subst ho;simp only [if_true,e]
      ·simp only [ho,if_false];exact ab u (by simp [hu])
     ·rw [nc,nc];by_cases ho:t=u
      ·subst ho;simp only [if_true,e]
      ·simp only [ho,if_false];exact ae u hu
 | .const v::rest,ts,T,bf,ab,ae=>by
   simp only [rd];rw [ke rest ts.tail T bf (by simpa [tmpsOf] using ab) (by simpa [c4] using ae)];rfl
 | .func f::rest,ts,T,bf,ab,ae=>by
   simp only [rd];rw [ke rest ts.tail T bf (by simpa [tmpsOf] using ab) (by simpa [c4] using ae)];rfl
 | .global g::rest,ts,T,bf,ab,ae=>by
   simp only [rd];rw [ke rest ts.tail T bf (by simpa [tmpsOf] using ab) (by simpa [c4] using ae)];rfl
section
variable {P:Program}
theorem ny {C:b8} {lo mode:Nat} {o:Oper} {us:List I} {r:I} {H H':List ar} (ak:dq o mode=0) (h:a3 P C lo o mode us H=some (r,H')) :
  H'=H∧∀ H2,a3 P C lo o mode us H2=some (r,H2):=by
 have base:∀ {x:Option I},x.map (fun y=>(y,H))=some (r,H')→H'=H∧∀ H2:List ar,x.map (fun y=>(y,H2))=some (r,H2):=fun {x} h=>by
  simp only [r_,Prod.mk.injEq] at h;obtain ⟨_,rfl,rfl,rfl⟩:=h;exact ⟨rfl,fun _=>rfl⟩
 have mx:∀ {t:TypeId} {x:Operand},mode=0→eX P lo mode t x H us=some (r,H')→H'=H∧∀ H2,eX P lo mode t x H2 us=some (r,H2):=fun hm h=>by
  subst hm;unfold eX at h;simp only [eX];split at h
  ·simp only at h ⊢;split at h
   ·simp only [r_,Prod.mk.injEq] at h;obtain ⟨z,bk,rfl,rfl⟩:=h;exact ⟨rfl,fun _=>by simp [bk]⟩
   ·cases h;exact ⟨rfl,fun _=>rfl⟩
  ·simp at h
 cases aC:o.op <;> simp only [dq,aC] at ak <;> simp only [a3,aC] at h ⊢
 case move x=>exact mx (by by_cases h:mode=0 <;> simp_all) h
 case assign x=>exact mx (by by_cases h:mode=0 <;> simp_all) h
 case load t a =>
  have hm:mode=3:=by by_cases h:mode=0 <;> by_cases ae:mode=2 <;> by_cases aF:mode=3 <;> by_cases bP:mode=5 <;> by_cases bQ:mode=6 <;> by_cases jI:mode=13 <;> simp_all
  subst hm;unfold du at h;simp only [du];split at h
  ·simp only at h ⊢;split at h
   ·exact base h
   ·cases h
  ·cases h
 case makeSlice t a b =>
  have hm:mode≠0:=by intro h;simp [h] at ak
  unfold ka at h;simp only [ka];split at h
  ·split at h
   ·rename_i iX;split at h
    ·exact absurd rfl hm
    ·split at h
     ·rename_i ae;simp only [r_,Prod.mk.injEq] at h;obtain ⟨x,aj,rfl,rfl⟩:=h;exact ⟨rfl,fun _=>by obtain ⟨e,aQ⟩:=ae;subst e;simp [aj,aQ]⟩
     ·simp at h
   ·simp at h
  ·simp at h
 case box e x =>
  have hm:mode≠0:=by intro h;simp [h] at ak
  unfold gW at h;simp only [gW];split at h
  ·split at h
   ·exact absurd rfl hm
   ·split at h
    ·rename_i ad;split at h
     ·rename_i aB;cases h;exact ⟨rfl,fun _=>by simp [ad,aB]⟩
     ·cases h
    ·cases h
  ·cases h
 case build t parts =>
  split at h
  ·exact base h
  ·simp only [r_,Prod.mk.injEq] at h ⊢;obtain ⟨x,aj,rfl,rfl⟩:=h;exact ⟨rfl,fun _=>⟨x,aj,rfl,trivial⟩⟩
 case buildSlice t len parts =>
  split at h
  ·exact base h
  ·simp only [r_,Prod.mk.injEq] at h ⊢;obtain ⟨x,aj,rfl,rfl⟩:=h;exact ⟨rfl,fun _=>⟨x,aj,rfl,trivial⟩⟩
 case call c =>
  split at ak
  ·split at ak
   ·by_cases hm:mode=0 <;> simp [hm] at ak
   all_goals simp at ak
  ·rename_i f h9;simp only [h9] at h ⊢;have hm:mode=3:=by
    by_cases aQ:mode=0
    ·simp [aQ] at ak
    ·by_cases aF:mode=3
     ·exact aF
     ·by_cases a_:mode=4 <;> by_cases bQ:mode=6 <;> by_cases cn:mode=9 <;> simp [aQ,aF,a_,bQ,cn] at ak
   subst hm;unfold hv at h;simp only [hv];split at h
   ·unfold ky at h;simp only [ky];have key:∀ {bY:fc} {args:List I},eQ C lo 3 bY args H=some (r,H')→H'=H∧∀ H2,eQ C lo 3 bY args H2=some (r,H2):=fun {bY args} h=>by
     simp only [eQ] at h ⊢;split at h
     ·simp only [sf] at h;obtain ⟨x,aj,h⟩:=h;simp only [r_,Prod.mk.injEq] at h;obtain ⟨v,ad,rfl,rfl⟩:=h;rename_i aB;exact ⟨rfl,fun H2=>by simp [aj,ad]⟩
     ·simp at h
    split at h
    ·exact key h
    ·exact key h
    ·simp at h
   ·simp at h
  ·simp at ak
 case store=>simp at ak
 case alloc=>simp at ak
 case makeMap=>simp at ak
 case mapUpdate=>simp at ak
 case lookup=>simp at ak
 case range=>simp at ak
 case entry=>simp at ak
 all_goals exact base h
def dR (H H2:List ar):Prop:=∀ (id:Nat) (o:ar),H[id]?=some o→H2[id]?=some o∨(∃ l l',o=.cells l∧H2[id]?=some (.cells l')∧l'.map I.view=l.map I.view)∨∃ l l' g z,o=.grow l g z∧H2[id]?=some (.grow l' g z)∧l'.map I.view=l.map I.view
theorem dR.cells {H H2:List ar} (h:dR H H2) {id:Nat} {l:List I} (aE:H[id]?=some (.cells l)):∃ l',H2[id]?=some (.cells l')∧l'.map I.view=l.map I.view:=by
 rcases h id _ aE with h | ⟨cy,l',ab,ae,aF⟩ | ⟨_,_,_,_,ab,_⟩
 ·exact ⟨l,h,rfl⟩
 ·cases ab;exact ⟨l',ae,aF⟩
 ·cases ab
theorem dR.grow {H H2:List ar} (h:dR H H2) {id g z:Nat} {l:List I} (aE:H[id]?=some (.grow l g z)):∃ l',H2[id]?=some (.grow l' g z)∧l'.map I.view=l.map I.view:=by
 rcases h id _ aE with h | ⟨_,_,ab,_⟩ | ⟨cy,l',GK,cX,ab,ae,aF⟩
 ·exact ⟨l,h,rfl⟩
 ·cases ab
 ·cases ab;exact ⟨l',ae,aF⟩
theorem dR.append (H:List ar) (X:List ar):dR H (H++X):=fun id o h=>.inl (by
 rw [sg (sa.1 h).1];exact h)
theorem zI {t:TypeId} {l l':List I} {off:Nat} (h:l'.map I.view=l.map I.view):e6 P t l' off=e6 P t l off:=by
 have ao:l'.length=l.length:=by have:=congrArg List.length h;simpa using this
 unfold e6;split
 ·have:∀ s,((l'.drop off).take s).map I.view=((l.drop off).take s).map I.view:=fun s=>by
   rw [tT,tH,h,←tH,←tT]
  simp only [ao,this]
 ·split
  ·have:=congrArg (fun x=>x[off]?) h;simpa using this
  ·rfl
theorem yr {H H2:List ar} (ah:dR H H2) {t:TypeId} {a r:I} (h:dz P H t a=some r):dz P H2 t a=some r:=by
 unfold dz at h ⊢;split at h
 ·split at h
  ·rename_i l aE;obtain ⟨l',ab,ae⟩:=ah.cells aE;rw [ab];simp only;rw [zI ae];exact h
  ·rename_i l g z aE;obtain ⟨l',ab,ae⟩:=ah.grow aE;rw [ab];simp only;rw [zI ae];exact h
  ·simp at h
 ·exact h
 ·simp at h
theorem AQ {H H2:List ar} (ah:dR H H2) {x:I} {row:List I} (h:rowOf H x=some row):rowOf H2 x=some row:=by
 unfold rowOf at h ⊢;split at h
 ·exact h
 ·split at h
  ·rename_i l aE;obtain ⟨l',ab,ae⟩:=ah.cells aE;(have ao:l'.length=l.length:=by have:=congrArg List.length ae;simpa using this);rw [ab];simp only [ao]
   have:∀ s off,((l'.drop off).take s).map I.view=((l.drop off).take s).map I.view:=fun s off=>by
    rw [tT,tH,ae,←tH,←tT]
   simp only [this];exact h
  ·simp at h
 ·simp at h
theorem B2 {H H2:List ar} (ah:dR H H2) {x:I} {r:Nat×List I} (h:appended H x=some r):appended H2 x=some r:=by
 unfold appended at h ⊢;split at h
 ·rename_i m row hm ai;rw [hm,AQ ah ai];exact h
 ·simp at h
theorem BN {H H2:List ar} (ah:dR H H2) {t dn:TypeId} {s x r:I} (h:fe P H t dn s x=some r):fe P H2 t dn s x=some r:=by
 unfold fe at h ⊢;split at h
 ·split at h
  ·rename_i bb bytes z ab ae aF;split at h
   ·rename_i af;split at h
    ·rename_i m new cu;simp only [B2 ah cu];split at h
     ·rename_i ak;rw [if_pos ak];split at h
      ·exact h
      ·rename_i id off len cap oO;split at h
       ·rename_i h8;rw [if_pos h8];simp only [sf] at h;obtain ⟨fT,aq,h⟩:=h;simp only [AQ ah aq,sb];exact h
       ·simp at h
      ·simp at h
     ·simp at h
    ·simp at h
   ·exact h
  ·simp at h
 ·simp at h
theorem jF {C:b8} {lo mode:Nat} {o:Oper} {us:List I} {r:I} {H H':List ar} (ak:dq o mode=1) (h:a3 P C lo o mode us H=some (r,H')) :
  H'=H∧∀ H2,dR H H2→a3 P C lo o mode us H2=some (r,H2):=by
 cases aC:o.op <;> simp only [dq,aC] at ak <;> simp only [a3,aC] at h ⊢
 case load =>
  have hm:mode=0∨mode=13:=by
   by_cases aQ:mode=0
   ·exact .inl aQ
   ·by_cases jI:mode=13
    ·exact .inr jI
    ·exfalso;rw [if_neg aQ,if_neg jI] at ak;repeat' (split at ak)
     all_goals cases ak
  rcases hm with rfl | rfl
  ·unfold du at h;simp only [du];split at h
   ·simp only [r_,Prod.mk.injEq] at h ⊢;obtain ⟨v,ad,rfl,rfl⟩:=h;exact ⟨rfl,fun H2 ah=>⟨v,yr ah ad,rfl,trivial⟩⟩
   ·simp at h
  ·unfold du at h;simp only [du];split at h
   ·simp only at h;split at h
    ·rename_i id off;split at h
     ·rename_i l aE;split at h
      ·rename_i aF;simp only [r_,Prod.mk.injEq] at h;obtain ⟨v,ad,rfl,rfl⟩:=h;refine ⟨rfl,fun H2 ah=>?_⟩;obtain ⟨l',ab,ae⟩:=ah.cells aE;(have a_:l'.length=3:=by have:=congrArg List.length ae;simpa [aF] using this);simp only [ab,a_,if_true,yr ah ad,se]
      ·cases h
     ·cases h
    ·cases h
   ·cases h
 case call c =>
  split at ak
  ·rename_i b py;simp only [py] at h ⊢;split at ak
   ·(have hm:mode=0:=by by_cases h:mode=0 <;> simp_all);subst hm;simp only [ei,hQ] at h ⊢;split at h
    ·split at h
     ·simp only [r_,Prod.mk.injEq] at h ⊢;obtain ⟨v,ad,rfl,rfl⟩:=h;exact ⟨rfl,fun H2 ah=>⟨v,BN ah ad,rfl,trivial⟩⟩
     ·simp at h
    ·simp at h
   ·simp only [ei,hx] at h ⊢;split at h
    ·split at h
     ·split at h <;> simp at h;obtain ⟨rfl,rfl⟩:=h;exact ⟨rfl,fun _ _=>by simp_all⟩
     ·split at h <;> simp at h;obtain ⟨rfl,rfl⟩:=h;exact ⟨rfl,fun _ _=>by simp_all⟩
     ·split at h
      ·rename_i ax aE;simp at h;obtain ⟨rfl,rfl⟩:=h;refine ⟨rfl,fun H2 ah=>?_⟩;rcases ah _ _ aE with h | ⟨l,l',h,_⟩ | ⟨_,_,_,_,h,_⟩
       ·simp [ax,h]
       ·cases h
       ·cases h
      ·simp at h
     ·split at h
      ·simp at h;obtain ⟨rfl,rfl⟩:=h;exact ⟨rfl,fun _ _=>by simp_all⟩
      ·simp at h
    ·simp at h
   ·simp only [ei,j_] at h ⊢;split at h
    ·split at h <;> simp at h;obtain ⟨rfl,rfl⟩:=h;exact ⟨rfl,fun _ _=>by simp_all⟩
    ·split at h <;> simp at h;obtain ⟨rfl,rfl⟩:=h;exact ⟨rfl,fun _ _=>by simp_all⟩
    ·simp at h
   ·simp only [ei,r_,Prod.mk.injEq] at h ⊢;obtain ⟨v,ad,rfl,rfl⟩:=h;exact ⟨rfl,fun _ _=>⟨v,ad,rfl,trivial⟩⟩
   ·simp only [ei,r_,Prod.mk.injEq] at h ⊢;obtain ⟨v,ad,rfl,rfl⟩:=h;exact ⟨rfl,fun _ _=>⟨v,ad,rfl,trivial⟩⟩
   ·simp at ak
  ·exfalso;by_cases aQ:mode=0
   ·simp [aQ] at ak
   ·by_cases aF:mode=3
    ·simp [aF] at ak
    ·by_cases a_:mode=4 <;> by_cases bQ:mode=6 <;> by_cases cn:mode=9 <;> simp [aQ,aF,a_,bQ,cn] at ak
  ·simp at ak
 case move=>by_cases h:mode=0 <;> simp [h] at ak
 case assign=>by_cases h:mode=0 <;> simp [h] at ak
 case makeSlice=>by_cases h:mode=0 <;> simp [h] at ak
 case box=>by_cases h:mode=0 <;> simp [h] at ak
 all_goals simp at ak
theorem Cd {C:b8} {lo mode:Nat} {o:Oper} {us:List I} {r:I} {H H':List ar} (ak:dq o mode=3) (h:a3 P C lo o mode us H=some (r,H')):H'=H:=by
 have base:∀ {x:Option I},x.map (fun y=>(y,H))=some (r,H')→H'=H:=fun {x} h=>by
  simp only [r_,Prod.mk.injEq] at h;obtain ⟨_,rfl,rfl,rfl⟩:=h;rfl
 cases aC:o.op <;> simp only [dq,aC] at ak <;> simp only [a3,aC] at h
 case load=>by_cases h:mode=0 <;> by_cases ae:mode=2 <;> by_cases aF:mode=3 <;> by_cases bP:mode=5 <;> by_cases bQ:mode=6 <;> by_cases jI:mode=13 <;> simp [h,ae,aF,bP,bQ,jI] at ak
 case call c =>
  split at ak
  ·split at ak
   ·by_cases hm:mode=0 <;> simp [hm] at ak
   all_goals simp at ak
  ·rename_i f h9;simp only [h9] at h;have hm:mode=0∨mode=4∨mode=6∨mode=9:=by
    by_cases aQ:mode=0
    ·exact .inl aQ
    ·by_cases aF:mode=3
     ·simp [aF] at ak
     ·by_cases a_:mode=4
      ·exact .inr (.inl a_)
      ·by_cases bQ:mode=6
       ·exact .inr (.inr (.inl bQ))
       ·by_cases cn:mode=9
        ·exact .inr (.inr (.inr cn))
        ·simp [aQ,aF,a_,bQ,cn] at ak
   have key:∀ {bY:fc} {args:List I},eQ C lo mode bY args H=some (r,H')→H'=H:=fun {bY args} h=>by
    rcases hm with rfl | rfl | rfl | rfl
    rotate_right
    ·simp only [eQ] at h;split at h
     ·simp only [sf,r_,Prod.mk.injEq] at h;obtain ⟨x,_,v,_,_,h⟩:=h;exact h.symm
     ·cases h
    ·simp only [eQ,sf] at h;obtain ⟨x,_,h⟩:=h;exact base h
    ·simp only [eQ,sf,r_,Prod.mk.injEq] at h;obtain ⟨x,_,v,_,_,h⟩:=h;exact h.symm
    ·simp only [eQ] at h;split at h
     ·simp only [sf] at h;obtain ⟨x,_,v,_,h⟩:=h;split at h
      ·simp only [Option.some.injEq,Prod.mk.injEq] at h;exact h.2.symm
      ·cases h
     ·cases h
   unfold hv at h;split at h
   ·unfold ky at h;split at h
    ·exact key h
    ·exact key h
    ·simp at h
   ·simp at h
  ·simp at ak
 case move=>by_cases h:mode=0 <;> simp [h] at ak
 case assign=>by_cases h:mode=0 <;> simp [h] at ak
 case makeSlice=>by_cases h:mode=0 <;> simp [h] at ak
 case box=>by_cases h:mode=0 <;> simp [h] at ak
 all_goals simp at ak
theorem Gr {off:Nat} {l:List I} {u:I} (hu:l[off]?=some u):(l.set off u.view).map I.view=l.map I.view:=by
 rw [tI];have kX:u.view.view=u.view:=I.kq (I.dm u);rw [kX];apply uy;intro j;by_cases aw:off=j
 ·subst aw;rw [sk (by simpa using (sa.1 hu).1),sm,hu];rfl
 ·rw [sd aw]
theorem Fz {H:List ar} {id off g z:Nat} {l:List I} {u:I} (aE:H[id]?=some (.grow l g z)) (hu:l[off]?=some u):dR H (H.set id (.grow (l.set off u.view) g z))∧dR (H.set id (.grow (l.set off u.view) g z)) H:=by
 have ad:=Gr hu;have aR:=(sa.1 aE).1;constructor
 ·intro i o h;by_cases hi:id=i
  ·subst hi;rw [aE] at h;cases h;exact .inr (.inr ⟨l,_,g,z,rfl,sk aR,ad⟩)
  ·exact .inl (by rw [sd hi];exact h)
 ·intro i o h;by_cases hi:id=i
  ·subst hi;rw [sk aR] at h;cases h;exact .inr (.inr ⟨_,l,g,z,rfl,aE,ad.symm⟩)
  ·rw [sd hi] at h;exact .inl h
theorem A9 {H:List ar} {id off:Nat} {l:List I} {u:I} (aE:H[id]?=some (.cells l)) (hu:l[off]?=some u):dR H (H.set id (.cells (l.set off u.view)))∧dR (H.set id (.cells (l.set off u.view))) H:=by
 have ad:(l.set off u.view).map I.view=l.map I.view:=by
  rw [tI];have kX:u.view.view=u.view:=I.kq (I.dm u);rw [kX];apply uy;intro j;by_cases aw:off=j
  ·subst aw;rw [sk (by simpa using (sa.1 hu).1),sm,hu];rfl
  ·rw [sd aw]
 have aR:=(sa.1 aE).1;constructor
 ·intro i o h;by_cases hi:id=i
  ·subst hi;rw [aE] at h;cases h;exact .inr (.inl ⟨l,_,rfl,sk aR,ad⟩)
  ·exact .inl (by rw [sd hi];exact h)
 ·intro i o h;by_cases hi:id=i
  ·subst hi;rw [sk aR] at h;cases h;exact .inr (.inl ⟨_,l,rfl,aE,ad.symm⟩)
  ·rw [sd hi] at h;exact .inl h
theorem yG {C:b8} {lo mode:Nat} {o:Oper} {us:List I} {r:I} {H H':List ar} (ak:dq o mode=5) (h:a3 P C lo o mode us H=some (r,H')):dR H H'∧dR H' H:=by
 have refl:dR H H:=fun id o h=>.inl h;cases aC:o.op <;> simp only [dq,aC] at ak <;> simp only [a3,aC] at h
 case load t a =>
  have hm:mode≠0:=by intro h;simp [h] at ak
  unfold du at h;split at h
  ·split at h
   ·exact absurd rfl hm
   ·simp at ak
   ·simp at ak
   ·simp at ak
   ·simp at ak
   ·split at h
    ·split at h
     ·split at h
      ·rename_i l aE;split at h
       ·rename_i c n z cD;cases h;exact A9 aE cD
       ·rename_i c n z cD;rw [if_neg (by intro ae;simp [ae] at ak)] at h;cases h;exact A9 aE cD
       ·cases h;exact ⟨refl,refl⟩
       ·simp at h
      ·rename_i l g z aE;split at h
       ·rename_i c n cX cD;cases h;exact Fz aE cD
       ·cases h;exact ⟨refl,refl⟩
       ·cases h
      ·simp at h
     ·simp at h
    ·simp at h
  ·simp at h
 case call c =>
  split at ak
  ·split at ak
   ·by_cases hm:mode=0 <;> simp [hm] at ak
   all_goals simp at ak
  ·exfalso;by_cases aQ:mode=0
   ·simp [aQ] at ak
   ·by_cases aF:mode=3
    ·simp [aF] at ak
    ·by_cases a_:mode=4 <;> by_cases bQ:mode=6 <;> by_cases cn:mode=9 <;> simp [aQ,aF,a_,bQ,cn] at ak
  ·simp at ak
 case move=>by_cases h:mode=0 <;> simp [h] at ak
 case assign=>by_cases h:mode=0 <;> simp [h] at ak
 case makeSlice=>by_cases h:mode=0 <;> simp [h] at ak
 case box=>by_cases h:mode=0 <;> simp [h] at ak
 all_goals simp at ak
theorem Ce {C:b8} {lo mode:Nat} {o:Oper} {us:List I} {r:I} {H H':List ar} (ak:dq o mode=6) (h:a3 P C lo o mode us H=some (r,H')):dR H H':=by
 cases aC:o.op <;> simp only [dq,aC] at ak <;> simp only [a3,aC] at h
 case load=>by_cases h:mode=0 <;> by_cases ae:mode=2 <;> by_cases aF:mode=3 <;> by_cases bP:mode=5 <;> by_cases bQ:mode=6 <;> by_cases jI:mode=13 <;> simp [h,ae,aF,bP,bQ,jI] at ak
 case box e x =>
  have hm:mode=0:=by by_cases h:mode=0 <;> simp_all
  subst hm;unfold gW at h;split at h
  ·simp only [r_,Prod.mk.injEq] at h;obtain ⟨_,_,_,rfl⟩:=h;exact dR.append _ _
  ·simp at h
 case alloc t =>
  unfold la at h;split at h
  ·simp only [r_,Prod.mk.injEq] at h;obtain ⟨_,_,_,rfl⟩:=h;exact dR.append _ _
  ·split at h
   ·simp only [r_,Prod.mk.injEq] at h;obtain ⟨_,_,_,rfl⟩:=h;exact dR.append _ _
   ·cases h
 case call c =>
  split at ak
  ·split at ak
   ·by_cases hm:mode=0 <;> simp [hm] at ak
   all_goals simp at ak
  ·exfalso;by_cases aQ:mode=0
   ·simp [aQ] at ak
   ·by_cases aF:mode=3
    ·simp [aF] at ak
    ·by_cases a_:mode=4 <;> by_cases bQ:mode=6 <;> by_cases cn:mode=9 <;> simp [aQ,aF,a_,bQ,cn] at ak
  ·simp at ak
 case move=>by_cases h:mode=0 <;> simp [h] at ak
 case assign=>by_cases h:mode=0 <;> simp [h] at ak
 case makeSlice=>by_cases h:mode=0 <;> simp [h] at ak
 all_goals simp at ak
noncomputable def dw (P:Program) (C:b8) (lo:Nat) (ops:Array Oper) (o:Oper) (an:bZ) (s:a6):Option a6 :=
 match eB ops o s.T with
 | some true=>Ab.execOp P C lo o an s
 | some false=>some ⟨put s.T o.dst (.tuple []),s.H⟩
 | none=>none
theorem By {ops:Array Oper} {o:Oper} {T bf:List I} (h:∀ t∈pj ops o,(T[t]?).map I.settle=(bf[t]?).map I.settle):eB ops o T=eB ops o bf:=by
 unfold eB;split
 ·rfl
 ·rename_i j want aO;split
  ·rename_i d a1;have hm:=h d (by simp [pj,aO,a1]);have ah:(df T d).settle=(df bf d).settle:=by
    rw [gg,gg,sw,sw];cases ab:T[d]? <;> cases ae:bf[d]? <;> rw [ab,ae] at hm <;> simp at hm <;> simp [hm]
   have key:∀ x:I,(match x with | .bool b=>some (b == want) | .tuple []=>some false | _=>none)=(match x.settle with | .bool b=>some (b == want) | .tuple []=>some false | _=>none):=fun x=>by
    (cases x <;> try rfl);rename_i c n k;cases k <;> rfl
   exact (key _).trans (Eq.trans (by rw [ah]) (key _).symm)
  ·rfl
theorem oo (T:List I) (d:Option Nat) (v:I) (j:Nat):(put T d v)[j]?=if d=some j then (T[j]?).map fun _=>v else T[j]?:=by
 cases d with
 | none=>simp [put]
 | some d=>simp only [put,ly,Option.some.injEq]
def hb (o:Oper) (an:bZ) (w:Bool) (r:I) (j:Nat) (u:I):I :=
 if o.dst=some j then r else if w=false then u else if j∈c4 an.cC (opsOf o) then .a0 else if j∈tmpsOf (opsOf o) then u.settle else u
theorem yE {o:Oper} {mode:Nat} (h:calm o mode=true) (T:List I) (v:I):inPlace o mode T v=T:=by
 unfold inPlace;split
 ·rfl
 ·rfl
 ·rename_i hm _;split
  ·rename_i aC;simp [calm,aC] at h;exact absurd h hm
  ·rename_i aC;simp [calm,aC] at h;exact absurd h hm
  ·rfl
theorem Bq {C:b8} {lo:Nat} {ops:Array Oper} {o:Oper} {an:bZ} {s aD:a6} (pw:calm o an.mode=true) (h:dw P C lo ops o an s=some aD) :
  ∃ w r,eB ops o s.T=some w∧(∀ j,aD.T[j]?=(s.T[j]?).map (hb o an w r j)) ∧
    (w=true→a3 P C lo o an.mode (fm (dF o an.mode) (rd s.T an.cC (opsOf o)).1) s.H=some (r,aD.H))∧(w=false→r=.tuple []∧aD.H=s.H):=by
 unfold dw at h;split at h
 ·rename_i hw;obtain ⟨r,H',aC,rfl⟩:=pa h;refine ⟨true,r,hw,fun j=>?_,fun _=>aC,by simp⟩;rw [yE pw];simp only [oo,kf];cases s.T[j]? with
  | none=>split <;> rfl
  | some u=>by_cases a1:o.dst=some j <;> simp [hb,a1]
 ·rename_i hw;simp only [Option.some.injEq] at h;subst h;refine ⟨false,.tuple [],hw,fun j=>?_,by simp,fun _=>⟨rfl,rfl⟩⟩;simp only [oo];cases s.T[j]? with
  | none=>split <;> rfl
  | some u=>by_cases a1:o.dst=some j <;> simp [hb,a1]
 ·simp at h
theorem Bo {C:b8} {lo:Nat} {ops:Array Oper} {o:Oper} {an:bZ} {s:a6} (pw:calm o an.mode=true) {w:Bool} {r:I} {H':List ar} (hw:eB ops o s.T=some w)
  (ab:w=true→a3 P C lo o an.mode (fm (dF o an.mode) (rd s.T an.cC (opsOf o)).1) s.H=some (r,H')) (ae:w=false→r=.tuple []∧H'=s.H) :
  ∃ bf,dw P C lo ops o an s=some ⟨bf,H'⟩∧∀ j,bf[j]?=(s.T[j]?).map (hb o an w r j):=by
 cases w with
 | true =>
   refine ⟨put (inPlace o an.mode (rd s.T an.cC (opsOf o)).2 r) o.dst r,?_,fun j=>?_⟩
   ·have ab:=ab rfl;simp only [dw,hw,Ab.execOp];unfold fm at ab;cases ao:dF o an.mode <;> rw [ao] at ab <;> simp only at ab ⊢ <;> rw [ab] <;> rfl
   ·rw [yE pw];simp only [oo,kf];cases s.T[j]? with
    | none=>split <;> rfl
    | some u=>by_cases a1:o.dst=some j <;> simp [hb,a1]
 | false =>
   obtain ⟨rfl,rfl⟩:=ae rfl;refine ⟨put s.T o.dst (.tuple []),by simp only [dw,hw],fun j=>?_⟩;simp only [oo];cases s.T[j]? with
   | none=>split <;> rfl
   | some u=>by_cases a1:o.dst=some j <;> simp [hb,a1]
theorem DY {t:TypeId} {H:List ar} {id c dU:Nat} {es es':List (Nat×I×I)} (aE:H[id]?=some (.map es c)) (a:I):dz P (H.set id (.map es' dU)) t a=dz P H t a:=by
 have ao:=(sa.1 aE).1;unfold dz;cases a with
 | ptr i off =>
   simp only;by_cases h:id=i
   ·subst h;rw [sk ao,aE]
   ·rw [sd h]
 | _=>rfl
theorem DZ {C:b8} {lo:Nat} {bx bK:Oper} {db:Nat} {us vs:List I} {aS bj:I} {H H2:List ar} (h:k3 bx 0 bK=true) (ab:a3 P C lo bx 0 us H=some (aS,H)) (ae:a3 P C lo bK db vs H=some (bj,H2)) :
  a3 P C lo bx 0 us H2=some (aS,H2):=by
 unfold k3 at h;split at h
 ·rename_i t x iE m k v hj ds;simp only [a3,hj] at ab ⊢;simp only [a3,ds] at ae;unfold du at ab ⊢;split at ab
  ·rename_i a;simp only [r_,Prod.mk.injEq] at ab;obtain ⟨r,ab,rfl,-⟩:=ab;have key:∃ id c es dU es',H[id]?=some (.map es c)∧H2=H.set id (.map es' dU):=by
    unfold je at ae;split at ae
    ·split at ae
     ·split at ae
      ·split at ae
       ·split at ae
        ·rename_i aE;split at ae
         ·cases ae;exact ⟨_,_,_,_,_,aE,rfl⟩
         ·cases ae;exact ⟨_,_,_,_,_,aE,rfl⟩
         ·simp at ae
        ·simp at ae
       ·simp at ae
      ·simp at ae
     ·simp at ae
    ·simp at ae
   obtain ⟨id,c,es,dU,es',aE,rfl⟩:=key;simp only;rw [DY aE,ab];rfl
  ·simp at ab
 ·simp at h
theorem D0 {t:TypeId} {H:List ar} {i id:Nat} {o cz:ar} (bJ:id≠i) (aE:H[id]?=some o) (off:Nat):dz P (H.set id cz) t (.ptr i off)=dz P H t (.ptr i off):=by
 unfold dz;simp only;rw [sd bJ]
theorem D1 {C:b8} {lo:Nat} {bx bK:Oper} {us vs:List I} {aS bj:I} {H H2:List ar} (h:k4 bx 13 bK 13=true) (ab:a3 P C lo bx 13 us H=some (aS,H)) (ae:a3 P C lo bK 13 vs H=some (bj,H2)) :
  a3 P C lo bx 13 us H2=some (aS,H2):=by
 unfold k4 at h;split at h
 ·rename_i t x iE aM nh hj ds;simp only [a3,hj] at ab ⊢;simp only [a3,ds] at ae;unfold du at ab ⊢;split at ab
  ·rename_i a;simp only at ab ⊢;split at ab
   ·rename_i i off;split at ab
    ·rename_i l ao;split at ab
     ·rename_i aF;simp only [r_,Prod.mk.injEq] at ab;obtain ⟨r,ab,rfl,-⟩:=ab;have key:∃ id o cz,id≠i∧H[id]?=some o∧H2=H.set id cz:=by
       unfold gm at ae;split at ae
       ·simp only at ae;split at ae
        ·rename_i j G9;split at ae
         ·rename_i l2 eF;split at ae
          ·cases ae
          ·rename_i bJ;simp only [r_,Prod.mk.injEq] at ae;obtain ⟨hF,ae,-,rfl⟩:=ae;unfold g8 at ae;have gi:j≠i:=by
            rintro rfl;rw [ao] at eF;cases eF;exact bJ aF
           split at ae
           ·rename_i e1 b';cases e1;split at ae
            ·unfold gT at ae;split at ae
             ·rw [eF] at ae;simp only [r_] at ae;obtain ⟨y,_,rfl⟩:=ae;exact ⟨j,_,_,gi,eF,rfl⟩
             ·cases ae
            ·cases ae
           ·cases ae
         ·cases ae
        ·cases ae
       ·cases ae
      obtain ⟨id,o,cz,bJ,aE,rfl⟩:=key;rw [sd bJ,ao];simp only;rw [if_pos aF,D0 bJ aE,ab];rfl
     ·cases ab
    ·cases ab
   ·cases ab
  ·simp at ab
 ·simp at h
theorem Bn {C:b8} {lo:Nat} {ops:Array Oper} {bx bK:Oper} {aA aG:bZ} (hi:indep ops bx aA bK aG=true) {s s1 s2:a6} (ab:dw P C lo ops bx aA s=some s1) (ae:dw P C lo ops bK aG s1=some s2) :
  ∃ dk,dw P C lo ops bK aG s=some dk∧dw P C lo ops bx aA dk=some s2:=by
 simp only [indep,sn] at hi;obtain ⟨⟨⟨⟨⟨⟨⟨d1,d2⟩,d3⟩,d4⟩,d5⟩,a7⟩,a9⟩,bE⟩:=hi;have e1:∀ t,bx.dst=some t→t ∉ fa ops bK:=fun t ax=>lZ d1 t (by simp [ax]);have b':∀ t,bK.dst=some t→t ∉ fa ops bx:=fun t ax=>lZ d2 t (by simp [ax]);have dB:∀ t,bx.dst=some t→bK.dst≠some t:=fun t ax h=>lZ d3 t (by simp [ax]) (by simp [h]);have l3:=lZ d4;have l4:=lZ d5;have jq:∀ (xs:List Operand) (ts:List Bool) (t:Nat),t∈c4 ts xs→t∈tmpsOf xs:=by
  intro xs
  induction xs with
  | nil=>intro ts t h;simp [c4] at h
  | cons x rest a8 =>
    intro ts t h;cases x with
    | tmp u =>
      (have ax:tmpsOf (.tmp u::rest)=u::tmpsOf rest:=by simp [tmpsOf]);rw [ax];simp only [c4] at h;split at h
      ·rcases sA.1 h with rfl | h
       ·simp
       ·exact tU _ (a8 _ t h)
      ·exact tU _ (a8 _ t h)
    | const v=>simpa [tmpsOf] using a8 _ t (by simpa [c4] using h)
    | func f=>simpa [tmpsOf] using a8 _ t (by simpa [c4] using h)
    | global g=>simpa [tmpsOf] using a8 _ t (by simpa [c4] using h)
 obtain ⟨bI,aS,cf,t1,fA,v1⟩:=Bq a7 ab;obtain ⟨bX,bj,ca,t2,gv,v2⟩:=Bq a9 ae;have cE:∀ (o:Oper) (a:bZ) (w:Bool) (r:I) (t:Nat),o.dst≠some t→t ∉ c4 a.cC (opsOf o)→∀ u,(hb o a w r t u).settle=u.settle:=fun o a w r t a1 ax u=>by
  unfold hb;rw [if_neg a1];split
  ·rfl
  ·by_cases h:t∈tmpsOf (opsOf o) <;> simp only [h,if_true,if_false];exact yb u
 have stay:∀ (o:Oper) (a:bZ) (w:Bool) (r:I) (t:Nat),o.dst≠some t→t ∉ tmpsOf (opsOf o)→∀ u,hb o a w r t u=u:=fun o a w r t a1 ax u=>by
  unfold hb;rw [if_neg a1];split
  ·rfl
  ·have DL:t ∉ c4 a.cC (opsOf o):=fun h=>ax (jq _ _ t h);simp only [DL,if_false]
 have da:∀ t∈fa ops bK,(s1.T[t]?).map I.settle=(s.T[t]?).map I.settle:=fun t ax=>by
  rw [t1];cases s.T[t]? with
  | none=>rfl
  | some u=>simp only [se];rw [cE bx aA bI aS t (fun h=>e1 t h ax) (fun h=>l3 t h ax)]
 have aJ:∀ t∈c4 aG.cC (opsOf bK),s1.T[t]?=s.T[t]?:=fun t ax=>by
  rw [t1];have aI:bx.dst≠some t:=fun h=>e1 t h (by simp [fa,jq _ _ t ax]);have pS:t ∉ tmpsOf (opsOf bx):=fun h=>l4 t ax (by simp [fa,h]);cases s.T[t]? with
  | none=>rfl
  | some u=>simp only [se];rw [stay bx aA bI aS t aI pS]
 have Cw:eB ops bK s.T=some bX:=by rw [←ca];exact (By fun t ax=>da t (by simp [fa,ax])).symm
 have dg:(rd s1.T aG.cC (opsOf bK)).1=(rd s.T aG.cC (opsOf bK)).1:=ke _ _ _ _ (fun t ax=>da t (by simp [fa,ax])) aJ;have Ao:∀ {o:Oper} {a:bZ} {us:List I} {r:I} {H H':List ar},dq o a.mode=1∨dq o a.mode=3→a3 P C lo o a.mode us H=some (r,H')→H'=H:=fun ak aC=>by
  rcases ak with ak | ak
  ·exact (jF ak aC).1
  ·exact Cd ak aC
 have al:dq bx aA.mode=0∨dq bK aG.mode=0∨((dq bx aA.mode=1∨dq bx aA.mode=3)∧(dq bK aG.mode=1∨dq bK aG.mode=3)) ∨
   (dq bx aA.mode=1∧dq bK aG.mode=5)∨(dq bx aA.mode=5∧dq bK aG.mode=1)∨(dq bx aA.mode=1∧dq bK aG.mode=6)∨(aA.mode=0∧k3 bx 0 bK=true)∨(aA.mode=13∧aG.mode=13∧k4 bx 13 bK 13=true):=by
  rw [tt,tt] at bE;rcases bE with (bE | bE) | bE
  rotate_left 2
  ·refine .inr (.inr (.inr (.inr (.inr (.inr (.inr ?_))))));have aQ:aA.mode=13∧aG.mode=13:=by
    unfold k4 at bE;split at bE
    ·simpa using bE
    ·simp at bE
   rw [aQ.1,aQ.2] at bE;exact ⟨aQ.1,aQ.2,bE⟩
  rotate_left
  ·refine .inr (.inr (.inr (.inr (.inr (.inr (.inl ?_))))));have aQ:aA.mode=0:=by
    unfold k3 at bE;split at bE
    ·simpa using bE
    ·simp at bE
   rw [aQ] at bE;exact ⟨aQ,bE⟩
  simp only [bT,tt,sn,beq_iff_eq] at bE;rcases bE with ((((h | h) | h) | h) | h) | h
  ·exact .inl h
  ·exact .inr (.inl h)
  ·exact .inr (.inr (.inl h))
  ·exact .inr (.inr (.inr (.inl h)))
  ·exact .inr (.inr (.inr (.inr (.inl h))))
  ·exact .inr (.inr (.inr (.inr (.inr (.inl h)))))
 have mem:∃ hF,(bX=true→a3 P C lo bK aG.mode (fm (dF bK aG.mode) (rd s.T aG.cC (opsOf bK)).1) s.H=some (bj,hF))∧(bX=false→bj=.tuple []∧hF=s.H) ∧
   (bI=true→∀ vs,a3 P C lo bx aA.mode vs s.H=some (aS,s1.H)→a3 P C lo bx aA.mode vs hF=some (aS,s2.H))∧(bI=false→s2.H=hF):=by
  cases bX with
  | false =>
    obtain ⟨q1,aW⟩:=v2 rfl;refine ⟨s.H,by simp,fun _=>⟨q1,rfl⟩,fun _ vs h=>by rw [aW];exact h,fun hw=>by rw [aW];exact (v1 hw).2⟩
  | true =>
    have ds:=gv rfl;rw [dg] at ds;cases bI with
    | false =>
      have q:=(v1 rfl).2;rw [q] at ds;exact ⟨s2.H,fun _=>ds,by simp,by simp,fun _=>rfl⟩
    | true =>
      have hj:=fA rfl;rcases al with h | h | ⟨h,aX⟩ | ⟨h,aX⟩ | ⟨h,aX⟩ | ⟨h,aX⟩ | ⟨h,aX⟩ | ⟨h,af,aX⟩
      ·have q:=(ny h hj).1;rw [q] at ds;exact ⟨s2.H,fun _=>ds,by simp,fun _ vs bE=>(ny h bE).2 s2.H,by simp⟩
      ·have q:=(ny h ds).1;refine ⟨s.H,fun _=>(ny h ds).2 s.H,by simp,fun _ vs bE=>by rw [q];exact bE,by simp⟩
      ·have q1:=Ao h hj;have aW:=Ao aX ds;rw [aW,q1] at ds;exact ⟨s.H,fun _=>ds,by simp,fun _ vs bE=>by rw [aW];exact bE,by simp⟩
      ·have q1:=(jF h hj).1;rw [q1] at ds;exact ⟨s2.H,fun _=>ds,by simp,fun _ vs bE=>(jF h bE).2 s2.H (yG aX ds).1,by simp⟩
      ·obtain ⟨aW,cF⟩:=jF aX ds;exact ⟨s.H,fun _=>cF s.H (yG h hj).2,by simp,fun _ vs bE=>by rw [aW];exact bE,by simp⟩
      ·have q1:=(jF h hj).1;rw [q1] at ds;exact ⟨s2.H,fun _=>ds,by simp,fun _ vs bE=>(jF h bE).2 s2.H (Ce aX ds),by simp⟩
      ·have q1:s1.H=s.H:=by
        have ak:dq bx aA.mode=1:=by
         unfold k3 at aX;split at aX
         ·rename_i aC _;simp only [dq,aC,h];rfl
         ·simp at aX
        exact (jF ak hj).1
       rw [q1] at ds;refine ⟨s2.H,fun _=>ds,by simp,fun _ vs bE=>?_,by simp⟩;rw [q1] at bE;rw [h] at bE ⊢;exact DZ aX bE ds
      ·have q1:s1.H=s.H:=by
        have fM:=hj;rw [h] at fM;unfold k4 at aX;split at aX
        ·rename_i aC _;simp only [a3,aC] at fM;unfold du at fM;split at fM
         ·simp only at fM;split at fM
          ·split at fM
           ·split at fM
            ·simp only [r_,Prod.mk.injEq] at fM;obtain ⟨_,_,_,a'⟩:=fM;exact a'.symm
            ·cases fM
           ·cases fM
          ·cases fM
         ·cases fM
        ·simp at aX
       rw [q1] at ds;refine ⟨s2.H,fun _=>ds,by simp,fun _ vs bE=>?_,by simp⟩;rw [q1] at bE;rw [h] at bE ⊢;rw [af] at ds;exact D1 aX bE ds
 obtain ⟨hF,bm,cw,e2,lR⟩:=mem;obtain ⟨dH,DE,pr⟩:=Bo (C:=C) (lo:=lo) (s:=s) a9 Cw bm cw;have db:∀ t∈fa ops bx,(dH[t]?).map I.settle=(s.T[t]?).map I.settle:=fun t ax=>by
  rw [pr];cases s.T[t]? with
  | none=>rfl
  | some u=>simp only [se];rw [cE bK aG bX bj t (fun h=>b' t h ax) (fun h=>l4 t h ax)]
 have aN:∀ t∈c4 aA.cC (opsOf bx),dH[t]?=s.T[t]?:=fun t ax=>by
  rw [pr];have aI:bK.dst≠some t:=fun h=>b' t h (by simp [fa,jq _ _ t ax]);have pS:t ∉ tmpsOf (opsOf bK):=fun h=>l3 t ax (by simp [fa,h]);cases s.T[t]? with
  | none=>rfl
  | some u=>simp only [se];rw [stay bK aG bX bj t aI pS]
 have Cv:eB ops bx dH=some bI:=by rw [←cf];exact By fun t ax=>db t (by simp [fa,ax])
 have dY:(rd dH aA.cC (opsOf bx)).1=(rd s.T aA.cC (opsOf bx)).1:=ke _ _ _ _ (fun t ax=>db t (by simp [fa,ax])) aN
 obtain ⟨BL,DF,CF⟩:=Bo (C:=C) (lo:=lo) (s:=⟨dH,hF⟩) (r:=aS) (H':=s2.H) a7 Cv (fun hw=>by
  simp only;rw [dY];exact e2 hw _ (fA hw)) (fun hw=>⟨(v1 hw).1,lR hw⟩)
 refine ⟨⟨dH,hF⟩,DE,?_⟩;rw [DF];congr 1
 have:BL=s2.T:=by
  apply uy;intro j;rw [CF,t2];simp only [pr,t1];cases s.T[j]? with
  | none=>rfl
  | some u =>
    simp only [se,Option.some.injEq];unfold hb;have Gz:=dB j;have lF:=e1 j;have lG:=b' j;have BF:=l3 j;have BG:=l4 j;have yo:=jq (opsOf bx) aA.cC j;have oU:=jq (opsOf bK) aG.cC j;simp only [fa,List.mem_append,not_or] at lF lG BF BG;by_cases bU:bx.dst=some j
    ·have q:=(lF bU).2;have fW:j ∉ c4 aG.cC (opsOf bK):=fun h=>q (oU h);simp only [bU,if_true,Gz bU,if_false,q,fW];split <;> rfl
    ·by_cases b1:bK.dst=some j
     ·have q:=(lG b1).2;have fW:j ∉ c4 aA.cC (opsOf bx):=fun h=>q (yo h);simp only [bU,b1,if_true,if_false,q,fW];split <;> rfl
     ·simp only [bU,b1,if_false];by_cases oP:j∈c4 aA.cC (opsOf bx)
      ·have q:=(BF oP).2;have fW:j ∉ c4 aG.cC (opsOf bK):=fun h=>q (oU h);simp only [oP,q,fW,if_true,if_false];split <;> split <;> rfl
      ·by_cases yg:j∈c4 aG.cC (opsOf bK)
       ·have q:=(BG yg).2;simp only [oP,yg,q,if_true,if_false];split <;> split <;> rfl
       ·simp only [oP,yg,if_false];by_cases Fs:j∈tmpsOf (opsOf bx) <;> by_cases Ft:j∈tmpsOf (opsOf bK) <;> simp only [Fs,Ft,if_true,if_false] <;> split <;> split <;> first | rfl | rw [yb]
 rw [this]
end
end Go.Proofs.Ytkoioidpbbbaiaa.Ab
