
import Derived.Test.YtkoioidpbbbaiaaGreatJe2
import Derived.Maps.RangeRun
set_option linter.unusedSimpArgs false
set_option linter.unusedVariables false
set_option linter.unusedSectionVars false

open Array renaming getD_eq_getD_getElem?→su,getElem?_eq_getElem→sr,getElem?_eq_some_iff→sJ,getElem?_setIfInBounds_ne→uI,length_toList→sZ,toArray_toList→tF
open Bool renaming and_eq_true→sn,false_eq_true→tO,or_eq_true→tA
open Classical renaming choose_spec→uy
open List renaming all_eq_true→sm,append_assoc→sx,drop_eq_getElem_cons→s0,eq_nil_iff_forall_not_mem→ux,filter_eq_self→tC,filter_filter→uP,foldl_cons→uH,getD_eq_getElem?_getD→sw,getElem?_append_left→sg,getElem?_append_right→ss,getElem?_cons_zero→tw,getElem?_eq_getElem→si,getElem?_eq_some_iff→sa,getElem?_map→sk,getElem?_set_ne→sd,getElem?_set_self→sj,length_cons→sK,length_eq_zero_iff→sO,length_erase_of_mem→tS,length_map→sY,length_nil→tU,length_set→sV,mapM_cons→vm,map_cons→sG,map_drop→tG,map_take→tQ,mem_cons→sB,mem_cons_of_mem→tR,mem_cons_self→tX,mem_filter→ta,mem_iff_getElem?→sX,mem_map→sD,mem_of_getElem?→sv,mem_range→sH,mem_singleton→sS,nodup_range→uO,of_mem_zip→uR,pairwise_cons→tB,take_append_drop→vt,zip_cons_cons→vo
open Nat renaming beq_eq→tW,beq_refl→uQ,ble_eq→tD,ble_eq_true_of_le→tj,blt_eq→sR,eq_of_beq_eq_true→sN,le_of_ble_eq_true→tr,le_refl→sc,lt_or_ge→sL
open Option renaming bind_eq_some_iff→sf,bind_some→sb,isNone_iff_eq_none→s7,isSome_eq_false_iff→s6,isSome_iff_exists→s_,map_eq_some_iff→r_,map_some→se
namespace Go.Proofs.YtkoioidpbbbaiaaGreat.Ab
open Go
section
variable {P:Program}
theorem mT (ms:List Nat) (j:Nat):∀ (l:List Edge) (n7:Nat),(l.foldl (fun m e=>if Region.binds .any e then m ||| (ms.getD e.on 0 ||| 1 <<< e.on) else m) n7).testBit j=true →
  n7.testBit j=true∨∃ e∈l,Region.binds .any e=true∧((ms.getD e.on 0).testBit j=true∨j=e.on)
 | [],n7,h=>.inl h
 | e::l,n7,h=>by
   simp only [uH] at h;rcases mT ms j l _ h with ab | ⟨cV,jP,af,ab⟩
   ·by_cases af:Region.binds .any e=true
    ·simp only [af,if_true,Nat.testBit_or,tA] at ab;rcases ab with ab | ab | ab
     ·exact .inl ab
     ·exact .inr ⟨e,by simp,af,.inl ab⟩
     ·refine .inr ⟨e,by simp,af,.inr ?_⟩;rw [Nat.one_shiftLeft,Nat.testBit_two_pow] at ab;simpa using (of_decide_eq_true ab).symm
    ·simp only [af] at ab;exact .inl ab
   ·exact .inr ⟨cV,by simp [jP],af,ab⟩
def lW (ops:Array Oper) (listed:Array Bool):Prop :=
 ∀ k o,ops[k]?=some o→listed.getD k true=true→∀ e∈o.after,Region.binds .any e=true→listed.getD e.on false=true
noncomputable def cU (P:Program) (C:b8) (lo:Nat) (ops:Array Oper) (as:List bZ):List Nat→a6→Option a6
 | [],s=>some s
 | i::r,s=>match ops[i]? with
   | none=>cU P C lo ops as r s
   | some o=>(dv P C lo ops o (as.getD i {}) s).bind (cU P C lo ops as r)
theorem yL {C:b8} {lo:Nat} {ops:Array Oper} {as:List bZ}:∀ (l:List Oper) (k:Nat) (s:a6),(∀ j,l[j]?=ops[k+j]?)→ee P C lo ops l (as.drop k) s=cU P C lo ops as (List.range' k l.length) s
 | [],k,s,_=>by simp [ee,cU]
 | o::l,k,s,h=>by
   (have aQ:ops[k]?=some o:=by simpa using (h 0).symm);have a8:=fun s=>yL (C:=C) (lo:=lo) (as:=as) l (k+1) s (fun j=>by have:=h (j+1);simpa [Nat.add_assoc,Nat.add_comm 1 j] using this);(have a1:(as.drop k).headD {}=as.getD k {}:=by rw [List.headD_eq_head?_getD,List.head?_drop,sw]);(have ax:(as.drop k).tail=as.drop (k+1):=by rw [List.tail_drop]);simp only [ee,sK,List.range'_succ,cU,aQ,a1,ax];unfold dv;split
   ·rename_i hw;simp only [hw];congr 1;funext aD;exact a8 aD
   ·rename_i hw;simp only [hw];exact a8 _
   ·rename_i hw;simp only [hw];rfl
def eL (n:Nat) (listed:Array Bool):List Nat:=(List.range n).filter fun i=>!listed.getD i true
theorem At {n i:Nat} {listed:Array Bool}:eL n (listed.setIfInBounds i true)=(eL n listed).erase i:=by
 have jV:(eL n listed).Nodup:=uO.filter _;rw [jV.erase_eq_filter];simp only [eL,uP];congr 1;funext j;by_cases h_:j=i
 ·subst h_;rcases sL j listed.size with h | h
  ·simp [su,h]
  ·simp [su,h]
 ·have:(listed.setIfInBounds i true).getD j true=listed.getD j true:=by
   simp only [su];rw [uI (Ne.symm h_)]
  rw [this];simp [h_]
theorem x8 {C:b8} {lo:Nat} {ops:Array Oper} {as:List bZ} {i:Nat} {cS:Oper} (hi:ops[i]?=some cS) {aD:a6}:∀ (l:List Nat) (s:a6),l.Pairwise (·<·)→i∈l →
  (∀ j∈l,j<i→∀ cT,ops[j]?=some cT→indep ops cT (as.getD j {}) cS (as.getD i {})=true)→cU P C lo ops as l s=some aD →
  ∃ s1,dv P C lo ops cS (as.getD i {}) s=some s1∧cU P C lo ops as (l.erase i) s1=some aD
 | [],s,_,h,_,_=>by simp at h
 | j::r,s,aB,hm,jR,h=>by
   by_cases gi:j=i
   ·subst gi;simp only [cU,hi,sf] at h;obtain ⟨s1,ab,ae⟩:=h;exact ⟨s1,ab,by simpa using ae⟩
   ·have ai:i∈r:=by
     rcases sB.1 hm with h | h
     ·exact absurd h.symm gi
     ·exact h
    have aR:j<i:=(tB.1 aB).1 i ai;have he:(j::r).erase i=j::r.erase i:=by
     rw [List.erase_cons];simp [gi]
    rw [he];simp only [cU] at h ⊢;cases aw:ops[j]? with
    | none =>
      simp only [aw] at h;exact x8 hi r s (tB.1 aB).2 ai (fun k al=>jR k (by simp [al])) h
    | some cT =>
      simp only [aw,sf] at h;obtain ⟨s1,ab,ae⟩:=h;obtain ⟨s2,aJ,aN⟩:=x8 hi r s1 (tB.1 aB).2 ai (fun k al=>jR k (by simp [al])) ae;obtain ⟨dk,q1,aW⟩:=Bl (jR j (by simp) aR cT aw) ab aJ;exact ⟨dk,q1,by dsimp only;rw [aW];exact aN⟩
variable {B N:Nat} {J:List Nat} {w:World} {aa:Nat→Option aH} {S:Nat→Nat→Prop}
theorem Bn {F:Fence} (bG:ek F) {C:b8} (bn:c6 P C) {lo:Nat} {ops:Array Oper} {Q:Exit→Act→World→Prop} {i:Nat} {o:Oper} (hi:ops[i]?=some o) {an:bZ} {s aD:a6}
  (h:dv P C lo ops o an s=some aD) {a:Act} (aL:cA B N aa J S w s a) {K:Act→World→Prop} (fJ:∀ aM w',Step B N aa J S w aD aM w'→K aM w'):wpOpIn F 0 P ops Q i K a w:=by
 unfold wpOpIn;simp only [hi];unfold dv at h;split at h
 ·rename_i hw;rw [lC aL hw];simp only [if_true];exact ye bG bn h aL fJ
 ·rename_i hw;rw [lC aL hw];simp only [tO,if_false];simp only [Option.some.injEq] at h;subst h;exact ⟨fun f _=>bG.fn f,fJ _ _ (Step.here (aL.skip o.dst))⟩
 ·simp at h
theorem BV {F:Fence} (bG:ek F) {C:b8} (bn:c6 P C) {lo:Nat} {ops:Array Oper} {as:List bZ} (a1:nA ops as=true) {Q:Exit→Act→World→Prop} {aD:a6} :
  ∀ (fuel:Nat) (listed:Array Bool) (s:a6) (a:Act) (w:World) (aa:Nat→Option aH) (J:List Nat) (S:Nat→Nat→Prop),(eL ops.size listed).length≤fuel→lW ops listed →
    cU P C lo ops as (eL ops.size listed) s=some aD→cA B N aa J S w s a→(∀ aM w',Step B N aa J S w aD aM w'→Q .normal aM w')→wpAnyIn F 0 P .any ops Q fuel listed a w:=by
 have c1:∀ j cT,ops[j]?=some cT→((fR ops.toList []).getD j 0=mS (fR ops.toList []) cT)∧(∀ e∈cT.after,Region.binds .any e=true→e.on<j) ∧
   ∀ i cS,i<j→ops[i]?=some cS→((fR ops.toList []).getD j 0).testBit i=true∨indep ops cS (as.getD i {}) cT (as.getD j {})=true:=fun j cT aw=>by
  have aR:j<ops.size:=(sJ.1 aw).1;simp only [nA,Aa,sm,sH] at a1;have h:=a1 j aR;rw [aw] at h;simp only [sn,beq_iff_eq,sm,sH] at h;obtain ⟨⟨ab,ae⟩,aF⟩:=h;refine ⟨ab,fun e he af=>?_,fun i cS h_ hi=>?_⟩
  ·have:=ae e (by simpa using he);simp only [af,Bool.not_true,Bool.false_or] at this;simpa [sR] using this
  ·have:=aF i h_;rw [hi] at this;simpa using this
 have xR:∀ (listed:Array Bool),lW ops listed→∀ (n k:Nat) ok,k≤n→ops[k]?=some ok→(∀ e∈ok.after,Region.binds .any e=true→listed.getD e.on false=true) →
   ∀ j,((fR ops.toList []).getD k 0).testBit j=true→listed.getD j false=true:=by
  intro listed cH n
  induction n with
  | zero =>
    intro k ok al aq eU j aw;rw [(c1 k ok aq).1] at aw;rcases mT _ j _ _ aw with h | ⟨e,he,af,h⟩
    ·simp at h
    ·have:=(c1 k ok aq).2.1 e (by simpa using he) af;omega
  | succ n a8 =>
    intro k ok al aq eU j aw;rw [(c1 k ok aq).1] at aw;rcases mT _ j _ _ aw with h | ⟨e,he,af,h⟩
    ·simp at h
    ·(have jP:e∈ok.after:=by simpa using he);have aR:=(c1 k ok aq).2.1 e jP af;have ic:=eU e jP af;rcases h with h | rfl
     ·have kJ:=(sJ.1 aq).1;have mx:ops[e.on]?=some ops[e.on]:=sr (by omega);have pY:listed.getD e.on true=true:=by
       rcases sL e.on listed.size with aX | aX
       ·simp [su,aX] at ic ⊢;exact ic
       ·simp [su,aX] at ic
      exact a8 e.on _ (by omega) mx (cH e.on _ mx pY) j h
     ·exact ic
 intro fuel
 induction fuel with
 | zero =>
   intro listed s a w aa J S pH cH dM aL bp;have ib:eL ops.size listed=[]:=sO.1 (by omega);rw [ib] at dM;simp only [cU,Option.some.injEq] at dM;subst dM;refine ⟨?_,bp a w (Step.here aL)⟩;rw [ux];intro i hi;obtain ⟨ab,o,aq,_⟩:=mem_ready.1 hi
   have:i∈eL ops.size listed:=by
    simp only [eL,ta,sH];exact ⟨(sJ.1 aq).1,by simp [ab]⟩
   rw [ib] at this;simp at this
 | succ fuel a8 =>
   intro listed s a w aa J S pH cH dM aL bp;refine ⟨fun ai=>?_,fun i hi=>?_⟩
   ·
    have ib:eL ops.size listed=[]:=by
     rw [ux];intro i
     induction i using Nat.strongRecOn with
     | _ i xl =>
       intro hi;simp only [eL,ta,sH] at hi;obtain ⟨aR,dX⟩:=hi;have aq:ops[i]?=some ops[i]:=sr aR
       have:i∈Region.ready .any ops listed:=mem_ready.2 ⟨by simpa using dX,_,aq,fun e he af=>by
        have ia:=(c1 i _ aq).2.1 e he af;have kN:=xl e.on ia;simp only [eL,ta,sH,not_and] at kN;have ao:=kN (by omega);rcases sL e.on listed.size with aX | aX
        ·simp [su,aX] at ao ⊢;exact ao
        ·rcases sL i listed.size with l9 | l9
         ·omega
         ·simp [su,l9] at dX⟩
       rw [ai] at this;simp at this
    rw [ib] at dM;simp only [cU,Option.some.injEq] at dM;subst dM;exact bp a w (Step.here aL)
   ·obtain ⟨ab,cS,eg,eU⟩:=mem_ready.1 hi;have aR:=(sJ.1 eg).1;have kL:i∈eL ops.size listed:=by
     simp only [eL,ta,sH];exact ⟨aR,by simp [ab]⟩
    have DH:(eL ops.size listed).Pairwise (·<·):=List.pairwise_lt_range.filter _
    obtain ⟨s1,q1,aW⟩:=x8 eg (eL ops.size listed) s DH kL (fun j aw gi cT pX=>by
     rcases (c1 i cS eg).2.2 j cT gi pX with h | h
     ·have:=xR listed cH i i cS (sc _) eg eU j h;simp only [eL,ta,sH] at aw;have dX:=aw.2;rcases sL j listed.size with aX | aX
      ·simp [su,aX] at dX this;rw [this] at dX;simp at dX
      ·simp [su,aX] at dX
     ·exact h) dM
    refine Bn bG bn eg q1 aL fun aM w' ah=>?_;obtain ⟨b5,cZ,a4,aJ,aN,cg⟩:=ah;refine a8 (listed.setIfInBounds i true) s1 aM w' b5 cZ a4 ?_ ?_ (by rw [At];exact aW) cg fun g7 hB dN=>bp g7 hB (dN.trans aJ aN)
    ·rw [At,tS kL];omega
    ·intro k ok al ao e he af;by_cases iU:k=i
     ·subst iU;rw [eg] at al;cases al;exact getD_set_true (eU e he af)
     ·have:listed.getD k true=true:=by rw [getD_set_ne true (Ne.symm iU)] at ao;exact ao
      exact getD_set_true (cH k ok al this e he af)
theorem xO {F:Fence} (bG:ek F) (hm:P.follows .mixedOrders=true) {C:b8} (bn:c6 P C) {lo id:Nat} {ops:Array Oper} {draw:Bool} {as:List bZ} (a1:draw=true→nA ops as=true) {Q:Exit→Act→World→Prop} {s aD:a6} {a:Act}
  (h:ee P C lo ops ops.toList as s=some aD) (aL:cA B N aa J S w s a) (bp:∀ aM w',Step B N aa J S w aD aM w'→Q .normal aM w'):(Code.region id ops draw).wpIn F 0 P Q a w:=by
 cases draw with
 | false=>exact wpIn_region_list (xu bG bn ops.toList as s a w aa J S h aL bp)
 | true =>
   refine wpIn_region_any hm ?_;have hw:aK B aa J S w.drew s.H:=mz aL.H;have az:=ky aa S w;have gh:cA B N aa J S w.drew s a:=⟨⟨aL.T.len,fun i u v hu ad=>(aL.T.rel i u v hu ad).mono (Ext.refl J) az.set,fun i u v hu ad=>(aL.T.own i u v hu ad).mono (Ext.refl J) az.set fun b af=>⟨af,rfl,fun _ h=>h⟩⟩,hw,aL.M.az az⟩;have ai:=yL (P:=P) (C:=C) (lo:=lo) (as:=as) (ops:=ops) ops.toList 0 s (by simp);rw [List.drop_zero,h] at ai;have kS:eL ops.size (Array.replicate ops.size false)=List.range ops.size:=by
    simp only [eL];rw [tC];intro i hi;have hi:=sH.1 hi;simp [su,hi]
   refine BV bG bn (a1 rfl) ops.size (Array.replicate ops.size false) s a w.drew aa J S (by rw [kS];simp) ?_ (by rw [kS,List.range_eq_range',←sZ];exact ai.symm) gh fun aM w' ah=>bp aM w' (ah.trans (Ext.refl J) az);intro k o aq ao;have aR:=(sJ.1 aq).1;simp [su,aR] at ao
end
end Go.Proofs.YtkoioidpbbbaiaaGreat.Ab


namespace Go.Proofs.YtkoioidpbbbaiaaGreat.Ab
open Go
section
variable {P:Program} {C:b8}
theorem Cm (bn:c6 P C) {lo:Nat} {o:Oper} {an:bZ} {s aD:a6} (h:Ab.execOp P C lo o an s=some aD):a' lo s.H aD.H:=by
 obtain ⟨r,H',aC,rfl⟩:=o' h;exact EC bn aC
theorem pa (bn:c6 P C) {lo:Nat} {ops:Array Oper}:∀ (l:List Oper) (as:List bZ) (s aD:a6),ee P C lo ops l as s=some aD→a' lo s.H aD.H
 | [],as,s,aD,h=>by simp only [ee,Option.some.injEq] at h;subst h;exact a'.refl _ _
 | o::l,as,s,aD,h=>by
   simp only [ee] at h;split at h
   ·simp only [sf] at h;obtain ⟨s1,ab,ae⟩:=h;exact (Cm bn ab).trans (pa bn l _ _ _ ae)
   ·have:=pa bn l _ _ _ h;exact this
   ·simp at h
theorem zB (mM:List (Nat×List Bool)) (id:Nat) (s:a6):(e5 mM id s).H=s.H:=by
 unfold e5;split <;> rfl
theorem zK {lo:Nat} {f:a6→Option (cQ×a6)} (aP:∀ s e aD,f s=some (e,aD)→a' lo s.H aD.H):∀ (n:Nat) (s:a6) (e:cQ) (aD:a6),iq f n s=some (e,aD)→a' lo s.H aD.H
 | 0,s,e,aD,h=>by simp [iq] at h
 | n+1,s,e,aD,h=>by
   simp only [iq] at h;split at h
   ·rename_i s1 ab;exact (aP _ _ _ ab).trans (zK aP n _ _ _ h)
   ·exact aP _ _ _ h
theorem pb (bn:c6 P C) {A:dw} {fn:FuncId} {lo d:Nat} {rl:Option Nat}:∀ (c:Code) (a2:Nat) (s:a6) (e:cQ) (aD:a6),exec P A C fn lo d rl c a2 s=some (e,aD)→a' lo s.H aD.H:=by
 intro c
 induction c with
 | skip=>intro a2 s e aD h;simp only [exec,Option.some.injEq,Prod.mk.injEq] at h;obtain ⟨_,rfl⟩:=h;exact a'.refl _ _
 | region id ops draw =>
   intro a2 s e aD h;simp only [exec] at h;split at h
   ·cases h
   simp only [r_,Prod.mk.injEq] at h;obtain ⟨s1,h,_,rfl⟩:=h;have:=pa bn _ _ _ _ h
   rwa [zB] at this
 | seq a b fk fw =>
   intro a2 s e aD h;simp only [exec] at h;split at h
   ·rename_i s1 ab;exact (fk _ _ _ _ ab).trans (fw _ _ _ _ h)
   ·exact fk _ _ _ _ h
 | cond c a b fk fw =>
   intro a2 s e aD h;simp only [exec] at h;split at h
   ·exact fk _ _ _ _ h
   ·exact fw _ _ _ _ h
   ·simp at h
 | block id c a8 =>
   intro a2 s e aD h;simp only [exec] at h;split at h
   ·rename_i bC s1 ab;split at h <;> simp only [Option.some.injEq,Prod.mk.injEq] at h <;> obtain ⟨_,rfl⟩:=h <;> exact a8 _ _ _ _ ab
   ·exact a8 _ _ _ _ h
 | loop c a8 =>
   intro a2 s e aD h;simp only [exec] at h;exact zK (fun s e aD h=>by have:=a8 _ _ _ _ h;rwa [zB] at this) _ _ _ _ h
 | exit id=>intro a2 s e aD h;simp only [exec,Option.some.injEq,Prod.mk.injEq] at h;obtain ⟨_,rfl⟩:=h;exact a'.refl _ _
 | ret=>intro a2 s e aD h;simp only [exec,Option.some.injEq,Prod.mk.injEq] at h;obtain ⟨_,rfl⟩:=h;exact a'.refl _ _
 | scope c a8=>intro a2 s e aD h;simp only [exec] at h;exact a8 _ _ _ _ h
 | label l=>intro a2 s e aD h;simp only [exec,Option.some.injEq,Prod.mk.injEq] at h;obtain ⟨_,rfl⟩:=h;exact a'.refl _ _
 | goto l=>intro a2 s e aD h;simp [exec] at h
 | refuse y=>intro a2 s e aD h;simp [exec] at h
 | rangeFunc g bq a b fk fw =>
   intro a2 s e aD h;simp only [exec] at h;have key:∀ {H':List ar} {r:I} {bY:fc} {args:List I} {x:ar},C bY args (s.H++[x]) lo=some (r,H')→a' lo s.H (H'.set s.H.length .dead):=fun {H' r bY args x} ak=>by
    have ao:=bn.low ak;refine ⟨?_,fun id ab ae=>?_⟩
    ·have:=ao.1;simp at this ⊢;omega
    ·rw [sd (by omega),ao.2 id ab (by simp;omega),sg ae]
   split at h
   ·split at h
    ·rename_i r H' ak;split at h
     ·split at h
      ·simp at h
      ·split at h
       ·simp only [Option.some.injEq,Prod.mk.injEq] at h;obtain ⟨_,rfl⟩:=h;exact key ak
       ·simp only [Option.some.injEq,Prod.mk.injEq] at h;obtain ⟨_,rfl⟩:=h;exact key ak
       ·simp only [Option.some.injEq,Prod.mk.injEq] at h;obtain ⟨_,rfl⟩:=h;exact key ak
       ·simp at h
     ·simp at h
    ·simp at h
   ·simp at h
end
section
variable {P:Program} {F:Fence} {n:Nat} {b:Frame} {a:Act} {k:List Item} {cs:List Frame} {w:World} {Q:Exit→Act→World→Prop}
theorem ly {c:Code}:step P (lone (b.atR a (.code (.scope c)::k)) cs w)=.next (lone (b.atR a (.code c::.inScope c::k)) cs w) :=
 step_lone_go (by simp [stepG,stepG.exec,Frame.atR])
theorem Gf {c:Code}:step P (lone (b.atR a (.inScope c::k)) cs w)=.next (lone (b.atR a k) cs w) :=
 step_lone_go (by simp [stepG,stepG.exec,Frame.atR])
theorem BA {c:Code} (h:c.wpIn F n P Q a w) (aO:∀ l a w,¬ Q (.goto l) a w):(Code.scope c).wpIn F n P Q a w:=by
 intro b k cs DA af ai;have aQ:(lone (b.atR a (.code (.scope c)::k)) cs w).fenced P F:=fenced_calm af ai rfl;obtain ⟨e,ku,lD,a_,hL⟩:=h b (.inScope c::k) cs DA af ai;have aj:∀ id,exitTo id (.inScope c::k)=exitTo id k:=fun id=>by simp [exitTo]
 cases e with
 | normal=>exact ⟨.normal,ku,lD,a_,.head aQ ly (StepsIn.trans hL (.one (fenced_calm af ai rfl) Gf))⟩
 | exit id =>
   exact ⟨.exit id,ku,lD,a_,fun k' al=>.head aQ ly (hL.1 k' (by rw [aj];exact al)),
    fun nS al=>let ⟨k₁,ab,ae⟩:=hL.2 nS (by rw [aj];exact al);⟨k₁,ab,.head aQ ly ae⟩⟩
 | goto l=>exact absurd a_ (aO l ku lD)
 | ret=>exact ⟨_,ku,lD,a_,.of_steps (.one aQ ly) hL⟩
 | panic GI=>exact ⟨_,ku,lD,a_,.of_steps (.one aQ ly) hL⟩
 | outgrown=>exact ⟨_,ku,lD,a_,.of_steps (.one aQ ly) hL⟩
end
end Go.Proofs.YtkoioidpbbbaiaaGreat.Ab


namespace Go.Proofs.YtkoioidpbbbaiaaGreat.Ab
open Go
section
variable {P:Program} {B N:Nat} {J:List Nat} {w:World} {H:List ar} {aa:Nat→Option aH} {S:Nat→Nat→Prop}
theorem A9:∀ (T:List I) (bc:List Value) (bA:Nat→aH) (S:Nat→Nat→Prop),(∀ i j,bA i=bA j→i=j)→(∀ i id,bA i≠.obj id)→(∀ i id j,bA i≠.cell id j) →
  a5 bA aa J S w T bc→aK B aa J S w H →
  ∃ S':Nat→Nat→Prop,(∀ b o,S b o→S' b o)∧(∀ b o,S' b o→S b o∨∃ i,aa b=some (bA i))∧aK B aa J S' w H∧a5 bA aa J S' w (T.map I.settle) bc∧a5 bA aa J S' w (T.map I.view) bc:=by
 intro T
 induction T with
 | nil=>intro bc bA S _ _ _ ad ag;exact ⟨S,fun _ _ h=>h,fun _ _ h=>.inl h,ag,by simpa using ad,by simpa using ad⟩
 | cons u T a8 =>
   intro bc bA S aw b7 cj ad ag;obtain ⟨v,hX,rfl,ai,aq,ax⟩:=ad.g4;have first:∃ a4:Nat→Nat→Prop,(∀ b o,S b o→a4 b o)∧(∀ b o,a4 b o→S b o∨aa b=some (bA 0))∧aK B aa J a4 w H∧Rel J a4 w u.view v∧Rel J a4 w u.settle v∧aU aa J a4 w (bA 0) u.settle v:=by
    by_cases hu:u.cW=true
    ·have ah:u.settle=u:=by
      (cases u <;> try rfl);rename_i c n k;cases k <;> first | rfl | simp [I.cW] at hu
     exact ⟨S,fun _ _ h=>h,fun _ _ h=>.inl h,ag,ai.view hu,by rw [ah];exact ai,by rw [ah];exact aq⟩
    ·obtain ⟨cells,len,z,rfl⟩:∃ cells len z,u=.av cells len (.uniq z):=by
      unfold I.cW at hu;split at hu
      ·exact ⟨_,_,_,rfl⟩
      ·simp at hu
     obtain ⟨a4,aJ,aN,cb,aS,bj,eK⟩:=kg ag ai aq;exact ⟨a4,aJ,aN,ag.settle aJ (fun b o h=>(aN b o h).imp id fun h=>⟨_,h,b7 0,cj 0⟩) cb,aS,bj,eK⟩
   (obtain ⟨a4,aJ,aN,bW,dC,Dt,pW⟩:=first);have xa:a5 (fun i=>bA (i+1)) aa J a4 w T hX:=by
    refine ⟨ax.len,fun i bH bo hu ad=>(ax.rel i bH bo hu ad).mono (Ext.refl J) fun b o ah=>⟨aJ b o ah,rfl⟩,fun i bH bo hu ad=>?_⟩;refine (ax.own i bH bo hu ad).mono (Ext.refl J) (fun b o ah=>⟨aJ b o ah,rfl⟩) fun b af=>⟨af,rfl,fun o ah=>?_⟩;rcases aN b o ah with h | h
    ·exact h
    ·rw [af] at h;injection h with h;exact absurd (aw _ _ h) (by omega)
   obtain ⟨S',dD,dt,b9,dY,dg⟩:=a8 hX (fun i=>bA (i+1)) a4 (fun i j h=>by have:=aw _ _ h;omega) (fun i=>b7 (i+1)) (fun i=>cj (i+1)) xa bW;have cp:∀ b o,a4 b o→S' b o∧w.cell? ⟨b,o,none⟩=w.cell? ⟨b,o,none⟩:=fun b o ah=>⟨dD b o ah,rfl⟩;refine ⟨S',fun b o h=>dD b o (aJ b o h),fun b o h=>?_,b9,?_,?_⟩
   ·rcases dt b o h with h | ⟨i,h⟩
    ·exact (aN b o h).imp id fun h=>⟨0,h⟩
    ·exact .inr ⟨i+1,h⟩
   ·refine a5.cons (Dt.mono (Ext.refl J) cp) (pW.mono (Ext.refl J) cp fun b af=>⟨af,rfl,fun o h=>?_⟩) dY;rcases dt b o h with h | ⟨i,h⟩
    ·exact h
    ·rw [af] at h;injection h with h;exact absurd (aw _ _ h) (by omega)
   ·exact a5.cons (dC.mono (Ext.refl J) cp) (aU.b4 (I.dm _)) dg
theorem yJ (ag:aK B aa J S w H) (o:Obj):bl aa S w aa S (w.alloc o) :=
 ⟨rfl,rfl,rfl,by simp,fun b af _=>heap_alloc_old w o b af,fun b cz ah=>⟨ah,by obtain ⟨v,ad⟩:=ag.cd b cz ah;exact o5 o (mQ ad)⟩,fun _ _ ah=>.inl ah,fun _ af=>.inl af⟩
theorem Dw (ag:aK B aa J S w H) (o:Obj):aK B aa J S (w.alloc o) H:=by
 have az:=yJ ag o;refine ag.frame az (fun b l af _=>⟨af,heap_alloc_old w o b (ag.base b l af).2,fun _ h=>h⟩) (fun b cz ah=>?_) fun b l af=>?_
 ·obtain ⟨v,ad⟩:=ag.cd b cz ah;exact ⟨v,((az.set b cz ah).2).trans ad⟩
 ·have:=ag.base b l af;exact ⟨this.1,by simp;omega⟩
theorem zM (ag:aK B aa J S w H) {id b:Nat} {L:Loop} (fj:aa b=some (.obj id)) (fq:w.heap[b]?=some (.loop L)) (iH:Loop) :
  bl aa S w aa S (w.putObj b (.loop iH))∧aK B aa J S (w.putObj b (.loop iH)) (H.set id .dead)∧(w.putObj b (.loop iH)).heap[b]?=some (.loop iH):=by
 have af:b<w.heap.size:=(sJ.1 fq).1;have bR:(w.putObj b (.loop iH)).heap.size=w.heap.size:=by simp [World.putObj]
 have ie:∀ au,au≠b→(w.putObj b (.loop iH)).heap[au]?=w.heap[au]?:=fun au h=>World.putObj_heap_other h;have bJ:∀ au o,S au o→au≠b:=fun au o ah e=>by
  subst e;obtain ⟨v,ad⟩:=ag.cd au o ah;simp [World.cell?,fq] at ad
 have bz:∀ au o,au≠b→(w.putObj b (.loop iH)).cell? ⟨au,o,none⟩=w.cell? ⟨au,o,none⟩:=fun au o h=>by
  simp only [World.cell?,ie au h]
 have az:bl aa S w aa S (w.putObj b (.loop iH)):=by
  refine ⟨rfl,rfl,rfl,by omega,fun au bw aI=>ie au (fun e=>by subst e;rw [fj] at aI;cases aI),fun au o ah=>⟨ah,bz au o (bJ au o ah)⟩,fun _ _ h=>.inl h,fun _ h=>.inl h⟩
 refine ⟨az,⟨by simpa using ag.cK,fun bC o aq=>?_,fun au o ah=>?_,fun au l bw=>?_,by rw [bR];exact ag.c0⟩,World.putObj_heap_same af⟩
 ·by_cases cx:bC=id
  ·subst cx;(have aR:bC<H.length:=by have:=(sa.1 aq).1;simpa using this);rw [sj aR] at aq;cases aq;trivial
  ·rw [sd (Ne.symm cx)] at aq;refine (ag.obj bC o aq).frame (Ext.refl J) az.set fun au l bw ao=>⟨bw,ie au (fun e=>?_),fun _ h=>h⟩;subst e;rw [fj] at bw;cases bw;rcases ao with h | ⟨j,h⟩
   ·cases h;exact cx rfl
   ·cases h
 ·obtain ⟨v,ad⟩:=ag.cd au o ah;exact ⟨v,(bz au o (bJ au o ah)).trans ad⟩
 ·rw [bR];exact ag.base au l bw
theorem D4 (ag:aK B aa J S w H) {id b:Nat} {L:Loop} {st:LoopState} {cL:Option Code} {fn:FuncId} {T:List I} {bq:List Nat} {as ct:Code} {an:dw}
  (aE:H[id]?=some (.loop st cL fn T bq as ct an)) (af:J[id]?=some b) (fq:w.heap[b]?=some (.loop L)) (hA:LoopState) (hy:Option Code) :
  bl aa S w aa S (w.putObj b (.loop { L with state:=hA,pending:=hy }))∧aK B aa J S (w.putObj b (.loop { L with state:=hA,pending:=hy })) (H.set id (.loop hA hy fn T bq as ct an)) ∧
   (w.putObj b (.loop { L with state:=hA,pending:=hy })).heap[b]?=some (.loop { L with state:=hA,pending:=hy }):=by
 obtain ⟨lE,lF,au,oW,aA,aG,aT,br,bg,bd,dd,dx,dS⟩:=ag.obj id _ aE;rw [af] at aA;cases aA;rw [fq] at aT;cases aT;obtain ⟨az,b9,jQ⟩:=zM ag aG fq { L with state:=hA,pending:=hy };refine ⟨az,⟨by simpa using b9.cK,fun bC o aq=>?_,b9.cd,b9.base,b9.c0⟩,jQ⟩;by_cases cx:bC=id
 ·subst cx;rw [sj (sa.1 aE).1] at aq;cases aq;exact ⟨lE,lF,b,_,af,aG,jQ,rfl,rfl,trivial,dd,fun i u v hu ad=>⟨(dx i u v hu ad).1,(dx i u v hu ad).2.mono (Ext.refl J) az.set⟩,dS⟩
 ·refine b9.obj bC o ?_;rw [sd (Ne.symm cx)] at aq ⊢;exact aq
end
end Go.Proofs.YtkoioidpbbbaiaaGreat.Ab


namespace Go.Proofs.YtkoioidpbbbaiaaGreat.Ab
open Go
section
variable {P:Program} {B N:Nat} {J:List Nat} {w:World} {H:List ar} {aa:Nat→Option aH} {S:Nat→Nat→Prop}
theorem Gr {bA:Nat→aH} {us:List I} {xs:List Value} (ao:us.length=xs.length) (h:∀ (j:Nat) (u:I) (v:Value),us[j]?=some u→xs[j]?=some v→Rel J S w u v∧u.plain=true):a5 bA aa J S w us xs :=
 ⟨ao,fun j u v hu ad=>(h j u v hu ad).1,fun j u v hu ad=>aU.b4 (h j u v hu ad).2⟩
def xn (F:Fence) (P:Program) (Q:Exit→Act→World→Prop) (cL:Option Code) (aM:Act) (w':World):Prop:=match cL with
 | none=>Q .normal aM w'
 | some c=>c.wpIn F 0 P Q aM w'
theorem Aj {F:Fence} (bG:ek F) {C:b8} (bn:c6 P C) {T:List I} {a:Act} (aL:cA B N aa J S w ⟨T,H⟩ a) (mB:a5 .slot aa J S w (T.map I.view) a.tmps.toList)
  {lo k:Nat} {first cap:List I} {vs ws:Array Value} (aP:Rel J S w (.func k first cap) (.func (.func k) vs ws))
  {as ct:Code} {an:dw} {fn fn':FuncId} {bq:Array Tmp} (a7:codeOk an as=true) (a9:codeOk an ct=true) {r:I} {H':List ar}
  (h:C (.fn k) (first++[.yield H.length]++cap) (H++[.loop .ready none fn (T.map I.view) bq.toList as ct an]) lo=some (r,H'))
  {st:LoopState} {cL:Option Code} {gf:FuncId} {en:List I} {dO:List Nat} {gI gJ:Code} {gG:dw} (ao:H'[H.length]?=some (.loop st cL gf en dO gI gJ gG)) (cJ:st≠.busy)
  {bI:World} (nD:bl (dr aa) S w (dr aa) S bI) (bW:aK B (dr aa) J S bI H) {mark:List Deferred} {dfr:Nat} (hm:Marks N (dr aa) bI mark) (y':∀ d∈mark,∀ r,d.target=.collected r→aa r=none∧w.heap.size≤r) {Q:Exit→Act→World→Prop}
  (bp:∀ aM w',Step B N aa J S w ⟨T,H'.set H.length .dead⟩ aM w'→xn F P Q cL aM w') :
  CallsIn F 0 P k (vs++#[Value.func (.yield bI.heap.size) #[] #[]]++ws) (bI.alloc (.loop { state:=.ready,pending:=none,fn:=fn',tmps:=a.tmps,params:=bq,assign:=as,body:=ct,defers:=dfr }))
   (rangePost F 0 P bI.heap.size Q { a with defers:=mark++a.defers }):=by
 generalize fq:({ state:=.ready,pending:=none,fn:=fn',tmps:=a.tmps,params:=bq,assign:=as,body:=ct,defers:=dfr }:Loop)=L;have yK:=kz bW (.loop L) (.obj H.length);have Du:=nU bW (.loop L) (.obj H.length);have mF:Ext J (J++[bI.heap.size]):=Ext.append J _;have pn:∀ b o,S b o→S b o∧(bI.alloc (.loop L)).cell? ⟨b,o,none⟩=w.cell? ⟨b,o,none⟩:=(nD.trans yK).set;have Cz:=Du.push bI.heap.size (o:=.loop .ready none fn (T.map I.view) bq.toList as ct an)
  ⟨a7,a9,bI.heap.size,L,Ext.last bW _,by simp [lay],World.alloc_heap_new bI _,by rw [←fq],by rw [←fq],trivial,by rw [←fq];simpa using mB.len.symm,
   fun i u v hu ad=>by
    rw [←fq] at ad;refine ⟨?_,((mB.rel i u v hu (by simpa using ad)).mono mF pn)⟩;simp only [sk,r_] at hu;obtain ⟨x,_,rfl⟩:=hu
    exact I.dm x,by rw [←fq],by rw [←fq],by rw [←fq]⟩
 have ft:nm (lay (dr aa) bI.heap.size (.obj H.length)):=fun b i af=>by
  unfold lay at af;split at af
  ·simp at af
  ·exact C6 b i af
 have CH:a5 (fun i=>.arg i) (lay (dr aa) bI.heap.size (.obj H.length)) (J++[bI.heap.size]) S (bI.alloc (.loop L)) (first++[.yield H.length]++cap) (vs.toList++[Value.func (.yield bI.heap.size) #[] #[]]++ws.toList):=by
  cases aP with
  | func _ _ _ _ _ aJ aN bU b1 aS bj =>
    refine Gr (by simp [aJ,aN]) fun j u v hu ad=>?_;rcases sL j first.length with ab | ab
    ·rw [sx,sg ab] at hu;rw [sx,sg (by simp;omega)] at ad;exact ⟨(aS j u v hu (by simpa using ad)).mono mF pn,bU u (sv hu)⟩
    ·rw [sx,ss ab] at hu;rw [sx,ss (by simp;omega)] at ad;(have bR:vs.toList.length=first.length:=by simp [aJ]);rw [bR] at ad;rcases sL (j-first.length) 1 with ae | ae
     ·(have aQ:j-first.length=0:=by omega);rw [aQ] at hu ad;simp at hu ad;subst hu ad;exact ⟨.yield _ _ (Ext.last bW _),rfl⟩
     ·rw [ss (by simpa using ae)] at hu ad;exact ⟨(bj _ u v hu (by simpa using ad)).mono mF pn,b1 u (sv hu)⟩
 have dW:=(bn.ok h).2 B _ _ S _ _ Cz ft CH;have hL:(vs.toList++[Value.func (.yield bI.heap.size) #[] #[]]++ws.toList).toArray=vs++#[Value.func (.yield bI.heap.size) #[] #[]]++ws:=by
  apply Array.ext';simp
 rw [hL] at dW;refine bG.calls (CallsIn.mono dW fun e bX he=>?_);cases e with
 | panicked c=>exact he.elim
 | outgrown=>exact he.elim
 | returned x =>
   obtain ⟨bu,ck,bL,xi,ep,ch,_,_⟩:=he;obtain ⟨_,_,au,jx,aA,aG,aT,br,bg,_⟩:=ch.obj _ _ ao;have dI:ck[H.length]?=some bI.heap.size:=xi _ _ (Ext.last bW _);rw [dI] at aA;cases aA;obtain ⟨Ck,Cy,_⟩:=zM ch aG aT { jx with state:=.exhausted };have l5:bl (dr aa) S bI bu bL (bX.putObj bI.heap.size (.loop { jx with state:=.exhausted })):=(yK.trans ep).trans Ck;obtain ⟨q1,aW⟩:=z8 none aL (mF.trans xi) (nD.trans l5) Cy (.a0 undef) (aU.b4 rfl);refine ⟨jx.pending,_,run_endLoop aT (by rw [br];exact cJ),?_⟩;rw [←bg] at bp;refine bp _ _ ⟨_,ck,bL,mF.trans xi,q1,⟨aW.T,aW.H,aW.M.1,fun d a1=>?_,List.pairwise_append.2 ⟨hm.2.2,aW.M.2.2,fun d a1 g' jO e=>?_⟩⟩⟩
   rotate_left
   ·obtain ⟨hT,da,_⟩:=hm.2.1 d a1;obtain ⟨aS,b7,_,_,Et⟩:=aL.M.2.1 g' jO;have:=(y' d a1 hT da).2;have:=(sJ.1 Et).1;rw [da,b7] at e;cases e;omega
   rcases List.mem_append.1 a1 with a1 | a1
   ·obtain ⟨hT,da,db,j4,k5⟩:=hm.2.1 d a1;have dC:hT<bI.heap.size:=(sJ.1 k5).1;refine ⟨hT,da,db,?_,(l5.cE hT dC j4).trans k5⟩;have aQ:=(y' d a1 hT da).1;have ae:bu hT=none:=by
     cases bP:bu hT with
     | none=>rfl
     | some l =>
       rcases l5.own hT (by simp [bP]) with bQ | bQ
       ·exact absurd j4 bQ
       ·omega
    simp [back,aQ,ae]
   ·exact aW.M.2.1 d a1
end
end Go.Proofs.YtkoioidpbbbaiaaGreat.Ab


namespace Go.Proofs.YtkoioidpbbbaiaaGreat.Ab
open Go
def toExit:cQ→Exit
 | .normal=>.normal
 | .ret=>.ret
 | .exit id=>.exit id
def jw (F:Fence) (rl:Option Nat) (J:List Nat):Prop:=(rl=none∧F=Fence.wide)∨∃ l b,rl=some l∧J[l]?=some b∧F=Fence.wide.inRound b
theorem jw.kB {F:Fence} {rl:Option Nat} {J:List Nat} (h:jw F rl J):ek F:=by
 rcases h with ⟨_,rfl⟩ | ⟨l,b,_,_,rfl⟩
 ·exact .inl rfl
 ·exact .inr ⟨b,rfl⟩
theorem jw.ext {F:Fence} {rl:Option Nat} {J bV:List Nat} (h:jw F rl J) (bN:Ext J bV):jw F rl bV:=by
 rcases h with h | ⟨l,b,ab,ae,aF⟩
 ·exact .inl h
 ·exact .inr ⟨l,b,ab,bN _ _ ae,aF⟩
theorem kA {p:Nat→Prop} (h:∃ n,p n):∃ n,p n∧∀ m,p m→n≤m:=by
 obtain ⟨n,aI⟩:=h
 induction n using Nat.strongRecOn with
 | _ n a8 =>
   by_cases ao:∃ m,m<n∧p m
   ·obtain ⟨m,hm,aB⟩:=ao;exact a8 m hm aB
   ·exact ⟨n,aI,fun m hm=>Nat.le_of_not_lt fun aR=>ao ⟨m,aR,hm⟩⟩
section
variable {P:Program}
theorem D3 {F:Fence} {c:Code} {f:a6→Option (cQ×a6)} {e:cQ} {aD:a6} {Q:Exit→Act→World→Prop} {B N:Nat} {J:List Nat} {w:World} {aa:Nat→Option aH} {S:Nat→Nat→Prop} {s:a6} {a:Act} {n:Nat}
  (h:iq f n s=some (e,aD)) (aL:cA B N aa J S w s a) (bp:∀ aM w',Step B N aa J S w aD aM w'→Q (toExit e) aM w')
  (kG:∀ (s1:a6) (e1:cQ) (s2:a6),f s1=some (e1,s2)→∀ (cM:Exit→Act→World→Prop) (aA:Act) (bI:World),(∀ l a w,cM (.goto l) a w→Q (.goto l) a w)→Step B N aa J S w s1 aA bI →
   (∀ aM w',Step B N aa J S w s2 aM w'→cM (toExit e1) aM w')→c.wpIn F 0 P cM aA bI):(Code.loop c).wpIn F 0 P Q a w:=by
 classical
 let Inv:Nat→Act→World→Prop:=fun n aM w'=>∃ s1,iq f n s1=some (e,aD)∧Step B N aa J S w s1 aM w'
 let gz:Act→World→Nat:=fun aM w'=>if h:∃ n,Inv n aM w' then Classical.choose (kA h) else 0
 have mG:∀ aM w',(∃ n,Inv n aM w')→Inv (gz aM w') aM w'∧∀ m,Inv m aM w'→gz aM w'≤m:=fun aM w' h=>by
  have:gz aM w'=Classical.choose (kA h):=by simp only [gz,dif_pos h]
  rw [this];exact uy (kA h)
 refine wpIn_loop (fun aM w'=>∃ n,Inv n aM w') gz ⟨n,s,h,Step.here aL⟩ fun aA bI kE=>?_;obtain ⟨⟨s1,ab,gP⟩,_⟩:=mG aA bI kE;cases aI:gz aA bI with
 | zero=>rw [aI] at ab;simp [iq] at ab
 | succ m =>
   rw [aI] at ab;simp only [iq] at ab;split at ab
   ·rename_i s2 pB;refine kG s1 .normal s2 pB _ aA bI (fun l a w h=>h) gP fun aM w' dN=>?_;have hinv:Inv m aM w':=⟨s2,ab,dN⟩;exact ⟨⟨m,hinv⟩,Nat.lt_succ_of_le ((mG aM w' ⟨m,hinv⟩).2 m hinv)⟩
   ·rename_i ft;refine kG s1 e aD ab _ aA bI (fun l a w h=>h) gP fun aM w' dN=>?_;cases e with
    | normal=>exact absurd ab (ft aD)
    | ret=>exact bp aM w' dN
    | exit id=>exact bp aM w' dN
theorem nF {C:b8} (bn:c6 P C) (eG:P.follows .mixedOrders=true) {A:dw} {fn:FuncId} {lo d:Nat} {rl:Option Nat} :
  ∀ (c:Code) (a2:Nat) (s:a6) (e:cQ) (aD:a6),exec P A C fn lo d rl c a2 s=some (e,aD)→codeOk A c=true →
    ∀ (F:Fence) (Q:Exit→Act→World→Prop) (B N:Nat) (J:List Nat) (w:World) (aa:Nat→Option aH) (S:Nat→Nat→Prop) (a:Act),jw F rl J→(∀ l a w,¬ Q (.goto l) a w) →
      cA B N aa J S w s a→(∀ aM w',Step B N aa J S w aD aM w'→Q (toExit e) aM w')→c.wpIn F 0 P Q a w:=by
 intro c
 induction c with
 | skip =>
   intro a2 s e aD h _ F Q B N J w aa S a bG aO aL bp;simp only [exec,Option.some.injEq,Prod.mk.injEq] at h;obtain ⟨rfl,rfl⟩:=h;exact wpIn_skip (bp a w (Step.here aL))
 | label l =>
   intro a2 s e aD h _ F Q B N J w aa S a bG aO aL bp;simp only [exec,Option.some.injEq,Prod.mk.injEq] at h;obtain ⟨rfl,rfl⟩:=h;exact wpIn_label (bp a w (Step.here aL))
 | ret =>
   intro a2 s e aD h _ F Q B N J w aa S a bG aO aL bp;simp only [exec,Option.some.injEq,Prod.mk.injEq] at h;obtain ⟨rfl,rfl⟩:=h;exact wpIn_ret (bp a w (Step.here aL))
 | exit id =>
   intro a2 s e aD h _ F Q B N J w aa S a bG aO aL bp;simp only [exec,Option.some.injEq,Prod.mk.injEq] at h;obtain ⟨rfl,rfl⟩:=h;exact wpIn_exit (bp a w (Step.here aL))
 | goto l=>intro a2 s e aD h;simp [exec] at h
 | refuse y=>intro a2 s e aD h;simp [exec] at h
 | region id ops draw =>
   intro a2 s e aD h bT F Q B N J w aa S a bG aO aL bp;simp only [exec] at h;split at h
   ·cases h
   rename_i kV;simp only [r_,Prod.mk.injEq] at h;obtain ⟨s1,h,rfl,rfl⟩:=h;refine xO bG.kB eG bn (fun a1=>?_) h (aL.cE _ _) bp;simp only [codeOk,xN,kV] at bT;simpa [a1] using bT
 | seq x y n1 xm =>
   intro a2 s e aD h bT F Q B N J w aa S a bG aO aL bp;simp only [codeOk,sn] at bT;simp only [exec] at h;split at h
   ·rename_i s1 ab;refine wpIn_seq (n1 _ _ _ _ ab bT.1 F _ B N J w aa S a bG (fun l a w=>aO l a w) aL fun aM w' ah=>?_);obtain ⟨b5,cZ,a4,aJ,aN,cg⟩:=ah;exact xm _ _ _ _ h bT.2 F Q B N cZ w' b5 a4 aM (bG.ext aJ) aO cg fun g7 hB dN=>bp g7 hB (dN.trans aJ aN)
   ·rename_i ft;refine wpIn_seq (n1 _ _ _ _ h bT.1 F _ B N J w aa S a bG (fun l a w=>aO l a w) aL fun aM w' ah=>?_);cases e with
    | normal=>exact absurd h (ft aD)
    | ret=>exact bp aM w' ah
    | exit id=>exact bp aM w' ah
 | cond x t f n0 nZ =>
   intro a2 s e aD h bT F Q B N J w aa S a bG aO aL bp;simp only [codeOk,sn] at bT;simp only [exec] at h;have ai:=aL.az x;split at h
   ·rename_i af;rw [af] at ai;exact wpIn_cond_true ai.h6 (n0 _ _ _ _ h bT.1 F Q B N J w aa S a bG aO aL bp)
   ·rename_i af;rw [af] at ai;exact wpIn_cond_false ai.h6 (nZ _ _ _ _ h bT.2 F Q B N J w aa S a bG aO aL bp)
   ·simp at h
 | block id c a8 =>
   intro a2 s e aD h bT F Q B N J w aa S a bG aO aL bp;simp only [exec] at h;refine wpIn_block ?_;split at h
   ·rename_i bC s1 ab;refine a8 _ _ _ _ ab bT F _ B N J w aa S a bG (fun l a w=>aO l a w) aL fun aM w' ah=>?_;by_cases aE:bC=id
    ·simp only [aE,if_true,Option.some.injEq,Prod.mk.injEq] at h;obtain ⟨rfl,rfl⟩:=h;simp only [toExit,Exit.inBlock,aE,if_true];exact bp aM w' ah
    ·simp only [aE,if_false,Option.some.injEq,Prod.mk.injEq] at h;obtain ⟨rfl,rfl⟩:=h;simp only [toExit,Exit.inBlock,aE,if_false];exact bp aM w' ah
   ·rename_i ft;refine a8 _ _ _ _ h bT F _ B N J w aa S a bG (fun l a w=>aO l a w) aL fun aM w' ah=>?_;cases e with
    | normal=>exact bp aM w' ah
    | ret=>exact bp aM w' ah
    | exit bC=>exact absurd h (ft bC aD)
 | scope c a8 =>
   intro a2 s e aD h bT F Q B N J w aa S a bG aO aL bp;simp only [exec] at h;exact BA (a8 _ _ _ _ h bT F Q B N J w aa S a bG aO aL bp) aO
 | loop c a8 =>
   intro a2 s e aD h bT F Q B N J w aa S a bG aO aL bp;simp only [exec] at h;refine D3 h aL bp fun s1 e1 s2 ab cM aA bI Dr gP pj=>?_;obtain ⟨b5,cZ,a4,aJ,aN,cg⟩:=gP;exact a8 _ _ _ _ ab bT F cM B N cZ bI b5 a4 aA (bG.ext aJ) (fun l a w a_=>aO l a w (Dr l a w a_)) (cg.cE _ _) fun aM w' dN=>pj aM w' (dN.trans aJ aN)
 | rangeFunc g bq as ct fk fw =>
   intro a2 s e aD h bT F Q B N J w aa S a bG aO aL bp;simp only [codeOk,sn] at bT;simp only [exec] at h;split at h
   ·(rename_i k first cap hg mm);have zm:=aL.az g;rw [mm] at zm;split at h
    ·rename_i r H' ak;split at h
     ·rename_i st cL gf en dO gI gJ gG ao;split at h
      ·simp at h
      ·rename_i cJ;have pj:∀ aM w',Step B N aa J S w ⟨s.T.map I.settle,H'.set s.H.length .dead⟩ aM w'→xn F P Q cL aM w':=fun aM w' ah=>by
        split at h
        ·simp only [Option.some.injEq,Prod.mk.injEq] at h;obtain ⟨rfl,rfl⟩:=h;exact bp aM w' ah
        ·simp only [Option.some.injEq,Prod.mk.injEq] at h;obtain ⟨rfl,rfl⟩:=h;exact wpIn_ret (bp aM w' ah)
        ·simp only [Option.some.injEq,Prod.mk.injEq] at h;obtain ⟨rfl,rfl⟩:=h;exact wpIn_exit (bp aM w' ah)
        ·simp at h
       obtain ⟨a4,dD,dt,bW,kF,po⟩:=A9 s.T a.tmps.toList .slot S (fun i j h=>by cases h;rfl) (fun i id=>by simp) (fun i id j=>by simp) aL.T aL.H;have dB:bl aa S w aa a4 w:=bl.settle dD fun b o h=>(dt b o h).imp id fun ⟨i,h⟩=>⟨_,h⟩;have cg:cA B N aa J a4 w ⟨s.T.map I.settle,s.H⟩ a:=⟨kF,bW,aL.M.az dB⟩;have kW:(s.T.map I.settle).map I.view=s.T.map I.view:=by
        rw [List.map_map];apply List.map_congr_left;intro u _;exact yi u
       (have mB:a5 .slot aa J a4 w ((s.T.map I.settle).map I.view) a.tmps.toList:=by rw [kW];exact po);rw [←kW] at ak;have y0:∀ aM w',Step B N aa J a4 w ⟨s.T.map I.settle,H'.set s.H.length .dead⟩ aM w'→xn F P Q cL aM w':=fun aM w' ah=>pj aM w' (Step.trans (Ext.refl J) dB ah);have dC:=zm.mono (Ext.refl J) (S':=a4) (w':=w) (fun b o h=>⟨dD b o h,rfl⟩);obtain ⟨⟨f0,CU,iS,Di⟩,_⟩:=bn.ok ak;have y1:aa w.heap.size=none:=by
        cases aj:aa w.heap.size with
        | none=>rfl
        | some l=>have:=(aL.H.base _ l aj).2;omega
       generalize C3:a.eval g=GK at dC;cases dC with
       | func _ _ _ vs ws aJ aN bU b1 aS bj =>
         refine wpIn_rangeFunc fun fn' _=>?_;have kT:∀ (l:Nat) (w0:World),(resolve a.eval (rangeCall g l) 0).run P w0=.ok { target:=.fn (.func k) ws,args:=vs++#[Value.func (.yield l) #[] #[]] } w0:=fun l w0=>by
          have:(#[Operand.const (Value.func (.yield l) #[] #[])]:Array Operand).map a.eval=#[Value.func (.yield l) #[] #[]]:=by simp [Act.eval]
          simp only [resolve,rangeCall,C3,Deferred.ofValue,this,Sem.run_pure]
         have hinv:∀ (l:Nat) (w0:World),(invoke (.fn (.func k) ws) (vs++#[Value.func (.yield l) #[] #[]])).run P w0=.ok (.enter k (vs++#[Value.func (.yield l) #[] #[]]++ws)) w0:=fun l w0=>by
          simp only [invoke,AV CU iS Di]
         (have pF:Rel J a4 w (.func k first cap) (.func (.func k) vs ws):=.func k first cap vs ws aJ aN bU b1 aS bj);(have y3:F.depth.isSome=true→1≤0:=fun iT=>by rw [bG.kB.depth] at iT;cases iT);rcases bG with ⟨rfl,rfl⟩ | ⟨cy,de,rfl,af,rfl⟩
         ·have ch:=mA cg.H;have dW:=Aj (.inl rfl) bn cg mB pF bT.1 bT.2 ak ao cJ (yJ ch (.deferred (some []))) (Dw ch (.deferred (some []))) (fn':=fn') (dfr:=w.heap.size)
           (mark:=[{ target:=.collected w.heap.size,args:=#[] }]) ⟨by have:=aL.M.1;simp;omega,fun d a1=>by
            simp only [sS] at a1;subst a1;exact ⟨w.heap.size,rfl,aL.M.1,nM y1,World.alloc_heap_new w _⟩,List.pairwise_singleton _ _⟩ (fun d a1 hT nT=>by
            simp only [sS] at a1;subst a1
            cases nT;exact ⟨y1,sc _⟩) y0
          (have bR:(w.alloc (.deferred (some []))).heap.size=w.heap.size+1:=by simp);rw [bR] at dW;exact ⟨_,_,_,_,_,k,_,_,run_enterLoop_outer fn' a.tmps bq as ct,kT _ _,fun _ _=>trivial,hinv _ _,y3,dW⟩
         ·have ch:=mA cg.H;simp only [inLoop] at hg;split at hg
          ·rename_i bD;obtain ⟨_,_,au,oW,aA,aG,aT,_⟩:=aL.H.obj cy _ bD;rw [af] at aA;cases aA;have dW:=Aj (.inr ⟨de,rfl⟩) bn cg mB pF bT.1 bT.2 ak ao cJ (bl.refl _ _ _) ch (fn':=fn') (dfr:=oW.defers)
            (mark:=[]) ⟨aL.M.1,fun d a1=>by simp at a1,List.Pairwise.nil⟩ (fun d a1=>by simp at a1) y0
           exact ⟨_,_,_,_,_,k,_,_,run_enterLoop_inner aT fn' a.tmps bq as ct,kT _ _,fun _ _=>trivial,hinv _ _,y3,dW⟩
          ·simp at hg
     ·simp at h
    ·simp at h
   ·simp at h
end
end Go.Proofs.YtkoioidpbbbaiaaGreat.Ab


namespace Go.Proofs.YtkoioidpbbbaiaaGreat.Ab
open Go
def hY (aa:Nat→Option aH):Nat→Option aH:=fun b=>match aa b with
 | some (.arg i)=>some (.slot i)
 | some (.obj id)=>some (.obj id)
 | some (.cell id j)=>some (.cell id j)
 | _=>none
def lh (t:Nat) (aa:Nat→Option aH):Nat→Option aH:=fun b=>match aa b with
 | some (.slot i)=>if i=t then some .res else none
 | some (.obj id)=>some (.obj id)
 | some (.cell id j)=>some (.cell id j)
 | _=>none
section
variable {P:Program} {B N:Nat} {J:List Nat} {w:World} {H:List ar} {aa:Nat→Option aH} {S:Nat→Nat→Prop}
theorem relabel {ay:Nat→Option aH} (ag:aK B aa J S w H) (ab:∀ b,aa b=none→ay b=none) (ae:∀ b l,aa b=some l→((∃ id,l=.obj id)∨∃ id j,l=.cell id j)→ay b=some l) :
  bl aa S w ay S w∧aK B ay J S w H:=by
 have aI:∀ b,ay b≠none→aa b≠none:=fun b h aQ=>h (ab b aQ);refine ⟨⟨rfl,rfl,rfl,sc _,fun _ _ _=>rfl,fun _ _ h=>⟨h,rfl⟩,fun _ _ h=>.inl h,fun b h=>.inl (aI b h)⟩,⟨ag.cK,fun id o aq=>?_,ag.cd,fun b l af=>?_,ag.c0⟩⟩
 ·refine (ag.obj id o aq).frame (Ext.refl J) (fun _ _ h=>⟨h,rfl⟩) fun b l af ao=>⟨ae b l af ?_,rfl,fun _ h=>h⟩;rcases ao with rfl | ⟨j,rfl⟩
  ·exact .inl ⟨id,rfl⟩
  ·exact .inr ⟨id,j,rfl⟩
 ·cases h:aa b with
  | none=>rw [ab b h] at af;cases af
  | some l'=>exact ag.base b l' h
theorem oP (ag:aK B aa J S w H):bl aa S w (hY aa) S w∧aK B (hY aa) J S w H :=
 relabel ag (fun b h=>by simp [hY,h]) fun b l h ao=>by
  rcases ao with ⟨id,rfl⟩ | ⟨id,j,rfl⟩ <;> simp [hY,h]
theorem ED (t:Nat) (ag:aK B aa J S w H):bl aa S w (lh t aa) S w∧aK B (lh t aa) J S w H :=
 relabel ag (fun b h=>by simp [lh,h]) fun b l h ao=>by
  rcases ao with ⟨id,rfl⟩ | ⟨id,j,rfl⟩ <;> simp [lh,h]
theorem yd (ag:aK B aa J S w H) {args:List I} {vs:List Value} (ad:a5 (fun i=>.arg i) aa J S w args vs) (n:Nat) :
  cA B w.heap.size (hY aa) J S w ⟨args++List.replicate (n-args.length) .a0,H⟩ { tmps:=vs.toArray++Array.replicate (n-vs.toArray.size) undef,defers:=[] }:=by
 have ao:=ad.len;refine ⟨?_,(oP ag).2,sc _,fun d a1=>by simp at a1,List.Pairwise.nil⟩;have xd:(vs.toArray++Array.replicate (n-vs.toArray.size) undef).toList=vs++List.replicate (n-vs.length) undef:=by simp
 simp only [xd];have key:∀ (i:Nat) (u:I) (v:Value),(args++List.replicate (n-args.length) .a0)[i]?=some u→(vs++List.replicate (n-vs.length) undef)[i]?=some v →
   Rel J S w u v∧aU (hY aa) J S w (.slot i) u v:=fun i u v hu aj=>by
  rcases sL i args.length with ab | ab
  ·rw [sg ab] at hu;rw [sg (by omega)] at aj;exact ⟨ad.rel i u v hu aj,(ad.own i u v hu aj).mono (Ext.refl J) (fun _ _ h=>⟨h,rfl⟩) fun b af=>⟨by simp [hY,af],rfl,fun _ h=>h⟩⟩
  ·rw [ss ab] at hu;rw [List.getElem?_replicate] at hu;split at hu
   ·cases hu;exact ⟨.a0 v,aU.b4 rfl⟩
   ·simp at hu
 exact ⟨by simp [ao],fun i u v hu aj=>(key i u v hu aj).1,fun i u v hu aj=>(key i u v hu aj).2⟩
theorem n5 {fn:Func} {tmps:Array Value} {R:Ending→World→Prop} {lH:Nat→Option aH} {S0:Nat→Nat→Prop} {w0:World} :
  ∀ (fG:List Deferred) (w:World),(∀ d∈fG,∃ r,d.target=.collected r∧w0.heap.size≤r∧aa r=none∧w.heap[r]?=some (.deferred (some [])))→fG.Pairwise (fun a b=>a.target≠b.target)→bl lH S0 w0 aa S w→aK B aa J S w H →
    (∀ w',(∀ b l,aa b=some l→w'.heap[b]?=w.heap[b]?)→(∀ b o,S b o→w'.cell? ⟨b,o,none⟩=w.cell? ⟨b,o,none⟩)→bl lH S0 w0 aa S w'→aK B aa J S w' H→∃ v,(results fn tmps).run P w'=.ok v w'∧R (.returned v) w')→LeavesInM Fence.wide 0 P fn tmps R fG .returning w
 | [],w,_,_,az,ag,jJ=>jJ w (fun _ _ _=>rfl) (fun _ _ _=>rfl) az ag
 | d::fG,w,a1,aB,az,ag,jJ=>by
   obtain ⟨r,ab,ae,aF,ba⟩:=a1 d (by simp);have ai:r<w.heap.size:=(sJ.1 ba).1;(have bR:(w.putObj r (.deferred none)).heap.size=w.heap.size:=by simp [World.putObj]);have ie:∀ b,b≠r→(w.putObj r (.deferred none)).heap[b]?=w.heap[b]?:=fun b h=>World.putObj_heap_other h;have bJ:∀ b o,S b o→b≠r:=fun b o ah e=>by
    subst e;obtain ⟨v,ad⟩:=ag.cd b o ah;simp [World.cell?,ba] at ad
   have bz:∀ b o,b≠r→(w.putObj r (.deferred none)).cell? ⟨b,o,none⟩=w.cell? ⟨b,o,none⟩:=fun b o h=>by
    simp only [World.cell?,ie b h]
   (have kK:∀ b l,aa b=some l→b≠r:=fun b l h e=>by subst e;rw [aF] at h;cases h);have dB:bl lH S0 w0 aa S (w.putObj r (.deferred none)):=by
    refine ⟨az.os,az.tape,az.output,by rw [bR];exact az.size,fun b af aI=>?_,fun b o ah=>?_,az.fresh,az.own⟩
    ·rw [ie b (by omega)];exact az.cE b af aI
    ·obtain ⟨aJ,aN⟩:=az.set b o ah;exact ⟨aJ,(bz b o (bJ b o aJ)).trans aN⟩
   have cp:∀ b o,S b o→S b o∧(w.putObj r (.deferred none)).cell? ⟨b,o,none⟩=w.cell? ⟨b,o,none⟩:=fun b o ah=>⟨ah,bz b o (bJ b o ah)⟩;have gL:aK B aa J S (w.putObj r (.deferred none)) H :=
    ⟨ag.cK,fun id o aq=>(ag.obj id o aq).frame (Ext.refl J) cp fun b l af _=>⟨af,ie b (kK b l af),fun _ h=>h⟩,fun b o ah=>by
     obtain ⟨v,ad⟩:=ag.cd b o ah
     exact ⟨v,(bz b o (bJ b o ah)).trans ad⟩,fun b l af=>by rw [bR];exact ag.base b l af,by rw [bR];exact ag.c0⟩
   refine ⟨by simp,.inl ⟨r,_,ab,run_takeDeferred ba,?_⟩⟩;have zi:=tB.1 aB;refine n5 fG _ (fun g' jO=>?_) zi.2 dB gL (fun w' dj aJ aN cb=>jJ w' (fun b l h=>(dj b l h).trans (ie b (kK b l h))) (fun b o h=>(aJ b o h).trans (bz b o (bJ b o h))) aN cb)
   ·obtain ⟨r',q1,aW,cF,dG⟩:=a1 g' (by simp [jO])
    have:r'≠r:=fun e=>zi.1 g' jO (by rw [ab,q1,e])
    exact ⟨r',q1,aW,cF,(ie r' this).trans dG⟩
end
end Go.Proofs.YtkoioidpbbbaiaaGreat.Ab


namespace Go.Proofs.YtkoioidpbbbaiaaGreat.Ab
open Go
section
variable {P:Program} {B N:Nat} {J:List Nat} {w:World} {H:List ar} {aa:Nat→Option aH} {S:Nat→Nat→Prop}
theorem pf {bA:Nat→aH} {T:List I} {bc:Array Value} (b0:a5 bA aa J S w T bc.toList) (t:Nat):Rel J S w (df T t) (bc.getD t undef)∧aU aa J S w (bA t) (df T t) (bc.getD t undef):=by
 rw [gg,sw];cases h:T[t]? with
 | none=>exact ⟨.a0 _,aU.b4 rfl⟩
 | some u =>
   have ao:=b0.len;have aR:t<T.length:=(sa.1 h).1;(have mv:t<bc.size:=by rw [←sZ,←ao];exact aR);(have aj:bc.toList[t]?=some (bc.getD t undef):=by simp [su,mv]);exact ⟨b0.rel t u _ h aj,b0.own t u _ h aj⟩
theorem m6 (ag:aK B aa J S w H) {T:List I} {bc:Array Value} (b0:a5 .slot aa J S w T bc.toList) {g:ResultVar→Sem Value} (cf:∀ t,g (.tmp t)=pure (bc.getD t undef))
  (ca:∀ a t,g (.cell a t)=do loadVar t (←asAddr (bc.getD a undef))):∀ (rs:List ResultVar) (vs:List I),gX P H T rs=some vs →
  ∃ xs,(rs.mapM g).run P w=.ok xs w∧vs.length=xs.length∧∀ (j:Nat) (u:I) (x:Value),vs[j]?=some u→xs[j]?=some x→Rel J S w u x∧((u.plain=true∧True)∨∃ t,(u=df T t∧x=bc.getD t undef)∧aU aa J S w (.slot t) u x)
 | [],vs,h=>by
   simp only [gX,Option.some.injEq] at h;subst h;exact ⟨[],by simp,rfl,by simp⟩
 | .tmp t::r,vs,h=>by
   simp only [gX,r_] at h;obtain ⟨cY,h,rfl⟩:=h;obtain ⟨xs,q1,aW,cF⟩:=m6 ag b0 cf ca r cY h;obtain ⟨aS,bj⟩:=pf b0 t;refine ⟨bc.getD t undef::xs,by rw [vm];simp [cf,q1],by simp [aW],fun j u x hu aj=>?_⟩;cases j with
   | zero=>simp only [tw,Option.some.injEq] at hu aj;subst hu aj;exact ⟨aS,.inr ⟨t,⟨rfl,rfl⟩,bj⟩⟩
   | succ j=>exact cF j u x (by simpa using hu) (by simpa using aj)
 | .cell a t::r,vs,h=>by
   simp only [gX] at h;split at h
   ·rename_i v cY ad fv;simp only [Option.some.injEq] at h;subst h;obtain ⟨xs,q1,aW,cF⟩:=m6 ag b0 cf ca r cY fv;have ai:=(pf b0 a).1;obtain ⟨x,aJ,aN,cb⟩:=jk ag ad ai;have aB:∃ lP,bc.getD a undef=.pointer (some lP):=by
     unfold dy at ad;generalize bc.getD a undef=Hd at ai ⊢;split at ad
     ·rename_i heq;rw [heq] at ai;cases ai;exact ⟨_,rfl⟩
     ·rename_i heq;rw [heq] at ai;cases ai;exact ⟨_,rfl⟩
     ·simp at ad
    obtain ⟨lP,aB⟩:=aB;rw [aB] at aJ;(have DQ:(loadVar t lP).run P w=.ok x w:=by simpa [Instr.loadAt,Instr.sureAddr] using aJ);refine ⟨x::xs,by rw [vm];simp [ca,aB,asAddr,DQ,q1],by simp [aW],fun j u y hu aj=>?_⟩;cases j with
    | zero=>simp only [tw,Option.some.injEq] at hu aj;subst hu aj;exact ⟨aN,.inl ⟨cb,trivial⟩⟩
    | succ j=>exact cF j u y (by simpa using hu) (by simpa using aj)
   ·simp at h
theorem xS (ag:aK B aa J S w H) {T:List I} {bc:Array Value} (b0:a5 .slot aa J S w T bc.toList) {fn:Func} {vs:List I} (h:gX P H T fn.results.toList=some vs) :
  ∃ v,(results fn bc).run P w=.ok v w∧aZ B aa J S w H (jg vs) v w:=by
 have run:∀ xs,(fn.results.toList.mapM (fun (x:ResultVar)=>match x with | .tmp t=>(pure (bc.getD t undef):Sem Value) | .cell a t=>do loadVar t (←asAddr (bc.getD a undef)))).run P w=.ok xs w →
   (results fn bc).run P w=.ok (if h:xs.toArray.size=1 then xs.toArray[0] else .tuple xs.toArray) w:=fun xs aj=>by
  have aO:results fn bc=(do
    let vs ←fn.results.mapM (fun (x:ResultVar)=>match x with | .tmp t=>(pure (bc.getD t undef):Sem Value) | .cell a t=>do loadVar t (←asAddr (bc.getD a undef)))
    pure (if h:vs.size=1 then vs[0] else .tuple vs)):=by
   unfold results;congr 1
  rw [aO,Array.mapM_eq_mapM_toList];simp only [Sem.run_bind,Sem.run_map,aj,Result.andThen_ok,Sem.run_pure]
 match vs,h with
 | [u],h =>
   obtain ⟨xs,q1,aW,cF⟩:=m6 ag b0 (g:=fun x=>match x with | .tmp t=>pure (bc.getD t undef) | .cell a t=>do loadVar t (←asAddr (bc.getD a undef))) (fun _=>rfl) (fun _ _=>rfl) _ _ h
   match xs,aW with
   | [x],_ =>
     obtain ⟨aS,bj⟩:=cF 0 u x rfl rfl;refine ⟨x,by rw [run _ q1];rfl,?_⟩;rcases bj with ⟨aB,_⟩ | ⟨t,_,aq⟩
     ·exact aZ.same ag aS aB
     ·obtain ⟨az,b9⟩:=ED t ag;exact ⟨lh t aa,J,S,Ext.refl J,az,b9,aS,aq.mono (Ext.refl J) (fun _ _ h=>⟨h,rfl⟩) fun b af=>⟨by simp [lh,af],rfl,fun _ h=>h⟩⟩
 | [],h =>
   obtain ⟨xs,q1,aW,cF⟩:=m6 ag b0 (g:=fun x=>match x with | .tmp t=>pure (bc.getD t undef) | .cell a t=>do loadVar t (←asAddr (bc.getD a undef))) (fun _=>rfl) (fun _ _=>rfl) _ _ h
   match xs,aW with
   | [],_=>exact ⟨.tuple #[],by rw [run _ q1];rfl,aZ.same ag (.tuple [] #[] rfl (by simp) (by simp)) rfl⟩
 | fA::gv::us,h =>
   obtain ⟨a4,dD,dt,bW,kF,po⟩:=A9 T bc.toList .slot S (fun i j h=>by cases h;rfl) (fun i id=>by simp) (fun i id j=>by simp) b0 ag;have dB:bl aa S w aa a4 w:=bl.settle dD fun b o h=>(dt b o h).imp id fun ⟨i,h⟩=>⟨_,h⟩;obtain ⟨xs,q1,aW,cF⟩:=m6 ag b0 (g:=fun x=>match x with | .tmp t=>pure (bc.getD t undef) | .cell a t=>do loadVar t (←asAddr (bc.getD a undef))) (fun _=>rfl) (fun _ _=>rfl) _ _ h
   refine ⟨.tuple xs.toArray,by
    rw [run _ q1]
    have:¬ xs.toArray.size=1:=by simp at aW ⊢;omega
    rw [dif_neg this],aZ.after (Ext.refl J) dB (aZ.same bW (.tuple _ _ (by simp at aW ⊢;omega) ?_ ?_) rfl)⟩
   ·intro y aY;obtain ⟨x,_,rfl⟩:=sD.1 aY;exact I.dm x
   ·intro j y x aY aj;simp only [sk,r_] at aY;obtain ⟨u,hu,rfl⟩:=aY;obtain ⟨aS,bj⟩:=cF j u x hu (by simpa using aj);rcases bj with ⟨aB,_⟩ | ⟨t,⟨rfl,rfl⟩,_⟩
    ·rw [I.kp aB];exact aS.mono (Ext.refl J) fun b o h=>⟨dD b o h,rfl⟩
    ·have:=(pf po t).1;have ad:df (T.map I.view) t=(df T t).view:=by
      rw [gg,gg,sw,sw,sk];cases T[t]? <;> rfl
     rw [ad] at this;exact this
end
end Go.Proofs.YtkoioidpbbbaiaaGreat.Ab


namespace Go.Proofs.YtkoioidpbbbaiaaGreat.Ab
open Go
def jr (bq:List Nat) (aa:Nat→Option aH):Nat→Option aH:=fun b=>match aa b with
 | some (.arg i)=>(bq[i]?).map .slot
 | some (.obj id)=>some (.obj id)
 | some (.cell id j)=>some (.cell id j)
 | _=>none
section
variable {P:Program} {B N:Nat} {J:List Nat} {w:World} {H:List ar} {aa:Nat→Option aH} {S:Nat→Nat→Prop}
theorem Gh (bq:List Nat) (ag:aK B aa J S w H):bl aa S w (jr bq aa) S w∧aK B (jr bq aa) J S w H :=
 relabel ag (fun b h=>by simp [jr,h]) fun b l h ao=>by
  rcases ao with ⟨id,rfl⟩ | ⟨id,j,rfl⟩ <;> simp [jr,h]
theorem A8:∀ (bq:List Nat) (us:List I) (T bf:List I) (xs bc:List Value),iC bq us T=some bf→us.length=xs.length→T.length=bc.length →
  bq.length=us.length∧bf.length=T.length∧((bq.zip xs).foldl (fun (l:List Value) (p:Nat×Value)=>l.set p.1 p.2) bc).length=bc.length ∧
  ∀ (i:Nat) (u:I) (x:Value),bf[i]?=some u→((bq.zip xs).foldl (fun (l:List Value) (p:Nat×Value)=>l.set p.1 p.2) bc)[i]?=some x →
    (T[i]?=some u∧bc[i]?=some x)∨∃ (j:Nat),bq[j]?=some i∧us[j]?=some u∧xs[j]?=some x
 | [],[],T,bf,xs,bc,h,ao,ax=>by
   simp only [iC,Option.some.injEq] at h;subst h;exact ⟨rfl,rfl,by simp,fun i u x hu aj=>.inl ⟨hu,by simpa using aj⟩⟩
 | p::bq,yh::us,T,bf,ju::xs,bc,h,ao,ax=>by
   simp only [iC,g3] at h;obtain ⟨ab,ae,aF,ba⟩:=A8 bq us (T.set p yh) bf xs (bc.set p ju) h (by simpa using ao) (by simpa using ax);refine ⟨by simp [ab],by simpa using ae,by simpa using aF,fun i u x hu aj=>?_⟩;rcases ba i u x hu (by simpa using aj) with ⟨aJ,aN⟩ | ⟨j,aJ,aN,cb⟩
   ·by_cases zh:p=i
    ·subst zh;(have l1:p<T.length:=by have:=(sa.1 aJ).1;simpa using this);(have l2:p<bc.length:=by omega);rw [sj l1] at aJ;rw [sj l2] at aN;exact .inr ⟨0,rfl,by simpa using aJ,by simpa using aN⟩
    ·rw [sd zh] at aJ aN;exact .inl ⟨aJ,aN⟩
   ·exact .inr ⟨j+1,by simpa using aJ,by simpa using aN,by simpa using cb⟩
 | [],_::_,T,bf,xs,bc,h,ao,ax=>by simp [iC] at h
 | _::_,[],T,bf,xs,bc,h,ao,ax=>by simp [iC] at h
 | _::_,_::_,T,bf,[],bc,h,ao,ax=>by simp at ao
theorem Fa (L:Loop) (vs:List Value):(jh L vs).toList=(L.params.toList.zip vs).foldl (fun (l:List Value) (p:Nat×Value)=>l.set p.1 p.2) L.tmps.toList:=by
 unfold jh;rw [←Array.foldl_toList,Array.toList_zip];generalize L.params.toList.zip vs=gx;generalize L.tmps=bc
 induction gx generalizing bc with
 | nil=>rfl
 | cons z gx a8=>simp only [uH];rw [a8];simp
theorem cA.loop {s:a6} {a:Act} (aL:cA B N aa J S w s a) {id b:Nat} {L:Loop} {st:LoopState} {cL:Option Code} {fn:FuncId} {T:List I} {bq:List Nat} {as ct:Code} {an:dw}
  (aE:s.H[id]?=some (.loop st cL fn T bq as ct an)) (af:J[id]?=some b) (fq:w.heap[b]?=some (.loop L)) (hA:LoopState) (hy:Option Code) :
  bl aa S w aa S (w.putObj b (.loop { L with state:=hA,pending:=hy }))∧cA B N aa J S (w.putObj b (.loop { L with state:=hA,pending:=hy })) ⟨s.T,s.H.set id (.loop hA hy fn T bq as ct an)⟩ a:=by
 obtain ⟨az,ag,_⟩:=D4 aL.H aE af fq hA hy;obtain ⟨_,_,au,oW,aA,aG,_⟩:=aL.H.obj id _ aE;rw [af] at aA;cases aA;refine ⟨az,⟨⟨aL.T.len,fun i u v hu ad=>(aL.T.rel i u v hu ad).mono (Ext.refl J) az.set,fun i u v hu ad=>?_⟩,ag,aL.M.az az⟩⟩;refine (aL.T.own i u v hu ad).mono (Ext.refl J) az.set fun au bw=>⟨bw,World.putObj_heap_other (fun e=>?_),fun _ h=>h⟩;subst e;rw [aG] at bw;cases bw
theorem B' (eG:P.follows .mixedOrders=true) {C:b8} (bn:c6 P C) {k:Nat} {f:Func} {c:Code} (aP:P.funcs[k]?=some f) (af:f.body=some c) {A:dw} (bT:codeOk A c=true)
  {lo d:Nat} {args:List I} {e:cQ} {s:a6} (h:exec P A C k lo d none c 0 ⟨args++List.replicate (f.ntmps-args.length) .a0,H⟩=some (e,s)) (he:e=.normal∨e=.ret) {vs:List I}
  (ai:gX P s.H s.T f.results.toList=some vs) {xs:List Value} (ag:aK B aa J S w H) (ad:a5 (fun i=>.arg i) aa J S w args xs) :
  CallsIn Fence.wide 0 P k xs.toArray w (fZ B aa J S w s.H (jg vs)):=by
 refine callsIn_of_wp_marks aP af trivial ?_;have aL:=yd ag ad f.ntmps;have dB:=(oP ag).1;refine nF bn eG c 0 _ _ _ h bT Fence.wide _ B w.heap.size J w (hY aa) S _ (.inl ⟨rfl,rfl⟩) (fun l a w aO=>aO.elim) aL fun aM w' ah=>?_;obtain ⟨b5,cZ,a4,aJ,aN,cg⟩:=ah;have iV:LeavesInM Fence.wide 0 P f aM.tmps (fZ B aa J S w s.H (jg vs)) aM.defers .returning w':=by
  refine n5 (aa:=b5) (S:=a4) (J:=cZ) (B:=B) (H:=s.H) (lH:=aa) (S0:=S) (w0:=w) aM.defers w' cg.M.2.1 cg.M.2.2 (dB.trans aN) cg.H fun bX dD dt mJ mK=>?_
  have b0:a5 .slot b5 cZ a4 bX s.T aM.tmps.toList:=⟨cg.T.len,fun i u v hu ad=>(cg.T.rel i u v hu ad).mono (Ext.refl _) (fun b o h=>⟨h,dt b o h⟩),fun i u v hu ad =>
   (cg.T.own i u v hu ad).mono (Ext.refl _) (fun b o h=>⟨h,dt b o h⟩) fun b af=>⟨af,dD b _ af,fun _ h=>h⟩⟩
  obtain ⟨v,q1,aW⟩:=xS mK b0 ai;exact ⟨v,q1,aZ.after aJ mJ aW⟩
 rcases he with rfl | rfl
 ·exact iV
 ·exact iV
end
end Go.Proofs.YtkoioidpbbbaiaaGreat.Ab


namespace Go.Proofs.YtkoioidpbbbaiaaGreat.Ab
open Go
section
variable {P:Program} {B N:Nat} {J:List Nat} {w:World} {H:List ar} {aa:Nat→Option aH} {S:Nat→Nat→Prop}
def lu (l:Nat) (H:List ar) (fn:FuncId) (T:List I) (bq:List Nat) (as ct:Code) (an:dw):cQ→I×List ar
 | .normal=>(.bool true,H.set l (.loop .ready none fn T bq as ct an))
 | .ret=>(.bool false,H.set l (.loop .done (some .ret) fn T bq as ct an))
 | .exit id=>(.bool false,H.set l (.loop .done (some (.exit id)) fn T bq as ct an))
theorem Ca (eG:P.follows .mixedOrders=true) {C:b8} (bn:c6 P C) {l lo d:Nat} {fn fn':FuncId} {ka cL:Option Code} {T bf en dH:List I} {bq dO fV:List Nat} {as ct gI gJ fE fF:Code} {an gG fD:dw} {gf fI:FuncId} {args:List I}
  (ao:H[l]?=some (.loop .ready ka fn T bq as ct an)) (eH:iC bq args T=some bf) {s1 s2:a6} {e:cQ} {kb:Option Code}
  (ab:exec P an C fn lo d (some l) as 0 ⟨bf,H⟩=some (.normal,s1)) (jU:s1.H[l]?=some (.loop .ready cL gf en dO gI gJ gG))
  (ae:exec P an C fn' lo d (some l) ct 0 ⟨s1.T,s1.H.set l (.loop .busy cL gf en dO gI gJ gG)⟩=some (e,s2)) (eF:s2.H[l]?=some (.loop .busy kb fI dH fV fE fF fD))
  {xs:List Value} {b:Nat} (ag:aK B aa J S w H) (ad:a5 (fun i=>.arg i) aa J S w args xs) (af:J[l]?=some b) :
  ∃ L,w.heap[b]?=some (.loop L)∧xs.length=L.params.size ∧
    RoundIn Fence.wide 0 P b L.fn (jh L xs) L.assign L.body w (fZ B aa J S w (lu l s2.H fI dH fV fE fF fD e).2 (lu l s2.H fI dH fV fE fF fD e).1):=by
 obtain ⟨a7,a9,au,L,aA,aG,aT,br,bg,bd,dd,dx,dS,gF,BK⟩:=ag.obj l _ ao;rw [af] at aA;cases aA;have cJ:=A8 bq args T bf xs L.tmps.toList eH ad.len (by simpa using dd.symm);obtain ⟨cf,ca,eS,iP⟩:=cJ;refine ⟨L,aT,by rw [←ad.len,←cf,←dS];simp,?_⟩;refine roundIn_of_wpIn trivial ?_;have xd:(jh L xs).toList=(bq.zip xs).foldl (fun (l:List Value) (p:Nat×Value)=>l.set p.1 p.2) L.tmps.toList:=by rw [Fa,dS]
 obtain ⟨dB,gL⟩:=Gh bq ag;have aL:cA B w.heap.size (jr bq aa) J S w ⟨bf,H⟩ { tmps:=jh L xs,defers:=[] }:=by
  refine ⟨?_,gL,sc _,fun d a1=>by simp at a1,List.Pairwise.nil⟩;simp only [xd];have key:∀ (i:Nat) (u:I) (x:Value),bf[i]?=some u→((bq.zip xs).foldl (fun (l:List Value) (p:Nat×Value)=>l.set p.1 p.2) L.tmps.toList)[i]?=some x →
    Rel J S w u x∧aU (jr bq aa) J S w (.slot i) u x:=fun i u x hu aj=>by
   rcases iP i u x hu aj with ⟨aJ,aN⟩ | ⟨j,aJ,aN,cb⟩
   ·obtain ⟨bU,b1⟩:=dx i u x aJ (by simpa using aN);exact ⟨b1,aU.b4 bU⟩
   ·exact ⟨ad.rel j u x aN cb,(ad.own j u x aN cb).mono (Ext.refl J) (fun _ _ h=>⟨h,rfl⟩) fun b af=>⟨by simp [jr,af,aJ],rfl,fun _ h=>h⟩⟩
  exact ⟨by rw [ca,eS,←dd];simp,fun i u x hu aj=>(key i u x hu aj).1,fun i u x hu aj=>(key i u x hu aj).2⟩
 rw [gF,BK];refine nF bn eG as 0 _ _ _ ab a7 _ _ B w.heap.size J w (jr bq aa) S _ (.inr ⟨l,b,rfl,af,rfl⟩) (fun l a w aO=>aO) aL fun aA bI ah=>?_;obtain ⟨b5,cZ,a4,aJ,aN,cg⟩:=ah;have gM:cZ[l]?=some b:=aJ _ _ af;obtain ⟨_,_,au,oX,d1,d2,d3,d4,d5,_⟩:=cg.H.obj l _ jU;rw [gM] at d1;cases d1;obtain ⟨ep,Cw⟩:=cg.loop jU gM d3 .busy cL;have CK:(Instr.beginRound b).run P bI=.ok () (bI.putObj b (.loop { oX with state:=.busy,pending:=cL })):=by
  rw [run_beginRound d3 d4]
  have:({ oX with state:=.busy,pending:=cL }:Loop)={ oX with state:=.busy }:=by rw [←d5]
  rw [this]
 refine ⟨_,CK,?_⟩;refine wpIn_mono (Q:=fun cV aM w'=>(∀ t,cV≠Exit.goto t)∧roundPost P b (fZ B aa J S w (lu l s2.H fI dH fV fE fF fD e).2 (lu l s2.H fI dH fV fE fF fD e).1) cV aM w') ?_ (fun e a w h=>h.2);refine nF bn eG ct 0 _ _ _ ae a9 _ _ B w.heap.size cZ _ b5 a4 _ (.inr ⟨l,b,rfl,gM,rfl⟩) (fun l a w aO=>aO.1 l rfl) Cw fun aG bX ah=>?_;obtain ⟨bu,ck,bL,cb,hq,yX⟩:=ah;have gN:ck[l]?=some b:=cb _ _ gM;obtain ⟨_,_,au,jx,f1,f2,f3,f4,f5,_⟩:=yX.H.obj l _ eF;rw [gN] at f1;cases f1;have l5:bl aa S w bu bL bX:=((dB.trans aN).trans ep).trans hq;have fin:∀ (st:LoopState) (jump:Option Code),aZ B aa J S w (s2.H.set l (.loop st jump fI dH fV fE fF fD)) (.bool jump.isNone) (.bool jump.isNone) (bX.putObj b (.loop { jx with state:=st,pending:=jump })):=fun st jump=>by
  obtain ⟨Cl,Cx⟩:=yX.loop eF gN f3 st jump;exact ⟨bu,ck,bL,aJ.trans cb,l5.trans Cl,Cx.H,.bool _,aU.b4 rfl⟩
 refine ⟨fun t ax=>(by cases e <;> cases ax),?_⟩;cases e with
 | normal=>exact ⟨_,_,run_endRound none f3,fin .ready none⟩
 | ret=>exact ⟨_,_,run_endRound (some .ret) f3,fin .done (some .ret)⟩
 | exit id=>exact ⟨_,_,run_endRound (some (.exit id)) f3,fin .done (some (.exit id))⟩
theorem Cb (eG:P.follows .mixedOrders=true) (A:FuncId→dw) {gu:b8} (ax:c6 P gu)
  (bT : ∀ k f c, (A k).bad = false → P.funcs[k]? = some f → f.body = some c → codeOk (A k) c = true ∧ f.name ≠ "runtime.NumGoroutine") : ∀ d, c6 P (ga P A gu d)
 | 0=>⟨fun h=>by simp [ga] at h,fun h=>by simp [ga] at h⟩
 | d+1=>by
   have bn:=Cb eG A ax bT d;have yT:∀ {k:FuncId} {args:List I} {H:List ar} {lo:Nat} {r:I} {H':List ar},ga P A gu (d+1) (.fn k) args H lo=some (r,H')→gu (.fn k) args H lo=some (r,H') ∨
     ∃ f c e s vs,(A k).bad=false∧P.funcs[k]?=some f∧f.body=some c∧exec P (A k) (ga P A gu d) k lo d none c 0 ⟨args++List.replicate (f.ntmps-args.length) .a0,H⟩=some (e,s)∧(e=.normal∨e=.ret) ∧
       gX P s.H s.T f.results.toList=some vs∧r=jg vs∧H'=s.H:=fun {k args H lo r H'} h=>by
    simp only [ga] at h;split at h
    ·rename_i x aj;cases h;exact .inl aj
    ·right;split at h
     ·simp at h
     rename_i nG;split at h
     ·rename_i f aP;split at h
      ·rename_i c af;split at h
       ·rename_i s ah;simp only [r_,Prod.mk.injEq] at h;obtain ⟨vs,ai,rfl,rfl⟩:=h;exact ⟨f,c,_,s,vs,nG,aP,af,ah,.inl rfl,ai,rfl,rfl⟩
       ·rename_i s ah;simp only [r_,Prod.mk.injEq] at h;obtain ⟨vs,ai,rfl,rfl⟩:=h;exact ⟨f,c,_,s,vs,nG,aP,af,ah,.inr rfl,ai,rfl,rfl⟩
       ·simp at h
      ·simp at h
     ·simp at h
   have BF:∀ {l:Nat} {args:List I} {H:List ar} {lo:Nat} {r:I} {H':List ar},ga P A gu (d+1) (.yield l) args H lo=some (r,H') →
     ∃ ka fn T bq as ct an bf s1 cL gf en dO gI gJ gG e s2 kb fI dH fV fE fF fD,lo≤l∧H[l]?=some (.loop .ready ka fn T bq as ct an)∧iC bq args T=some bf ∧
       exec P an (ga P A gu d) fn lo d (some l) as 0 ⟨bf,H⟩=some (.normal,s1)∧s1.H[l]?=some (.loop .ready cL gf en dO gI gJ gG) ∧
       exec P an (ga P A gu d) gf lo d (some l) ct 0 ⟨s1.T,s1.H.set l (.loop .busy cL gf en dO gI gJ gG)⟩=some (e,s2)∧s2.H[l]?=some (.loop .busy kb fI dH fV fE fF fD) ∧
       (r,H')=lu l s2.H fI dH fV fE fF fD e:=fun {l args H lo r H'} h=>by
    simp only [ga] at h;split at h
    ·simp at h
    ·rename_i bD;split at h
     ·rename_i ka fn T bq as ct an ao;split at h
      ·rename_i bf eH;split at h
       ·rename_i s1 ab;split at h
        ·rename_i cL gf en dO gI gJ gG jU;split at h
         ·rename_i e s2 ae;split at h
          ·rename_i kb fI dH fV fE fF fD eF;refine ⟨ka,fn,T,bq,as,ct,an,bf,s1,cL,gf,en,dO,gI,gJ,gG,e,s2,kb,fI,dH,fV,fE,fF,fD,by omega,ao,eH,ab,jU,ae,eF,?_⟩;cases e <;> simp only [Option.some.injEq] at h <;> exact h.symm
          ·simp at h
         ·simp at h
        ·simp at h
       ·simp at h
      ·simp at h
     ·simp at h
   refine ⟨fun {bY args H lo r H'} h=>?_,fun {bY args H lo r H'} h=>?_⟩
   ·cases bY with
    | fn k =>
      rcases yT h with h | ⟨f,c,e,s,vs,_,_,_,aF,_,_,_,rfl⟩
      ·exact ax.low h
      ·exact pb bn c 0 _ e s aF
    | yield l =>
      obtain ⟨ka,fn,T,bq,as,ct,an,bf,s1,cL,gf,en,dO,gI,gJ,gG,e,s2,kb,fI,dH,fV,fE,fF,fD,bD,ao,eH,ab,jU,ae,eF,ai⟩:=BF h;have da:=pb bn as 0 _ _ s1 ab;have db:=pb bn ct 0 _ e s2 ae;(have j4:a' lo s2.H (lu l s2.H fI dH fV fE fF fD e).2:=by cases e <;> exact a'.set _ _ bD);rw [←ai] at j4;exact (da.trans ((a'.set s1.H _ bD).trans db)).trans j4
   ·cases bY with
    | fn k =>
      rcases yT h with h | ⟨f,c,e,s,vs,nG,aP,af,aF,he,ai,rfl,rfl⟩
      ·exact ax.ok h
      obtain ⟨bx,bK⟩:=bT k f c nG aP af;exact ⟨⟨f,aP,by simp [af],bK⟩,fun B aa J S w xs ag _ ad=>B' eG bn aP af bx aF he ai ag ad⟩
    | yield l =>
      obtain ⟨ka,fn,T,bq,as,ct,an,bf,s1,cL,gf,en,dO,gI,gJ,gG,e,s2,kb,fI,dH,fV,fE,fF,fD,bD,ao,eH,ab,jU,ae,eF,ai⟩:=BF h;intro B aa J S w xs b ag _ ad af;have:=Ca eG bn ao eH ab jU ae eF ag ad af;rw [←ai] at this;exact this
end
end Go.Proofs.YtkoioidpbbbaiaaGreat.Ab


namespace Go.Proofs.YtkoioidpbbbaiaaGreat.Ab
open Go
def Sem (P:Program) (bY:fc) (args:List I) (H:List ar) (lo:Nat) (r:I) (H':List ar):Prop:=a' lo H H'∧jA P bY args H H' r
def nn (P:Program) (k:FuncId) (args:List I) (v:I):Prop:=Sem P (.fn k) args [] 0 v []∧cr 8 v=true
abbrev c7:=List (FuncId×List I×I)
def h2 (P:Program) (acc:c7):Prop:=(∀ p∈acc,nn P p.1 p.2.1 p.2.2)∧∀ p∈acc,∀ q∈acc,p.1=q.1→p.2.1=q.2.1→p.2.2=q.2.2
def iG (C:b8) (acc:c7):Prop:=∀ p∈acc,∃ r H2,C (.fn p.1) p.2.1 [] 0=some (r,H2)∧bM H2 0 H2.length 0 8 r=some p.2.2
section
variable {P:Program}
theorem o7 {C:b8} (h:∀ bY args H lo r H',C bY args H lo=some (r,H')→Sem P bY args H lo r H'):c6 P C :=
 ⟨fun ak=>(h _ _ _ _ _ _ ak).1,fun ak=>(h _ _ _ _ _ _ ak).2⟩
theorem c6.Ha {C:b8} (bn:c6 P C) {bY:fc} {args:List I} {H:List ar} {lo:Nat} {r:I} {H':List ar} (h:C bY args H lo=some (r,H')):Sem P bY args H lo r H':=⟨bn.low h,bn.ok h⟩
theorem lX:c6 P (fun _ _ _ _=>none):=o7 fun _ _ _ _ _ _ h=>by cases h
noncomputable def k9 (bY:fc) (args:List I) (H:List ar) (lo:Nat) (r:I) (H':List ar):b8:=fun t a h l =>
 open Classical in if t=bY∧a=args∧h=H∧l=lo then some (r,H') else none
theorem EA (bY:fc) (args:List I) (H:List ar) (lo:Nat) (r:I) (H':List ar):k9 bY args H lo r H' bY args H lo=some (r,H'):=by simp [k9]
theorem EB {bY:fc} {args:List I} {H:List ar} {lo:Nat} {r:I} {H':List ar} (h:Sem P bY args H lo r H'):c6 P (k9 bY args H lo r H') :=
 o7 fun t a aX l r' H2 ak=>by
  unfold k9 at ak;split at ak
  ·rename_i he;obtain ⟨rfl,rfl,rfl,rfl⟩:=he;cases ak;exact h
  ·cases ak
theorem zU {f:I→Option I}:∀ {l:List I},(∀ u∈l,f u=some u)→ea f l=some l
 | [],_=>rfl
 | u::l,h=>by
   simp only [ea,h u (by simp),zU (l:=l) fun v ad=>h v (by simp [ad]),se]
theorem yW {H:List ar} {lo id0 n:Nat}:∀ {d:Nat} {v:I},cr d v=true→bM H lo id0 n d v=some v
 | 0,v,h=>by simp [cr] at h
 | d+1,v,h=>by
   have key:∀ {l:List I},l.all (cr d)=true→ea (bM H lo id0 n d) l=some l:=fun h=>zU fun u hu=>yW (by rw [sm] at h;exact h u hu);cases v <;> simp only [cr,tO] at h <;> try rfl
   case av cells len c=>simp only [bM,key h,se]
   case bS cells=>simp only [bM,key h,se]
   case agg cs=>simp only [bM,key h,se]
   case tuple cs=>simp only [bM,key h,se]
   case func f a b =>
    simp only [sn] at h;simp only [bM,key h.1,key h.2]
theorem nt {acc:c7} (h:h2 P acc):∃ C,c6 P C∧iG C acc:=by
 classical
 obtain ⟨ab,ae⟩:=h;have key:∀ x:fc×List I×List ar×Nat,∃ o:Option (I×List ar),(∀ r H',o=some (r,H')→Sem P x.1 x.2.1 x.2.2.1 x.2.2.2 r H') ∧
   ∀ p∈acc,x=(.fn p.1,p.2.1,[],0)→∃ r H2,o=some (r,H2)∧bM H2 0 H2.length 0 8 r=some p.2.2:=fun x=>by
  by_cases aj:∃ p∈acc,x=(.fn p.1,p.2.1,[],0)
  ·obtain ⟨p,aB,rfl⟩:=aj;obtain ⟨q1,aW⟩:=ab p aB;refine ⟨some (p.2.2,[]),fun r' H' e=>by cases e;exact q1,fun q a_ e=>?_⟩;simp only [Prod.mk.injEq,fc.fn.injEq] at e;exact ⟨p.2.2,[],rfl,by rw [yW aW,ae p aB q a_ e.1 e.2.1]⟩
  ·exact ⟨none,(fun r H' e=>nomatch e),fun p aB e=>absurd ⟨p,aB,e⟩ aj⟩
 let C:b8:=fun t a H l=>Classical.choose (key (t,a,H,l))
 have bn:∀ t a H l,_:=fun t a H l=>uy (key (t,a,H,l));exact ⟨C,o7 fun t a H l r H' ak=>(bn t a H l).1 r H' ak,fun p aB=>(bn _ _ _ _).2 p aB rfl⟩
def yp (o:Oper) (s:a6) (K:a6→Prop):Prop :=
 ∃ it r m since seen es clock,o.op=.next it false∧o.guard=none∧Ab.az s.T it=.ptr r 0∧s.H[r]?=some (.iter m since seen clock)∧s.H[m]?=some (.map es clock)∧since≤clock∧(∀ e∈es,e.1<since) ∧
   ((∀ e∈es,e.1∈seen)→K ⟨put s.T o.dst (.tuple [.bool false]),s.H⟩) ∧
   ∀ e∈es,e.1 ∉ seen→K ⟨put s.T o.dst (.tuple [.bool true,e.2.1,e.2.2]),s.H.set r (.iter m since (seen++[e.1]) clock)⟩
section
variable {B N:Nat} {J:List Nat} {w:World} {H:List ar} {aa:Nat→Option aH} {S:Nat→Nat→Prop}
theorem DP (ag:aK B aa J S w H) {id m since since' ki stepped':Nat} {seen seen':List Nat} (aE:H[id]?=some (.iter m since seen ki)) {b ec:Nat}
  (aA:J[id]?=some b) (aG:aa b=some (.obj id)) (aT:J[m]?=some ec) (bg:∀ o,¬ S b o) :
  bl aa S w aa S (w.putObj b (.mapIter (some ec) since' seen'.toArray stepped'))∧aK B aa J S (w.putObj b (.mapIter (some ec) since' seen'.toArray stepped')) (H.set id (.iter m since' seen' stepped')):=by
 have hJ:∀ au o,S au o→au≠b:=fun au o ah e=>bg o (e ▸ ah);have af:=(ag.base b _ aG).2;have az:bl aa S w aa S (w.putObj b (.mapIter (some ec) since' seen'.toArray stepped')) :=
  ⟨rfl,rfl,rfl,by simp,fun au _ aI=>World.putObj_heap_other (fun e=>by subst e;rw [aG] at aI;cases aI),fun au o ah=>⟨ah,oj (hJ au o ah)⟩,fun au o ah=>.inl ah,fun au h=>.inl h⟩
 refine ⟨az,by simpa using ag.cK,fun bC o aq=>?_,fun au o ah=>?_,fun au l h=>by simpa using ag.base au l h,by simpa using ag.c0⟩
 ·by_cases hf:bC=id
  ·subst hf;rw [sj (sa.1 aE).1] at aq;cases aq;exact ⟨b,ec,aA,aG,aT,World.putObj_heap_same af,bg⟩
  ·rw [sd (fun e=>hf e.symm)] at aq;refine (ag.obj bC o aq).frame (Ext.refl J) az.set fun au cy bw jT=>?_;have bJ:au≠b:=fun e=>by
    subst e;rw [aG] at bw;cases bw;rcases jT with h | ⟨j,h⟩
    ·cases h;exact hf rfl
    ·cases h
   exact ⟨bw,World.putObj_heap_other bJ,fun o ah=>ah⟩
 ·obtain ⟨v,ad⟩:=ag.cd au o ah;exact ⟨v,(oj (hJ au o ah)).trans ad⟩
theorem Ev {F:Fence} (bG:ek F) {o:Oper} {s:a6} {K':a6→Prop} (h:yp o s K') {a:Act} (aL:cA B N aa J S w s a)
  {K:Act→World→Prop} {Q:Exit→Act→World→Prop} (fJ:∀ aD,K' aD→∀ aM w',Step B N aa J S w aD aM w'→K aM w'):o.wpIn F 0 P a w K Q:=by
 obtain ⟨it,r,m,since,seen,es,clock,aC,aO,C9,ai,hm,w8,hold,dj,aJ⟩:=h;have jV:∀ c,o.op≠.defer c:=fun c ak=>by rw [aC] at ak;cases ak
 refine ⟨fun f _=>bG.fn f,?_⟩;rw [Oper.semAt_eq _ _ _ jV];have mm:=aL.az it;rw [C9] at mm;have gL:=mA aL.H;obtain ⟨b,ec,aA,aG,aT,br,bg⟩:=gL.obj r _ ai;obtain ⟨GF,bB,a7,a9,bt,b6,dV,f'⟩:=gL.obj m _ hm;rw [aT] at a7;cases a7;generalize ad:a.eval it=v at mm;cases mm with
 | ptr _ _ au e4 =>
   rw [aA] at e4;cases e4;have CJ:∀ x∈bB.toList,x.born<since:=fun x aj=>by
    obtain ⟨j,aw⟩:=sX.1 aj;(have ef:bB[j]?=some x:=by simpa using aw);(have aR:j<es.length:=by have:=(sJ.1 ef).1;omega);rcases bE:es[j] with ⟨i,k,v⟩;(have he:es[j]?=some (i,k,v):=by rw [si aR,bE]);rw [(f' j i k v x he ef).1];exact hold (i,k,v) (sv he)
   have done:∀ {r':I} {H':List ar} {v:Value} {w':World},aZ B (dr aa) J S w H' r' v w'→K' ⟨put s.T o.dst r',H'⟩→K (a.put o.dst v) w':=fun {r' H' v w'} aB al=>by
    obtain ⟨ay,bV,S',q1,aW,gh,_⟩:=oi o.dst aL aB .a0 (fun _ _ _ _ _=>.a0 _);exact fJ _ al _ _ ⟨ay,bV,S',q1,aW,gh⟩
   rcases run_next_at (P:=P) w o.type b ec since clock seen.toArray bB clock br bt CJ w8 with ⟨aI,dM⟩ | ⟨x,aj,bI,zt,dM⟩
   ·(have w7:(Go.execOp a.eval o).run P w=.ok (.value (.tuple #[.bool false])) w:=by simp [Go.execOp,aC,ad,dM]);rw [w7];refine done (aZ.same gL (.tuple _ _ rfl (by simp [I.plain]) fun j u bo hu bh=>?_) rfl) (dj fun e he=>?_)
    ·match j with
     | 0=>simp at hu bh;subst hu;subst bh;exact .bool _
     | j+1=>simp at hu
    ·obtain ⟨j,aw⟩:=sX.1 he;have aR:j<es.length:=(sa.1 aw).1;have aj:bB[j]?=some bB[j]:=sr (by omega);have af:=(f' j e.1 e.2.1 e.2.2 _ aw aj).1;have ml:leftOf bB seen.toArray=#[]:=Array.eq_empty_of_size_eq_zero aI;unfold leftOf at ml;rw [Array.filter_eq_empty_iff] at ml;have:=ml bB[j] (by simp);simpa [af] using this
   ·have w7:(Go.execOp a.eval o).run P w=.ok (.value (.tuple #[.bool true,x.key,x.val])) (bI.putObj b (.mapIter (some ec) since (seen++[x.born]).toArray clock)):=by
     simp [Go.execOp,aC,ad,dM,Go.ChangeMaps.setBlock,World.putObj]
    rw [w7];have nY:x∈bB.toList∧x.born ∉ seen:=by
     unfold leftOf at aj;simpa using aj
    obtain ⟨j,aw⟩:=sX.1 nY.1;(have ef:bB[j]?=some x:=by simpa using aw);(have aR:j<es.length:=by have:=(sJ.1 ef).1;omega);rcases bE:es[j] with ⟨i,k,v⟩;(have he:es[j]?=some (i,k,v):=by rw [si aR,bE]);obtain ⟨d1,d2,d3,d4,d5⟩:=f' j i k v x he ef;have kL:(i,k,v)∈es:=sv he;refine done (r':=.tuple [.bool true,k,v]) (H':=s.H.set r (.iter m since (seen++[i]) clock)) ?_ (aJ _ kL (by rw [←d1];exact nY.2));(have hw:aK B (dr aa) J S bI s.H:=by rcases zt with rfl | rfl;exact gL;exact mz gL);(have pA:bl (dr aa) S w (dr aa) S bI:=by rcases zt with rfl | rfl;exact bl.refl _ _ _;exact ky _ _ _);refine aZ.after (Ext.refl J) pA ?_;obtain ⟨az,b9⟩:=DP hw (since':=since) (stepped':=clock) (seen':=seen++[i]) ai aA aG aT bg;rw [d1];refine ⟨dr aa,J,S,Ext.refl J,az,b9,.tuple _ _ rfl (fun u hu=>?_) (fun j u bo hu bh=>?_),aU.b4 rfl⟩
    ·simp only [sB,List.not_mem_nil,or_false] at hu;rcases hu with rfl | rfl | rfl
     ·rfl
     ·exact d2
     ·exact d4
    ·match j with
     | 0=>simp at hu bh;subst hu;subst bh;exact .bool _
     | 1=>simp at hu bh;subst hu;subst bh;exact (d3.mono (Ext.refl J) pA.set).mono (Ext.refl J) az.set
     | 2=>simp at hu bh;subst hu;subst bh;exact (d5.mono (Ext.refl J) pA.set).mono (Ext.refl J) az.set
     | j+3=>simp at hu
end
end
end Go.Proofs.YtkoioidpbbbaiaaGreat.Ab


namespace Go.Proofs.YtkoioidpbbbaiaaGreat.Ab
open Go
section
variable {P:Program} {B N:Nat} {J:List Nat} {w:World} {aa:Nat→Option aH} {S:Nat→Nat→Prop}
theorem x9 {C:b8} {lo:Nat} {ops:Array Oper} {an:List bZ} {i:Nat} {cS:Oper} (hi:ops[i]?=some cS) {R:Nat→Nat→Prop} {aD:a6}:∀ (l:List Nat) (s:a6),l.Pairwise R→i∈l →
  (∀ j∈l,R j i→∀ cT,ops[j]?=some cT→indep ops cT (an.getD j {}) cS (an.getD i {})=true)→cU P C lo ops an l s=some aD →
  ∃ s1,dv P C lo ops cS (an.getD i {}) s=some s1∧cU P C lo ops an (l.erase i) s1=some aD
 | [],s,_,h,_,_=>by simp at h
 | j::r,s,aB,hm,jR,h=>by
   by_cases gi:j=i
   ·subst gi;simp only [cU,hi,sf] at h;obtain ⟨s1,ab,ae⟩:=h;exact ⟨s1,ab,by simpa using ae⟩
   ·have ai:i∈r:=by
     rcases sB.1 hm with h | h
     ·exact absurd h.symm gi
     ·exact h
    have aR:R j i:=(tB.1 aB).1 i ai;have he:(j::r).erase i=j::r.erase i:=by
     rw [List.erase_cons];simp [gi]
    rw [he];simp only [cU] at h ⊢;cases aw:ops[j]? with
    | none =>
      simp only [aw] at h;exact x9 hi r s (tB.1 aB).2 ai (fun k al=>jR k (by simp [al])) h
    | some cT =>
      simp only [aw,sf] at h;obtain ⟨s1,ab,ae⟩:=h;obtain ⟨s2,aJ,aN⟩:=x9 hi r s1 (tB.1 aB).2 ai (fun k al=>jR k (by simp [al])) ae;obtain ⟨dk,q1,aW⟩:=Bl (jR j (by simp) aR cT aw) ab aJ;exact ⟨dk,q1,by dsimp only;rw [aW];exact aN⟩
def c9 (O:List Nat) (listed:Array Bool):List Nat:=O.filter fun i=>!listed.getD i true
theorem Au {O:List Nat} (l_:O.Nodup) {i:Nat} {listed:Array Bool}:c9 O (listed.setIfInBounds i true)=(c9 O listed).erase i:=by
 have jV:(c9 O listed).Nodup:=l_.filter _;rw [jV.erase_eq_filter];simp only [c9,uP];congr 1;funext j;by_cases h_:j=i
 ·subst h_;rcases sL j listed.size with h | h
  ·simp [su,h]
  ·simp [su,h]
 ·have:(listed.setIfInBounds i true).getD j true=listed.getD j true:=by
   simp only [su];rw [uI (Ne.symm h_)]
  rw [this];simp [h_]
theorem z5:∀ {l:List Nat},oc l=true→l.Nodup
 | [],_=>List.nodup_nil
 | j::r,h=>by
   simp only [oc,sn,Bool.not_eq_true',List.contains_eq_mem,decide_eq_false_iff_not] at h;exact List.nodup_cons.2 ⟨h.1,z5 h.2⟩
def oZ (ops:Array Oper) (an:List bZ) (p q j i:Nat):Prop:=∀ cT cS,ops[j]?=some cT→ops[i]?=some cS →
 ((fR ops.toList []).getD i 0).testBit j=true∨indep ops cT (an.getD j {}) cS (an.getD i {})=true∨(j=p∧i=q)
theorem xE {ops:Array Oper} {an:List bZ} {p q:Nat}:∀ {l:List Nat},m3 ops an (fR ops.toList []) p q l=true→l.Pairwise (oZ ops an p q)
 | [],_=>List.Pairwise.nil
 | j::r,h=>by
   simp only [m3,sn,sm] at h;refine tB.2 ⟨fun i hi cT cS ab ae=>?_,xE h.2⟩;have:=h.1 i hi;simp only [z',ab,ae,tA,sn] at this;rcases this with (ba | ba) | ba
   ·exact .inl ba
   ·exact .inr (.inl ba)
   ·exact .inr (.inr ⟨sN ba.1,sN ba.2⟩)
theorem BW {F:Fence} (bG:ek F) {C:b8} (bn:c6 P C) {lo:Nat} {ops:Array Oper} {an:List bZ} {O:List Nat} {p q:Nat} (a1:lZ ops an (O,p,q)=true) {Q:Exit→Act→World→Prop} {s1 s2:a6} :
  ∀ (fuel:Nat) (listed:Array Bool) (s:a6) (a:Act) (w:World) (aa:Nat→Option aH) (J:List Nat) (S:Nat→Nat→Prop),(c9 (List.range ops.size) listed).length≤fuel→lW ops listed →
    ((cU P C lo ops an (c9 (List.range ops.size) listed) s=some s1∧cU P C lo ops an (c9 O listed) s=some s2∧listed.getD p true=false∧listed.getD q true=false) ∨
      (cU P C lo ops an (c9 (List.range ops.size) listed) s=some s1∧listed.getD p true=true)∨(cU P C lo ops an (c9 O listed) s=some s2∧listed.getD q true=true)) →
    cA B N aa J S w s a→(∀ aD,aD=s1∨aD=s2→∀ aM w',Step B N aa J S w aD aM w'→Q .normal aM w')→wpAnyIn F 0 P .any ops Q fuel listed a w:=by
 simp only [lZ,sn,Bool.not_eq_true'] at a1;obtain ⟨⟨⟨⟨⟨⟨⟨⟨d1,d2⟩,d3⟩,d4⟩,d5⟩,d6⟩,d7⟩,d8⟩,d9⟩:=a1;have Dq:p≠q:=fun e=>by rw [e,uQ] at d7;cases d7
 have yZ:∀ i,i∈O↔i<ops.size:=fun i=>by
  constructor
  ·intro h;rw [sm] at d6;exact by simpa [sR] using d6 i h
  ·intro h;rw [sm] at d5;have:=d5 i (sH.2 h);simpa using this
 have c1:∀ j cT,ops[j]?=some cT→((fR ops.toList []).getD j 0=mS (fR ops.toList []) cT)∧(∀ e∈cT.after,Region.binds .any e=true→e.on<j):=fun j cT aw=>by
  have aR:j<ops.size:=(sJ.1 aw).1;simp only [zV,sm,sH] at d1;have h:=d1 j aR;rw [aw] at h;simp only [sn,beq_iff_eq,sm] at h;obtain ⟨ab,ae⟩:=h;refine ⟨ab,fun e he af=>?_⟩;have:=ae e (by simpa using he);simp only [af,Bool.not_true,Bool.false_or] at this;simpa [sR] using this
 have xR:∀ (listed:Array Bool),lW ops listed→∀ (n k:Nat) ok,k≤n→ops[k]?=some ok→(∀ e∈ok.after,Region.binds .any e=true→listed.getD e.on false=true) →
   ∀ j,((fR ops.toList []).getD k 0).testBit j=true→listed.getD j false=true:=by
  intro listed cH n
  induction n with
  | zero =>
    intro k ok al aq eU j aw;rw [(c1 k ok aq).1] at aw;rcases mT _ j _ _ aw with h | ⟨e,he,af,h⟩
    ·simp at h
    ·have:=(c1 k ok aq).2 e (by simpa using he) af;omega
  | succ n a8 =>
    intro k ok al aq eU j aw;rw [(c1 k ok aq).1] at aw;rcases mT _ j _ _ aw with h | ⟨e,he,af,h⟩
    ·simp at h
    ·(have jP:e∈ok.after:=by simpa using he);have aR:=(c1 k ok aq).2 e jP af;have ic:=eU e jP af;rcases h with h | rfl
     ·have kJ:=(sJ.1 aq).1;have mx:ops[e.on]?=some ops[e.on]:=sr (by omega);have pY:listed.getD e.on true=true:=by
       rcases sL e.on listed.size with aX | aX
       ·simp [su,aX] at ic ⊢;exact ic
       ·simp [su,aX] at ic
      exact a8 e.on _ (by omega) mx (cH e.on _ mx pY) j h
     ·exact ic
 have iW:∀ (O:List Nat) (listed:Array Bool) (i:Nat),i∈c9 O listed↔i∈O∧listed.getD i true=false:=fun O listed i=>by
  simp [c9]
 have ml:∀ (O:List Nat) (listed:Array Bool),(∀ i,i∈O↔i<ops.size)→c9 (List.range ops.size) listed=[]→c9 O listed=[]:=fun O listed l_ h=>by
  rw [ux];intro i hi;have:=(iW _ _ _).1 hi;have ae:i∈c9 (List.range ops.size) listed:=(iW _ _ _).2 ⟨sH.2 ((l_ i).1 this.1),this.2⟩;rw [h] at ae;simp at ae
 have y5:∀ (listed:Array Bool) (s:a6),c9 (List.range ops.size) listed=[] →
   ((cU P C lo ops an (c9 (List.range ops.size) listed) s=some s1∧cU P C lo ops an (c9 O listed) s=some s2∧listed.getD p true=false∧listed.getD q true=false) ∨
     (cU P C lo ops an (c9 (List.range ops.size) listed) s=some s1∧listed.getD p true=true)∨(cU P C lo ops an (c9 O listed) s=some s2∧listed.getD q true=true))→s=s1∨s=s2:=fun listed s h hinv=>by
  have ae:=ml _ listed yZ h;rw [h,ae] at hinv;simp only [cU,Option.some.injEq] at hinv;rcases hinv with h | h | h
  ·exact .inl h.1
  ·exact .inl h.1
  ·exact .inr h.1
 have front:∀ (O:List Nat) (p q:Nat),O.Pairwise (oZ ops an p q)→O.Nodup→(∀ i,i∈O↔i<ops.size)→∀ (listed:Array Bool) (s aD:a6) (i:Nat) (cS:Oper),lW ops listed→ops[i]?=some cS→listed.getD i true=false →
   (∀ e∈cS.after,Region.binds .any e=true→listed.getD e.on false=true)→(i=q→listed.getD p true=true)→cU P C lo ops an (c9 O listed) s=some aD →
   ∃ dk,dv P C lo ops cS (an.getD i {}) s=some dk∧cU P C lo ops an (c9 O (listed.setIfInBounds i true)) dk=some aD:=by
  intro O p q CD CB CA listed s aD i cS cH eg ab eU jJ dM;have aR:=(sJ.1 eg).1
  obtain ⟨dk,q1,aW⟩:=x9 eg (R:=oZ ops an p q) (c9 O listed) s (CD.filter _) ((iW _ _ _).2 ⟨(CA i).2 aR,ab⟩) (fun j aw gi cT pX=>by
   have dX:=((iW _ _ _).1 aw).2;rcases gi cT cS pX eg with h | h | ⟨rfl,rfl⟩
   ·have:=xR listed cH i i cS (sc _) eg eU j h;rcases sL j listed.size with aX | aX
    ·simp [su,aX] at dX this;rw [this] at dX;simp at dX
    ·simp [su,aX] at dX
   ·exact h
   ·rw [jJ rfl] at dX;cases dX) dM
  exact ⟨dk,q1,by rw [Au CB];exact aW⟩
 have CC:∀ i,i∈List.range ops.size↔i<ops.size:=fun i=>sH;have f1:=front _ p q (xE d2) uO CC;have f2:=front _ q p (xE d3) (z5 d4) yZ;intro fuel
 induction fuel with
 | zero =>
   intro listed s a w aa J S pH cH hinv aL bp;have ib:c9 (List.range ops.size) listed=[]:=sO.1 (by omega);refine ⟨?_,bp s (y5 listed s ib hinv) a w (Step.here aL)⟩;rw [ux];intro i hi;obtain ⟨ab,o,aq,_⟩:=mem_ready.1 hi
   have:i∈c9 (List.range ops.size) listed:=(iW _ _ _).2 ⟨sH.2 (sJ.1 aq).1,by simp [ab]⟩
   rw [ib] at this;simp at this
 | succ fuel a8 =>
   intro listed s a w aa J S pH cH hinv aL bp;refine ⟨fun ai=>?_,fun i hi=>?_⟩
   ·have ib:c9 (List.range ops.size) listed=[]:=by
     rw [ux];intro i
     induction i using Nat.strongRecOn with
     | _ i xl =>
       intro hi;obtain ⟨aR,dX⟩:=(iW _ _ _).1 hi;have aR:=sH.1 aR;have aq:ops[i]?=some ops[i]:=sr aR
       have:i∈Region.ready .any ops listed:=mem_ready.2 ⟨by simpa using dX,_,aq,fun e he af=>by
        have ia:=(c1 i _ aq).2 e he af;have kN:=xl e.on ia;have ao:listed.getD e.on true=true:=by
         cases aj:listed.getD e.on true with
         | true=>rfl
         | false=>exact absurd ((iW _ _ _).2 ⟨sH.2 (by omega),aj⟩) kN
        rcases sL e.on listed.size with aX | aX
        ·simp [su,aX] at ao ⊢;exact ao
        ·rcases sL i listed.size with l9 | l9
         ·omega
         ·simp [su,l9] at dX⟩
       rw [ai] at this;simp at this
    exact bp s (y5 listed s ib hinv) a w (Step.here aL)
   ·obtain ⟨ab,cS,eg,eU⟩:=mem_ready.1 hi;have aR:=(sJ.1 eg).1;(have iR:listed.getD i true=false:=by simpa using ab);have kL:i∈c9 (List.range ops.size) listed:=(iW _ _ _).2 ⟨sH.2 aR,iR⟩;have bR:i<listed.size:=by
     rcases sL i listed.size with aX | aX
     ·exact aX
     ·simp [su,aX] at iR
    have w9:(listed.setIfInBounds i true).getD i true=true:=by
     simp [su,bR]
    have bJ:∀ k,k≠i→(listed.setIfInBounds i true).getD k true=listed.getD k true:=fun k al=>by
     simp only [su];rw [uI (Ne.symm al)]
    have zo:∀ k,listed.getD k true=true→(listed.setIfInBounds i true).getD k true=true:=fun k al=>by
     by_cases e:k=i
     ·rw [e];exact w9
     ·rw [bJ k e];exact al
    obtain ⟨dk,q1,C8⟩:∃ dk,dv P C lo ops cS (an.getD i {}) s=some dk ∧
      ((cU P C lo ops an (c9 (List.range ops.size) (listed.setIfInBounds i true)) dk=some s1∧cU P C lo ops an (c9 O (listed.setIfInBounds i true)) dk=some s2∧(listed.setIfInBounds i true).getD p true=false∧(listed.setIfInBounds i true).getD q true=false) ∨
        (cU P C lo ops an (c9 (List.range ops.size) (listed.setIfInBounds i true)) dk=some s1∧(listed.setIfInBounds i true).getD p true=true)∨(cU P C lo ops an (c9 O (listed.setIfInBounds i true)) dk=some s2∧(listed.setIfInBounds i true).getD q true=true)):=by
     rcases hinv with ⟨cf,ca,eS,iP⟩ | ⟨cf,ca⟩ | ⟨cf,ca⟩
     ·by_cases mn:i=p
      ·obtain ⟨dk,aJ,aN⟩:=f1 listed s s1 i cS cH eg iR eU (fun e=>absurd (mn.symm.trans e) Dq) cf;exact ⟨dk,aJ,.inr (.inl ⟨aN,by rw [←mn];exact w9⟩)⟩
      ·by_cases pM:i=q
       ·obtain ⟨dk,aJ,aN⟩:=f2 listed s s2 i cS cH eg iR eU (fun e=>absurd e mn) ca;exact ⟨dk,aJ,.inr (.inr ⟨aN,by rw [←pM];exact w9⟩)⟩
       ·obtain ⟨dk,aJ,aN⟩:=f1 listed s s1 i cS cH eg iR eU (fun e=>absurd e pM) cf;obtain ⟨G',cb,hq⟩:=f2 listed s s2 i cS cH eg iR eU (fun e=>absurd e mn) ca;rw [aJ] at cb;cases cb;exact ⟨dk,aJ,.inl ⟨aN,hq,by rw [bJ _ (Ne.symm mn)];exact eS,by rw [bJ _ (Ne.symm pM)];exact iP⟩⟩
     ·obtain ⟨dk,aJ,aN⟩:=f1 listed s s1 i cS cH eg iR eU (fun _=>ca) cf;exact ⟨dk,aJ,.inr (.inl ⟨aN,zo _ ca⟩)⟩
     ·obtain ⟨dk,aJ,aN⟩:=f2 listed s s2 i cS cH eg iR eU (fun _=>ca) cf;exact ⟨dk,aJ,.inr (.inr ⟨aN,zo _ ca⟩)⟩
    refine Bn bG bn eg q1 aL fun aM w' ah=>?_;obtain ⟨b5,cZ,a4,aJ,aN,cg⟩:=ah;refine a8 (listed.setIfInBounds i true) dk aM w' b5 cZ a4 ?_ ?_ C8 cg fun aD hl g7 hB dN=>bp aD hl g7 hB (dN.trans aJ aN)
    ·rw [Au uO,tS kL];omega
    ·intro k ok al ao e he af;by_cases iU:k=i
     ·subst iU;rw [eg] at al;cases al;exact getD_set_true (eU e he af)
     ·have:listed.getD k true=true:=by rw [getD_set_ne true (Ne.symm iU)] at ao;exact ao
      exact getD_set_true (cH k ok al this e he af)
theorem EV {F:Fence} (bG:ek F) (hm:P.follows .mixedOrders=true) {C:b8} (bn:c6 P C) {lo id:Nat} {ops:Array Oper} {an:List bZ} {x:List Nat×Nat×Nat} (a1:lZ ops an x=true) {Q:Exit→Act→World→Prop} {s s1 s2:a6} {a:Act}
  (ab:cU P C lo ops an (List.range ops.size) s=some s1) (ae:cU P C lo ops an x.1 s=some s2) (aL:cA B N aa J S w s a) (bp:∀ aD,aD=s1∨aD=s2→∀ aM w',Step B N aa J S w aD aM w'→Q .normal aM w'):(Code.region id ops true).wpIn F 0 P Q a w:=by
 obtain ⟨O,p,q⟩:=x;refine wpIn_region_any hm ?_;have hw:aK B aa J S w.drew s.H:=mz aL.H;have az:=ky aa S w;have gh:cA B N aa J S w.drew s a:=⟨⟨aL.T.len,fun i u v hu ad=>(aL.T.rel i u v hu ad).mono (Ext.refl J) az.set,fun i u v hu ad=>(aL.T.own i u v hu ad).mono (Ext.refl J) az.set fun b af=>⟨af,rfl,fun _ h=>h⟩⟩,hw,aL.M.az az⟩;have dX:∀ i,i<ops.size→(Array.replicate ops.size false).getD i true=false:=fun i hi=>by simp [su,hi]
 have kS:∀ O:List Nat,(∀ i,i∈O→i<ops.size)→c9 O (Array.replicate ops.size false)=O:=fun O l_=>by
  simp only [c9];rw [tC];intro i hi;rw [dX i (l_ i hi)];rfl
 have jO:=a1;simp only [lZ,sn] at jO;obtain ⟨⟨⟨⟨_,d6⟩,_⟩,d8⟩,d9⟩:=jO;have d8:p<ops.size:=by simpa [sR] using d8
 have d9:q<ops.size:=by simpa [sR] using d9
 rw [sm] at d6;refine BW bG bn a1 (s1:=s1) (s2:=s2) (lo:=lo) ops.size (Array.replicate ops.size false) s a w.drew aa J S (by rw [kS _ fun i hi=>sH.1 hi];simp) ?_ (.inl ⟨by rw [kS _ fun i hi=>sH.1 hi];exact ab,by rw [kS _ fun i hi=>by simpa [sR] using d6 i hi];exact ae,dX _ d8,dX _ d9⟩) gh fun aD hl aM w' ah=>bp aD hl aM w' (ah.trans (Ext.refl J) az);intro k o aq ao;have aR:=(sJ.1 aq).1;rw [dX k aR] at ao;cases ao
end
end Go.Proofs.YtkoioidpbbbaiaaGreat.Ab


namespace Go.Proofs.YtkoioidpbbbaiaaGreat.Ab
open Go
section
variable (P:Program)
def iI (lo:Nat) (ops:Array Oper) (o:Oper) (an:bZ) (s:a6) (K:a6→Prop):Prop :=
 (∃ C aD,c6 P C∧dv P C lo ops o an s=some aD∧K aD)∨yp o s K
def runN (lo:Nat) (ops:Array Oper):List Oper→List bZ→a6→(a6→Prop)→Prop
 | [],_,s,K=>K s
 | o::r,as,s,K=>iI P lo ops o (as.headD {}) s fun aD=>runN lo ops r as.tail aD K
def Fb (lo:Nat) (ops:Array Oper) (as:List bZ) (s:a6) (K:a6→Prop):Prop :=
 (∃ acc aD,h2 P acc∧(∀ C,c6 P C→iG C acc→ee P C lo ops ops.toList as s=some aD)∧K aD) ∨
  ∃ C aD,c6 P C∧ee P C lo ops ops.toList as s=some aD∧K aD
def Fc (lo:Nat) (ops:Array Oper) (as:List bZ) (x:List Nat×Nat×Nat) (s:a6) (K:a6→Prop):Prop :=
 ∃ acc s1 s2,h2 P acc∧(∀ C,c6 P C→iG C acc→cU P C lo ops as (List.range ops.size) s=some s1∧cU P C lo ops as x.1 s=some s2)∧K s1∧K s2
def fB (f:a6→(cQ→a6→Prop)→Prop):Nat→a6→(cQ→a6→Prop)→Prop
 | 0,_,_=>False
 | n+1,s,Q=>f s fun e aD=>match e with
   | .normal=>fB f n aD Q
   | e=>Q e aD
def dc (A:dw) (fn:FuncId) (lo:Nat) (rl:Option Nat):Code→Nat→a6→(cQ→a6→Prop)→Prop
 | .skip,_,s,Q=>Q .normal s
 | .region id ops draw,_,s,Q=>match kj A id draw with
   | some p=>Fc P lo ops (A.ops.getD id []) p (e5 A.im id s) (Q .normal)
   | none=>match draw with
     | true=>Fb P lo ops (A.ops.getD id []) (e5 A.im id s) (Q .normal)
     | false=>runN P lo ops ops.toList (A.ops.getD id []) (e5 A.im id s) (Q .normal)
 | .seq a b,a2,s,Q=>dc A fn lo rl a a2 s fun e aD=>match e with
   | .normal=>dc A fn lo rl b a2 aD Q
   | e=>Q e aD
 | .cond c a b,a2,s,Q=>(∃ t,az s.T c=.bool t∧match t with
   | true=>dc A fn lo rl a a2 s Q
   | false=>dc A fn lo rl b a2 s Q)∨(az s.T c=.dz∧dc A fn lo rl a a2 s Q∧dc A fn lo rl b a2 s Q)
 | .block id body,_,s,Q=>dc A fn lo rl body id s fun e aD=>match e with
   | .exit bC=>if bC=id then Q .normal aD else Q (.exit bC) aD
   | e=>Q e aD
 | .loop body,a2,s,Q=>∃ n,fB (fun aD=>dc A fn lo rl body a2 (e5 A.il a2 aD)) n s Q
 | .exit id,_,s,Q=>Q (.exit id) s
 | .ret,_,s,Q=>Q .ret s
 | .scope body,a2,s,Q=>dc A fn lo rl body a2 s Q
 | .label _,_,s,Q=>Q .normal s
 | .rangeFunc f params assign body,a2,s,Q=>∃ C e aD,c6 P C∧exec P A C fn lo 0 rl (.rangeFunc f params assign body) a2 s=some (e,aD)∧Q e aD
 | _,_,_,_=>False
end
section
variable {P:Program} {B N:Nat} {J:List Nat} {w:World} {H:List ar} {aa:Nat→Option aH} {S:Nat→Nat→Prop}
theorem Ge {F:Fence} (bG:ek F) {lo:Nat} {ops:Array Oper} {o:Oper} {an:bZ} {s:a6} {K':a6→Prop} (h:iI P lo ops o an s K') {a:Act} (aL:cA B N aa J S w s a)
  {rest:List Oper} {Q:Exit→Act→World→Prop} (fJ:∀ aD,K' aD→∀ aM w',Step B N aa J S w aD aM w'→wpListIn F 0 P ops Q rest aM w'):wpListIn F 0 P ops Q (o::rest) a w:=by
 rcases h with ⟨C,aD,bn,h,al⟩ | h
 ·unfold dv at h;unfold wpListIn;split at h
  ·rename_i hw;rw [lC aL hw];simp only [if_true];exact ye bG bn h aL fun aM w' ah=>fJ aD al aM w' ah
  ·rename_i hw;rw [lC aL hw];simp only [tO,if_false];simp only [Option.some.injEq] at h;subst h;exact ⟨fun f _=>bG.fn f,fJ _ al _ _ (Step.here (aL.skip o.dst))⟩
  ·simp at h
 ·have aO:o.guard=none:=by obtain ⟨_,_,_,_,_,_,_,_,aO,_⟩:=h;exact aO
  unfold wpListIn;have hw:Region.wanted o (yielded ops a.tmps)=true:=by unfold Region.wanted;rw [aO]
  rw [hw];simp only [if_true];exact Ev bG h aL fun aD al aM w' ah=>fJ aD al aM w' ah
theorem AQ {F:Fence} (bG:ek F) {lo:Nat} {ops:Array Oper} {K':a6→Prop} {Q:Exit→Act→World→Prop} :
  ∀ (rest:List Oper) (as:List bZ) (s:a6) (a:Act) (w:World) (aa:Nat→Option aH) (J:List Nat) (S:Nat→Nat→Prop),runN P lo ops rest as s K'→cA B N aa J S w s a →
    (∀ aD,K' aD→∀ aM w',Step B N aa J S w aD aM w'→Q .normal aM w')→wpListIn F 0 P ops Q rest a w
 | [],as,s,a,w,aa,J,S,h,aL,bp=>bp s h a w (Step.here aL)
 | o::rest,as,s,a,w,aa,J,S,h,aL,bp=>by
   refine Ge bG h aL fun aD al aM w' ah=>?_;obtain ⟨b5,cZ,a4,aJ,aN,cg⟩:=ah;exact AQ bG rest as.tail aD aM w' b5 cZ a4 al cg fun Fp C_ g7 hB dN=>bp Fp C_ g7 hB (dN.trans aJ aN)
theorem D2 {F:Fence} {c:Code} {f:a6→(cQ→a6→Prop)→Prop} {cM:cQ→a6→Prop} {Q:Exit→Act→World→Prop} {s:a6} {a:Act} {n:Nat}
  (h:fB f n s cM) (aL:cA B N aa J S w s a) (bp:∀ e aD,cM e aD→∀ aM w',Step B N aa J S w aD aM w'→Q (toExit e) aM w')
  (kG:∀ (s1:a6) (oY:cQ→a6→Prop),f s1 oY→∀ (lJ:Exit→Act→World→Prop) (aA:Act) (bI:World),(∀ l a w,lJ (.goto l) a w→Q (.goto l) a w)→Step B N aa J S w s1 aA bI →
   (∀ e s2,oY e s2→∀ aM w',Step B N aa J S w s2 aM w'→lJ (toExit e) aM w')→c.wpIn F 0 P lJ aA bI):(Code.loop c).wpIn F 0 P Q a w:=by
 classical
 let Inv:Nat→Act→World→Prop:=fun n aM w'=>∃ s1,fB f n s1 cM∧Step B N aa J S w s1 aM w'
 let gz:Act→World→Nat:=fun aM w'=>if h:∃ n,Inv n aM w' then Classical.choose (kA h) else 0
 have mG:∀ aM w',(∃ n,Inv n aM w')→Inv (gz aM w') aM w'∧∀ m,Inv m aM w'→gz aM w'≤m:=fun aM w' h=>by
  have:gz aM w'=Classical.choose (kA h):=by simp only [gz,dif_pos h]
  rw [this];exact uy (kA h)
 refine wpIn_loop (fun aM w'=>∃ n,Inv n aM w') gz ⟨n,s,h,Step.here aL⟩ fun aA bI kE=>?_;obtain ⟨⟨s1,ab,gP⟩,_⟩:=mG aA bI kE;cases aI:gz aA bI with
 | zero=>rw [aI] at ab;exact ab.elim
 | succ m =>
   rw [aI] at ab;simp only [fB] at ab;refine kG s1 _ ab _ aA bI (fun l a w h=>h) gP fun e s2 al aM w' dN=>?_;cases e with
   | normal =>
     have hinv:Inv m aM w':=⟨s2,al,dN⟩;exact ⟨⟨m,hinv⟩,Nat.lt_succ_of_le ((mG aM w' ⟨m,hinv⟩).2 m hinv)⟩
   | ret=>exact bp .ret s2 al aM w' dN
   | exit id=>exact bp (.exit id) s2 al aM w' dN
theorem Bx (eG:P.follows .mixedOrders=true) {A:dw} {fn:FuncId} {lo:Nat} {rl:Option Nat} :
  ∀ (c:Code) (a2:Nat) (s:a6) (K:cQ→a6→Prop),dc P A fn lo rl c a2 s K→codeOk A c=true →
    ∀ (F:Fence) (Q:Exit→Act→World→Prop) (B N:Nat) (J:List Nat) (w:World) (aa:Nat→Option aH) (S:Nat→Nat→Prop) (a:Act),jw F rl J→(∀ l a w,¬ Q (.goto l) a w) →
      cA B N aa J S w s a→(∀ e aD,K e aD→∀ aM w',Step B N aa J S w aD aM w'→Q (toExit e) aM w')→c.wpIn F 0 P Q a w:=by
 intro c
 induction c with
 | skip=>intro a2 s K h _ F Q B N J w aa S a bG aO aL bp;exact wpIn_skip (bp _ _ h a w (Step.here aL))
 | label l=>intro a2 s K h _ F Q B N J w aa S a bG aO aL bp;exact wpIn_label (bp _ _ h a w (Step.here aL))
 | ret=>intro a2 s K h _ F Q B N J w aa S a bG aO aL bp;exact wpIn_ret (bp _ _ h a w (Step.here aL))
 | exit id=>intro a2 s K h _ F Q B N J w aa S a bG aO aL bp;exact wpIn_exit (bp _ _ h a w (Step.here aL))
 | goto l=>intro a2 s K h;exact h.elim
 | refuse y=>intro a2 s K h;exact h.elim
 | region id ops draw =>
   intro a2 s K h bT F Q B N J w aa S a bG aO aL bp;simp only [dc] at h;simp only [codeOk,xN] at bT;split at h
   ·rename_i p kV;rw [kV] at bT;cases draw with
    | false=>simp [kj] at kV
    | true =>
      obtain ⟨acc,s1,s2,hK,aj,Da,pO⟩:=h;obtain ⟨C,bn,cq⟩:=nt hK;obtain ⟨lE,lF⟩:=aj C bn cq;exact EV bG.kB eG bn bT lE lF (aL.cE _ _) fun aD hl aM w' ah=>by
       rcases hl with rfl | rfl
       ·exact bp _ _ Da aM w' ah
       ·exact bp _ _ pO aM w' ah
   rename_i kV;rw [kV] at bT;cases draw with
   | true =>
     rcases h with ⟨acc,aD,hK,aj,al⟩ | ⟨C,aD,bn,aj,al⟩
     ·obtain ⟨C,bn,cq⟩:=nt hK;exact xO bG.kB eG bn (fun _=>by simpa using bT) (aj C bn cq) (aL.cE _ _) fun aM w' ah=>bp _ _ al aM w' ah
     ·exact xO bG.kB eG bn (fun _=>by simpa using bT) aj (aL.cE _ _) fun aM w' ah=>bp _ _ al aM w' ah
   | false=>exact wpIn_region_list (AQ bG.kB ops.toList _ _ a w aa J S h (aL.cE _ _) fun aD al aM w' ah=>bp _ _ al aM w' ah)
 | seq x y n1 xm =>
   intro a2 s K h bT F Q B N J w aa S a bG aO aL bp;simp only [codeOk,sn] at bT;refine wpIn_seq (n1 _ _ _ h bT.1 F _ B N J w aa S a bG (fun l a w=>aO l a w) aL fun e s1 al aM w' ah=>?_);cases e with
   | normal =>
     obtain ⟨b5,cZ,a4,aJ,aN,cg⟩:=ah;exact xm _ _ _ al bT.2 F Q B N cZ w' b5 a4 aM (bG.ext aJ) aO cg fun e s2 pO g7 hB dN=>bp e s2 pO g7 hB (dN.trans aJ aN)
   | ret=>exact bp _ _ al aM w' ah
   | exit id=>exact bp _ _ al aM w' ah
 | cond x t f n0 nZ =>
   intro a2 s K h bT F Q B N J w aa S a bG aO aL bp;simp only [codeOk,sn] at bT;rcases h with ⟨b,af,h⟩ | ⟨af,ab,ae⟩
   ·have ai:=aL.az x;rw [af] at ai;cases b with
    | true=>exact wpIn_cond_true ai.h6 (n0 _ _ _ h bT.1 F Q B N J w aa S a bG aO aL bp)
    | false=>exact wpIn_cond_false ai.h6 (nZ _ _ _ h bT.2 F Q B N J w aa S a bG aO aL bp)
   ·have ai:=aL.az x;rw [af] at ai;obtain ⟨b,ai⟩:=ai.BX;cases b with
    | true=>exact wpIn_cond_true ai (n0 _ _ _ ab bT.1 F Q B N J w aa S a bG aO aL bp)
    | false=>exact wpIn_cond_false ai (nZ _ _ _ ae bT.2 F Q B N J w aa S a bG aO aL bp)
 | block id c a8 =>
   intro a2 s K h bT F Q B N J w aa S a bG aO aL bp;refine wpIn_block ?_;refine a8 _ _ _ h bT F _ B N J w aa S a bG (fun l a w=>aO l a w) aL fun e s1 al aM w' ah=>?_;cases e with
   | normal=>exact bp _ _ al aM w' ah
   | ret=>exact bp _ _ al aM w' ah
   | exit bC =>
     simp only at al;by_cases aE:bC=id
     ·simp only [aE,if_true] at al;simp only [toExit,Exit.inBlock,aE,if_true];exact bp _ _ al aM w' ah
     ·simp only [aE,if_false] at al;simp only [toExit,Exit.inBlock,aE,if_false];exact bp _ _ al aM w' ah
 | loop c a8 =>
   intro a2 s K h bT F Q B N J w aa S a bG aO aL bp;obtain ⟨n,h⟩:=h;refine D2 h aL bp fun s1 oY ab lJ aA bI Ds ah fJ=>?_;obtain ⟨b5,cZ,a4,aJ,aN,cg⟩:=ah;exact a8 _ _ _ ab bT F lJ B N cZ bI b5 a4 aA (bG.ext aJ) (fun l a w h=>aO l a w (Ds l a w h)) (cg.cE _ _) fun e s2 al aM w' dN=>fJ e s2 al aM w' (dN.trans aJ aN)
 | scope c a8 =>
   intro a2 s K h bT F Q B N J w aa S a bG aO aL bp;exact BA (a8 _ _ _ h bT F Q B N J w aa S a bG aO aL bp) aO
 | rangeFunc f params assign body _ _ =>
   intro a2 s K h bT F Q B N J w aa S a bG aO aL bp;obtain ⟨C,e,aD,bn,aj,al⟩:=h;exact nF bn eG _ _ _ _ _ aj bT F Q B N J w aa S a bG aO aL fun aM w' ah=>bp _ _ al aM w' ah
def lI (H H':List ar):Prop:=H'.length=H.length∧∀ (id:Nat) (o:ar),H'[id]?=some o→o=.dead∨H[id]?=some o
theorem lI.refl (H:List ar):lI H H:=⟨rfl,fun _ _ h=>.inr h⟩
theorem aK.pc {H':List ar} (ag:aK B aa J S w H) (h:lI H H'):aK B aa J S w H' :=
 ⟨by rw [h.1];exact ag.cK,fun id o aq=>by
  rcases h.2 id o aq with rfl | aX
  ·trivial
  ·exact ag.obj id o aX,ag.cd,ag.base,ag.c0⟩
theorem aZ.pc {H1 H':List ar} {r:I} {v:Value} {w':World} (h:lI H1 H') (aB:aZ B aa J S w H1 r v w'):aZ B aa J S w H' r v w':=by
 obtain ⟨bu,ck,bL,a,b,c,d⟩:=aB;exact ⟨bu,ck,bL,a,b,c.pc h,d⟩
theorem G_ (eG : P.follows .mixedOrders = true) {k : Nat} {f : Func} {c : Code} (aP : P.funcs[k]? = some f) (af : f.body = some c) (aI : f.name ≠ "runtime.NumGoroutine") {A : dw} (bT : codeOk A c = true)
  {args:List I} {v:I} (aB:cr 8 v=true)
  (h:dc P A k 0 none c 0 ⟨args++List.replicate (f.ntmps-args.length) .a0,[]⟩ fun e s=>(e=.normal∨e=.ret)∧∃ vs r,gX P s.H s.T f.results.toList=some vs∧bM s.H 0 s.H.length 0 8 (jg vs)=some r∧(r=v∨r.settle=v)):nn P k args v:=by
 refine ⟨⟨a'.refl _ _,⟨f,aP,by simp [af],aI⟩,fun B aa J S w xs ag _ ad=>?_⟩,aB⟩;refine callsIn_of_wp_marks aP af trivial ?_;have aL:=yd ag ad f.ntmps;have dB:=(oP ag).1;refine Bx eG c 0 _ _ h bT Fence.wide _ B w.heap.size J w (hY aa) S _ (.inl ⟨rfl,rfl⟩) (fun l a w aO=>aO.elim) aL fun e s al aM w' ah=>?_;obtain ⟨he,vs,r,ai,C0,eH⟩:=al;obtain ⟨b5,cZ,a4,aJ,aN,cg⟩:=ah;have iV:LeavesInM Fence.wide 0 P f aM.tmps (fZ B aa J S w [] v) aM.defers .returning w':=by
  refine n5 (aa:=b5) (S:=a4) (J:=cZ) (B:=B) (H:=s.H) (lH:=aa) (S0:=S) (w0:=w) aM.defers w' cg.M.2.1 cg.M.2.2 (dB.trans aN) cg.H fun bX dD dt mJ mK=>?_
  have b0:a5 .slot b5 cZ a4 bX s.T aM.tmps.toList:=⟨cg.T.len,fun i u v hu ad=>(cg.T.rel i u v hu ad).mono (Ext.refl _) (fun b o h=>⟨h,dt b o h⟩),fun i u v hu ad =>
   (cg.T.own i u v hu ad).mono (Ext.refl _) (fun b o h=>⟨h,dt b o h⟩) fun b af=>⟨af,dD b _ af,fun _ h=>h⟩⟩
  obtain ⟨x,q1,aW⟩:=xS mK b0 ai;have kQ:=xG ag (fun id aE=>by simp at aE) C0 (aZ.after aJ mJ aW);refine ⟨x,q1,?_⟩;rcases eH with rfl | eH
  ·exact kQ
  ·cases r with
   | av cells len eo =>
     cases eo with
     | uniq z=>simp only [I.settle] at eH;subst eH;exact kQ.settle
     | _=>simp only [I.settle] at eH;subst eH;exact kQ
   | _=>simp only [I.settle] at eH;subst eH;exact kQ
 rcases he with rfl | rfl
 ·exact iV
 ·exact iV
theorem Hb (eG : P.follows .mixedOrders = true) {k : Nat} {f : Func} {c : Code} (aP : P.funcs[k]? = some f) (af : f.body = some c) (aI : f.name ≠ "runtime.NumGoroutine") {A : dw} (bT : codeOk A c = true)
  {lo:Nat} {args:List I} {H H':List ar} {r:I} (ao:a' lo H H')
  (h:dc P A k lo none c 0 ⟨args++List.replicate (f.ntmps-args.length) .a0,H⟩ fun e s=>(e=.normal∨e=.ret)∧lI s.H H'∧∃ vs,gX P s.H s.T f.results.toList=some vs∧jg vs=r):Sem P (.fn k) args H lo r H':=by
 refine ⟨ao,⟨f,aP,by simp [af],aI⟩,fun B aa J S w xs ag _ ad=>?_⟩;refine callsIn_of_wp_marks aP af trivial ?_;have aL:=yd ag ad f.ntmps;have dB:=(oP ag).1;refine Bx eG c 0 _ _ h bT Fence.wide _ B w.heap.size J w (hY aa) S _ (.inl ⟨rfl,rfl⟩) (fun l a w aO=>aO.elim) aL fun e s al aM w' ah=>?_;obtain ⟨he,nK,vs,ai,rfl⟩:=al;obtain ⟨b5,cZ,a4,aJ,aN,cg⟩:=ah;have iV:LeavesInM Fence.wide 0 P f aM.tmps (fZ B aa J S w H' (jg vs)) aM.defers .returning w':=by
  refine n5 (aa:=b5) (S:=a4) (J:=cZ) (B:=B) (H:=s.H) (lH:=aa) (S0:=S) (w0:=w) aM.defers w' cg.M.2.1 cg.M.2.2 (dB.trans aN) cg.H fun bX dD dt mJ mK=>?_
  have b0:a5 .slot b5 cZ a4 bX s.T aM.tmps.toList:=⟨cg.T.len,fun i u v hu ad=>(cg.T.rel i u v hu ad).mono (Ext.refl _) (fun b o h=>⟨h,dt b o h⟩),fun i u v hu ad =>
   (cg.T.own i u v hu ad).mono (Ext.refl _) (fun b o h=>⟨h,dt b o h⟩) fun b af=>⟨af,dD b _ af,fun _ h=>h⟩⟩
  obtain ⟨v,q1,aW⟩:=xS mK b0 ai;exact ⟨v,q1,(aZ.after aJ mJ aW).pc nK⟩
 rcases he with rfl | rfl
 ·exact iV
 ·exact iV
end
end Go.Proofs.YtkoioidpbbbaiaaGreat.Ab


namespace Go.Proofs.YtkoioidpbbbaiaaGreat.Ab
open Go
inductive kq where
 | nc (t:Nat) | jq (t:Nat) | Bs (t:Nat) | cv (v:I)
inductive g5 where
 | one | str (s:Nat) | arr (s:Nat)
inductive h1 where
 | int (k:IntKind) | str (n:Nat)
inductive jy where
 | mU | nil (z:Nat) | Bq
 | zE (a:g5) | zF (a:g5) | take | Bp | Bk | Bj (s:Nat) | st (s:Nat) | box | yy | alloc (z:List I)
 | z1 (z:List I) (s:Nat) (bytes:Nat)
 | z0 (z:List I) (s:Nat) (bytes:Nat)
 | zJ | zH (n:Nat) | min | max
 | app (s bytes:Nat)
 | yr (s bytes:Nat)
 | yt (s bytes:Nat)
 | call (mode:Nat)
 | pick | build (z:List I) (bq:List (Nat×Nat)) | yA (k:Nat) (z:List I) (bq:List (Nat×Nat)) | yB (len s:Nat) (z:List I) (ix:List Nat) | yz (len s:Nat) (z:List I) (ix:List Nat)
 | z4 | bin (op:BinOp) | o3 (neq:Bool) | un (op:UnOp) | conv (k:IntKind)
 | zY (f:FuncId) (n m:Nat)
 | Bh (s:Nat) (l h m:Bool)
 | zZ | zR (fl:h1) | zQ (fl:h1) (ok:Bool) (zero:Option I) | zP (fl:h1) | AN | yH | zI
 | yM (off:Nat) | yS (off:Nat) (a:g5) | kY (s:Nat) | zu (len s:Nat) | ext (i:Nat)
 | other (o:Oper) (mode:Nat)
structure dP where
 dst:Option Nat
 Gd:List kq
 guard:Option (Nat×Bool)
 ip:Option Nat
 k:jy
inductive gE where
 | skip
 | ov (draw:Bool) (l:List dP)
 | seq (a b:gE)
 | cond (c:kq) (a b:gE)
 | block (id:Nat) (c:gE)
 | loop (cE:Option (List Bool)) (c:gE)
 | exit (id:Nat)
 | ret
 | AM (f:kq) (params:List Nat) (assign body:Code)
 | z6 (it:Nat) (dst:Option Nat) (l:List dP)
 | two (l1 l2:List dP)
noncomputable section
def mj (v:I) (K:I→Prop):Prop:=match v with
 | .int k n=>K (.int k n)
 | .bool b=>K (.bool b)
 | .av c n .shared=>K (.av c n .shared)
 | .av c n .full=>K (.av c n .full)
 | .av c n (.own z)=>K (.av c n (.own z))
 | .av c n (.uniq z)=>K (.av c n (.uniq z))
 | .agg cs=>K (.agg cs)
 | .ptr id off=>K (.ptr id off)
 | .bS cs=>K (.bS cs)
 | .ref id off n cap bb=>K (.ref id off n cap bb)
 | .func f a b=>K (.func f a b)
 | .yield id=>K (.yield id)
 | .map id=>K (.map id)
 | .tuple vs=>K (.tuple vs)
 | .a0=>K .a0
 | .eI=>K .eI
 | .str s=>K (.str s)
 | .raw c n z=>K (.raw c n z)
 | .cm i g n z=>K (.cm i g n z)
 | .dz=>K .dz
 | .c3 as c n z bs=>K (.c3 as c n z bs)
theorem nI (v:I) (K:I→Prop):mj v K=K v:=by
 unfold mj;split <;> rfl
def hI:List I→Nat→(I→Prop)→Prop
 | [],_,K=>K .a0
 | h::_,0,K=>K h
 | _::t,n+1,K=>hI t n K
theorem iQ:∀ (T:List I) (t:Nat) (K:I→Prop),hI T t K=K (df T t)
 | [],t,K=>rfl
 | h::T,0,K=>rfl
 | h::T,n+1,K=>by rw [hI,iQ T n K];rfl
def jn:List I→Nat→I→(List I→Prop)→Prop
 | [],_,_,K=>K []
 | _::t,0,v,K=>K (v::t)
 | h::t,n+1,v,K=>jn t n v fun iE=>K (h::iE)
theorem kf:∀ (T:List I) (t:Nat) (v:I) (K:List I→Prop),jn T t v K=K (g2 T t v)
 | [],t,v,K=>rfl
 | h::T,0,v,K=>rfl
 | h::T,n+1,v,K=>by rw [jn,kf T n v];rfl
def m4 (T:List I) (d:Option Nat) (v:I) (K:List I→Prop):Prop:=match d with
 | some d=>jn T d v K
 | none=>K T
theorem xK (T:List I) (d:Option Nat) (v:I) (K:List I→Prop):m4 T d v K=K (put T d v):=by
 cases d with
 | none=>rfl
 | some d=>exact kf T d v K
def kZ:List Bool→List I→(List I→Prop)→Prop
 | b::bs,v::vs,K=>kZ bs vs fun cY=>match b with
   | true=>K (v::cY)
   | false=>K (.a0::cY)
 | [],vs,K=>K vs
 | _::_,[],K=>K []
theorem zA:∀ (bs:List Bool) (vs:List I) (K:List I→Prop),kZ bs vs K=K (eZ bs vs)
 | [],vs,K=>by simp [kZ,eZ]
 | b::bs,[],K=>by simp [kZ,eZ]
 | b::bs,v::vs,K=>by rw [kZ,zA bs vs];cases b <;> simp [eZ]
def kn (v:I) (K:I→Prop):Prop:=match v with
 | .av c n (.own _)=>K (.av c n .shared)
 | .av c n (.uniq _)=>K (.av c n .shared)
 | .raw _ _ _=>K .a0
 | .c3 _ _ _ _ _=>K .a0
 | .cm id _ n z=>K (.ref id 0 n none z)
 | v=>K v
theorem ko (v:I) (K:I→Prop):kn v K=K v.view:=by
 cases v with
 | av c n k=>cases k <;> rfl
 | _=>rfl
def Bi (T:List I) (t:Nat) (v:I) (K:I→List I→Prop):Prop:=match v with
 | .av c n (.uniq z)=>jn T t (.av c n (.own z)) fun g6=>K (.av c n .shared) g6
 | .av c n (.own _)=>K (.av c n .shared) T
 | .raw _ _ _=>K .a0 T
 | .c3 _ _ _ _ _=>K .a0 T
 | .cm id _ n z=>K (.ref id 0 n none z) T
 | v=>K v T
theorem Gc (T:List I) (t:Nat) (v:I) (K:I→List I→Prop):Bi T t v K=K v.view (fX T t v):=by
 cases v with
 | av c n k =>
   cases k with
   | uniq z=>exact kf _ _ _ _
   | _=>rfl
 | _=>rfl
def gq:List kq→List I→(List I→List I→Prop)→Prop
 | [],T,K=>K [] T
 | .cv v::r,T,K=>gq r T fun vs bf=>K (v::vs) bf
 | .jq t::r,T,K=>hI T t fun v=>jn T t .a0 fun g6=>gq r g6 fun vs bf=>K (v::vs) bf
 | .Bs t::r,T,K=>hI T t fun v=>kn v fun v=>jn T t .a0 fun g6=>gq r g6 fun vs bf=>K (v::vs) bf
 | .nc t::r,T,K=>hI T t fun v=>Bi T t v fun v g6=>gq r g6 fun vs bf=>K (v::vs) bf
def hU (d':Bool):List Bool→List Operand→List kq
 | _,[]=>[]
 | ts,.tmp t::rest=>(match ts.headD false,d' with | true,true=>.jq t | true,false=>.Bs t | false,_=>.nc t)::hU d' ts.tail rest
 | ts,x::rest=>.cv (match d' with | true=>az [] x | false=>(az [] x).view)::hU d' ts.tail rest
theorem ji (d':Bool):∀ (xs:List Operand) (ts:List Bool) (T:List I) (K:List I→List I→Prop),gq (hU d' ts xs) T K=K (fm d' (rd T ts xs).1) (rd T ts xs).2
 | [],ts,T,K=>by cases d' <;> simp [hU,gq,rd,fm]
 | .tmp t::rest,ts,T,K=>by
   simp only [hU];cases bE:ts.headD false with
   | true =>
     cases d' with
     | true =>
       simp only [gq,iQ,kf,rd,bE,ji true rest];rfl
     | false =>
       simp only [gq,iQ,kf,ko,rd,bE,ji false rest];rfl
   | false =>
     simp only [gq,iQ,Gc,rd,bE,ji d' rest];cases d'
     ·simp only [fm,sG,I.kp (I.dm _)]
     ·rfl
 | .const v::rest,ts,T,K=>by
   simp only [hU,gq,rd,ji d' rest];cases d' <;> rfl
 | .func v::rest,ts,T,K=>by
   simp only [hU,gq,rd,ji d' rest];cases d' <;> rfl
 | .global v::rest,ts,T,K=>by
   simp only [hU,gq,rd,ji d' rest];cases d' <;> rfl
end
end Go.Proofs.YtkoioidpbbbaiaaGreat.Ab


namespace Go.Proofs.YtkoioidpbbbaiaaGreat.Ab
open Go
noncomputable section
def eJ {α:Type}:List α→Nat→(α→Prop)→Prop
 | [],_,_=>False
 | h::_,0,K=>K h
 | _::t,n+1,K=>eJ t n K
theorem e8 {α:Type}:∀ {l:List α} {n:Nat} {K:α→Prop},eJ l n K→∃ x,l[n]?=some x∧K x
 | [],_,_,h=>h.elim
 | h::_,0,_,k=>⟨h,rfl,k⟩
 | _::t,n+1,K,k=>by simpa using e8 (l:=t) (n:=n) (K:=K) k
theorem Ew {α:Type}:∀ {l:List α} {n:Nat} {x:α} {K:α→Prop},l[n]?=some x→K x→eJ l n K
 | [],_,_,_,h,_=>by simp at h
 | h::_,0,_,_,e,k=>by simp at e;subst e;exact k
 | _::t,n+1,_,K,e,k=>Ew (l:=t) (n:=n) (by simpa using e) k
def jt:List I→Nat→I→(List I→Prop)→Prop
 | [],_,_,_=>False
 | _::t,0,v,K=>K (v::t)
 | h::t,n+1,v,K=>jt t n v fun iE=>K (h::iE)
theorem lz:∀ {l:List I} {n:Nat} {v:I} {K:List I→Prop},jt l n v K→n<l.length∧K (l.set n v)
 | [],_,_,_,h=>h.elim
 | _::_,0,_,_,k=>⟨by simp,k⟩
 | h::t,n+1,v,K,k=>by
   obtain ⟨ab,ae⟩:=lz (l:=t) (n:=n) k;exact ⟨by simpa using ab,ae⟩
theorem Gn:∀ {l:List I} {n:Nat} {v:I} {K:List I→Prop},n<l.length→K (l.set n v)→jt l n v K
 | [],_,_,_,h,_=>by simp at h
 | _::_,0,_,_,_,k=>k
 | h::t,n+1,v,K,e,k=>Gn (l:=t) (n:=n) (by simpa using e) k
def lA:List I→Nat→List I→(List I→Prop)→Prop
 | l,_,[],K=>K l
 | l,n,v::vs,K=>jt l n v fun l'=>lA l' (n+1) vs K
theorem nf:∀ {vs l:List I} {n:Nat} {K:List I→Prop},lA l n vs K→(n+vs.length≤l.length∨vs=[])∧K (setCells n vs l)
 | [],_,_,_,h=>⟨.inr rfl,h⟩
 | v::vs,l,n,K,h=>by
   obtain ⟨ab,ae⟩:=lz h;obtain ⟨aF,ba⟩:=nf ae;refine ⟨.inl ?_,ba⟩;rcases aF with aF | rfl
   ·simp only [sV] at aF;simp only [sK];omega
   ·simp only [sK,tU];omega
def ot:Nat→List I→Nat→(List I→Prop)→Prop
 | 0,_,_,K=>K []
 | s+1,l,off,K=>eJ l off fun v=>kn v fun v=>mj v fun v=>ot s l (off+1) fun vs=>K (v::vs)
theorem Ak:∀ {s:Nat} {l:List I} {off:Nat} {K:List I→Prop},ot s l off K→(off+s≤l.length∨s=0)∧K (((l.drop off).take s).map I.view)
 | 0,l,off,K,h=>⟨.inr rfl,by simpa [ot] using h⟩
 | s+1,l,off,K,h=>by
   obtain ⟨v,ad,h⟩:=e8 h;rw [ko,nI] at h;obtain ⟨ab,ae⟩:=Ak h;have aR:=(sa.1 ad).1;refine ⟨.inl (by rcases ab with ab | rfl <;> omega),?_⟩;have a1:l.drop off=v::l.drop (off+1):=by
    rw [s0 aR,(sa.1 ad).2]
   rw [a1];simpa using ae
def ou:Nat→List I→Nat→(List I→Prop)→Prop
 | 0,_,_,K=>K []
 | s+1,l,off,K=>eJ l off fun v=>mj v fun v=>ou s l (off+1) fun vs=>K (v::vs)
theorem Al:∀ {s:Nat} {l:List I} {off:Nat} {K:List I→Prop},ou s l off K→(off+s≤l.length∨s=0)∧K ((l.drop off).take s)
 | 0,l,off,K,h=>⟨.inr rfl,by simpa [ou] using h⟩
 | s+1,l,off,K,h=>by
   obtain ⟨v,ad,h⟩:=e8 h;rw [nI] at h;obtain ⟨ab,ae⟩:=Al h;have aR:=(sa.1 ad).1;refine ⟨.inl (by rcases ab with ab | rfl <;> omega),?_⟩;have a1:l.drop off=v::l.drop (off+1):=by
    rw [s0 aR,(sa.1 ad).2]
   rw [a1];simpa using ae
def mN (a:g5) (l:List I) (off:Nat) (K:I→Prop):Prop:=match a with
 | .one=>eJ l off fun v=>kn v K
 | .str s=>ot s l off fun vs=>K (.agg vs)
 | .arr s=>off+s≤l.length∧K (.agg (((l.drop off).take s).map I.view))
def Ag (a:g5) (l:List I) (off:Nat) (K:I→Prop):Prop:=match a with
 | .one=>eJ l off fun v=>kn v K
 | .str s=>ou s l off fun vs=>K (.agg vs)
 | .arr s=>off+s≤l.length∧K (.agg ((l.drop off).take s))
def iL (P:Program) (t:TypeId):Option g5:=match dK P t,P.underlying t with
 | true,some (.struct _)=>(match bF P t with | some (s+1)=>some (.str (s+1)) | _=>none)
 | true,_=>(bF P t).map .arr
 | false,some _=>some .one
 | false,none=>none
section
variable {P:Program}
theorem yq {t:TypeId} {a:g5} (h:iL P t=some a):(a=.one∧dK P t=false∧∃ d,P.underlying t=some d)∨(∃ s,(a=.str (s+1)∧bF P t=some (s+1)∨a=.arr s∧bF P t=some s)∧dK P t=true):=by
 unfold iL at h;split at h
 ·rename_i ab _;split at h
  ·rename_i s ah;cases h;exact .inr ⟨_,.inl ⟨rfl,ah⟩,ab⟩
  ·cases h
 ·rename_i ab _;simp only [r_] at h;obtain ⟨s,ah,rfl⟩:=h;exact .inr ⟨s,.inr ⟨rfl,ah⟩,ab⟩
 ·rename_i d ab ae;cases h;exact .inl ⟨rfl,ab,d,ae⟩
 ·cases h
theorem n4 {t:TypeId} {a:g5} (cu:iL P t=some a) {l:List I} {off:Nat} {K:I→Prop} (h:mN a l off K):∃ v,e6 P t l off=some v∧K v:=by
 rcases yq cu with ⟨rfl,ab,d,ae⟩ | ⟨s,ae,ab⟩
 ·obtain ⟨v,ad,h⟩:=e8 h;rw [ko] at h;exact ⟨v.view,by simp [e6,ab,ae,ad],h⟩
 ·rcases ae with ⟨rfl,ae⟩ | ⟨rfl,ae⟩
  ·obtain ⟨aJ,aN⟩:=Ak h;exact ⟨_,by simp only [e6,ab,ae,sb];rw [if_pos (by omega)],aN⟩
  ·exact ⟨_,by simp only [e6,ab,ae,sb];rw [if_pos h.1],h.2⟩
theorem EL {t:TypeId} {a:g5} (cu:iL P t=some a) {l:List I} {off:Nat} {K:I→Prop} (h:Ag a l off K):∃ v,iK P t l off=some v∧K v.view:=by
 rcases yq cu with ⟨rfl,ab,d,ae⟩ | ⟨s,ae,ab⟩
 ·obtain ⟨v,ad,h⟩:=e8 h;rw [ko] at h;exact ⟨v,by simp [iK,ab,ae,ad],h⟩
 ·rcases ae with ⟨rfl,ae⟩ | ⟨rfl,ae⟩
  ·obtain ⟨aJ,aN⟩:=Al h;exact ⟨_,by simp only [iK,ab,ae,sb];rw [if_pos (by omega)],show K (I.view (.agg _)) from aN⟩
  ·exact ⟨_,by simp only [iK,ab,ae,sb];rw [if_pos h.1],show K (I.view (.agg _)) from h.2⟩
end
def oI (v:I) (K:I→Prop):Prop:=match v with
 | .av c n (.uniq z)=>K (.av c n (.own z))
 | v=>K v
theorem x' (v:I) (K:I→Prop):oI v K=K v.settle:=by
 cases v with
 | av c n k=>cases k <;> rfl
 | _=>rfl
def kv (v:I) (nj:I→Prop) (nk:List I→Prop):Prop:=match v with
 | .agg vc=>nk vc
 | .a0=>False
 | .tuple _=>False
 | .raw _ _ _=>False
 | .c3 _ _ _ _ _=>False
 | v=>nj v
theorem lU {v:I} {nj:I→Prop} {nk:List I→Prop} (h:kv v nj nk):(v.cells=some [v]∧nj v)∨∃ vc,v.cells=some vc∧v=.agg vc∧nk vc:=by
 cases v <;> first | exact .inl ⟨rfl,h⟩ | exact h.elim | exact .inr ⟨_,rfl,rfl,h⟩
def gd:List (Nat×Nat)→List I→List I→(List I→Prop)→Prop
 | [],[],cs,K=>K cs
 | (off,size)::bq,v::vs,cs,K=>kv v (fun v=>match Nat.beq size 1 with | true=>jt cs off v fun cs=>gd bq vs cs K | false=>False) (fun vc=>match Nat.beq vc.length size,Nat.blt 0 size with | true,true=>lA cs off vc fun cs=>gd bq vs cs K | _,_=>False)
 | _,_,_,_=>False
theorem iO {place:Nat→Option (Nat×Nat)}:∀ {ix:List Nat} {bq:List (Nat×Nat)} {vs cs:List I} {K:List I→Prop},gd bq vs cs K→ix.map place=bq.map some →
  ∃ c_,fC place cs (ix.zip vs)=some c_∧K c_
 | [],[],[],cs,K,h,_=>⟨cs,rfl,h⟩
 | i::ix,(off,size)::bq,v::vs,cs,K,h,aB=>by
   simp only [sG,List.cons.injEq] at aB;obtain ⟨fN,jZ⟩:=aB;simp only [gd] at h;simp only [vo,fC,fN];rcases lU h with ⟨ab,h⟩ | ⟨vc,ab,_,h⟩
   ·split at h
    ·rename_i ae;have ae:=sN ae;obtain ⟨aF,h⟩:=lz h;obtain ⟨c_,q1,aW⟩:=iO h jZ;subst ae;exact ⟨c_,by simp only [ab];rw [if_pos ⟨rfl,by omega⟩];exact q1,aW⟩
    ·exact h.elim
   ·split at h
    ·rename_i ae ba;have ae:=sN ae;(have ba:0<size:=by simpa [sR] using ba);obtain ⟨aF,h⟩:=nf h;obtain ⟨c_,q1,aW⟩:=iO h jZ;have bP:off+size≤cs.length:=by
      rcases aF with aF | aF
      ·omega
      ·rw [aF] at ae;simp only [tU] at ae;omega
     refine ⟨c_,?_,aW⟩;simp only [ab];rw [if_pos ⟨ae,bP⟩];exact q1
    ·exact h.elim
 | [],_::_,_,_,_,_,aB=>by simp at aB
 | _::_,[],_,_,_,_,aB=>by simp at aB
 | [],[],_::_,_,_,h,_=>h.elim
 | _::_,_::_,[],_,_,h,_=>h.elim
def A_:BinOp→Bool
 | .shl=>true
 | .shr=>true
 | _=>false
theorem FC {op:BinOp} {k k':IntKind} (h:(decide (k=k') || A_ op)=true):k=k'∨op=.shl∨op=.shr:=by
 rw [tA] at h;rcases h with h | h
 ·exact .inl (of_decide_eq_true h)
 ·cases op <;> first | exact .inr (.inl rfl) | exact .inr (.inr rfl) | cases h
def o2 (op:BinOp) (k:IntKind) (a b:Int) (K:I→Prop):Prop:=match op with
 | .add=>K (.int k (k.wrap (a+b)))
 | .sub=>K (.int k (k.wrap (a-b)))
 | .mul=>K (.int k (k.wrap (a*b)))
 | .quo=>b≠0∧K (.int k (k.wrap (a.tdiv b)))
 | .rem=>b≠0∧K (.int k (a.tmod b))
 | .eql=>K (.bool (decide (a=b)))
 | .neq=>K (.bool (decide (a≠b)))
 | .lss=>K (.bool (decide (a<b)))
 | .leq=>K (.bool (decide (a≤b)))
 | .gtr=>K (.bool (decide (b<a)))
 | .geq=>K (.bool (decide (b≤a)))
 | .and=>K (.int k (k.wrap (BitVec.ofInt k.bits a &&& BitVec.ofInt k.bits b).toNat))
 | .or=>K (.int k (k.wrap (BitVec.ofInt k.bits a ||| BitVec.ofInt k.bits b).toNat))
 | .xor=>K (.int k (k.wrap (BitVec.ofInt k.bits a ^^^ BitVec.ofInt k.bits b).toNat))
 | .shl=>0≤b∧K (.int k (k.wrap (a*2 ^ (Nat.min b.toNat k.bits))))
 | .shr=>0≤b∧K (.int k (a.fdiv (2 ^ (Nat.min b.toNat k.bits))))
 | _=>False
section
variable {P:Program}
theorem BN (op:BinOp) (t:TypeId) (k k':IntKind) (a b:Int):fo P op t (.int k a) (.int k' b)=match op with
  | .shl=>hG .shl k a b
  | .shr=>hG .shr k a b
  | op=>if k=k' then jB op k a b else none:=by cases op <;> rfl
theorem B3 {op:BinOp} {t:TypeId} {k k':IntKind} {a b:Int} {K:I→Prop} (al:k=k'∨op=.shl∨op=.shr) (h:o2 op k a b K):∃ v,fo P op t (.int k a) (.int k' b)=some v∧K v:=by
 rw [BN];cases op <;> simp only [o2] at h <;> try exact h.elim
 case shl=>exact ⟨_,by simp only [hG];rw [if_neg (by omega)],h.2⟩
 case shr=>exact ⟨_,by simp only [hG];rw [if_neg (by omega)],h.2⟩
 all_goals (obtain rfl:k=k':=by rcases al with al | al | al <;> first | exact al | cases al)
 all_goals simp only [if_true,jB]
 case quo=>exact ⟨_,by rw [if_neg h.1],h.2⟩
 case rem=>exact ⟨_,by rw [if_neg h.1],h.2⟩
 case neq =>
  have e:(a != b)=decide (a≠b):=by by_cases jL:a=b <;> simp [jL]
  exact ⟨_,rfl,by rw [e];exact h⟩
 case eql=>exact ⟨_,rfl,h⟩
 all_goals exact ⟨_,rfl,h⟩
end
end
end Go.Proofs.YtkoioidpbbbaiaaGreat.Ab


namespace Go.Proofs.YtkoioidpbbbaiaaGreat.Ab
open Go
noncomputable section
def x4 (v:I) (H:List ar) (K:I→List ar→Prop):Prop:=match v with
 | .av cells len (.uniq z)=>(len≠0∧K (.ref H.length 0 len none z) (H++[.cells cells]))∨(len=0∧K (.av cells len (.uniq z)) H)
 | .av [] 0 .full=>K (.av [] 0 .full) H
 | .ref id off len cap bb=>K (.ref id off len cap bb) H
 | _=>False
def xX (a:g5) (v:I) (H:List ar) (K:I→List ar→Prop):Prop:=match v with
 | .ptr id off=>eJ H id fun o=>match o with | .cells l=>mN a l off fun v=>K v H | .grow l _ _=>mN a l off fun v=>K v H | _=>False
 | .bS cells=>mN a cells 0 fun v=>K v H
 | _=>False
def x2 (lo:Nat) (v:I) (H:List ar) (K:I→List ar→Prop):Prop:=match v with
 | .ptr id off=>match Nat.ble lo id with
   | true=>eJ H id fun o=>match o with
     | .cells l=>(eJ l off fun v=>match v with | .av c n (.own z)=>K (.av c n (.own z)) (H.set id (.cells (l.set off (.av c n .shared)))) | .av c n .full=>K (.av c n .full) H | .raw c n z=>K (.av c n (.uniq z)) (H.set id (.cells (l.set off .a0))) | _=>False)
     | .grow l g cX=>(eJ l off fun v=>match v with | .av c n (.own z)=>K (.av c n (.own z)) (H.set id (.grow (l.set off (.av c n .shared)) g cX)) | .av c n .full=>K (.av c n .full) H | _=>False)
     | _=>False
   | false=>False
 | _=>False
def x3 (lo:Nat) (v:I) (H:List ar) (K:I→List ar→Prop):Prop:=match v with
 | .ptr id off=>match Nat.ble lo id with
   | true=>eJ H id fun o=>match o with | .cells l=>(eJ l off fun v=>match v with | .raw c n z=>n≠0∧K (.ref H.length 0 n none z) (H.set id (.cells (l.set off (.ref H.length 0 n none z)))++[.cells c]) | .av c n .full=>K (.av c n .full) H | _=>False) | _=>False
   | false=>False
 | _=>False
def x1 (lo:Nat) (p v:I) (H:List ar) (K:I→List ar→Prop):Prop:=match p with
 | .ptr id off=>match Nat.ble lo id with
   | true=>eJ H id fun o=>match o with
     | .cells l=>(match v with | .av c n (.uniq z)=>c.all g1=true∧n≠0∧jt l off (.raw c n z) fun l'=>K .a0 (H.set id (.cells l')) | _=>False)
     | _=>False
   | false=>False
 | _=>False
def x0 (lo s:Nat) (p v:I) (H:List ar) (K:I→List ar→Prop):Prop:=match p with
 | .ptr id off=>match Nat.ble lo id with
   | true=>eJ H id fun o=>match o with
     | .cells l=>(match v with | .c3 as c n z bs=>(match Nat.beq (as.length+1+bs.length) s with | true=>lA l off (as++.av c n (.own z)::bs) fun l'=>K .a0 (H.set id (.cells l')) | false=>False) | _=>False)
     | _=>False
   | false=>False
 | _=>False
def xW (k:Nat) (z:List I) (bq:List (Nat×Nat)) (vs:List I) (H:List ar) (K:I→List ar→Prop):Prop:=match vs.drop k,bq.drop k with
 | .av c n (.own s)::post,(off,1)::dO=>match (vs.take k).all I.plain && post.all I.plain && dO.all fun p=>Nat.blt off p.1 || Nat.ble (p.1+p.2) off with
   | true=>gd (bq.take k) (vs.take k) z fun eR=>match Nat.blt off eR.length with
     | true=>gd dO post (eR.set off .a0) fun ed=>K (.c3 (ed.take off) c n s (ed.drop (off+1))) H
     | false=>False
   | false=>False
 | .av c n (.uniq s)::post,(off,1)::dO=>match (vs.take k).all I.plain && post.all I.plain && dO.all fun p=>Nat.blt off p.1 || Nat.ble (p.1+p.2) off with
   | true=>gd (bq.take k) (vs.take k) z fun eR=>match Nat.blt off eR.length with
     | true=>gd dO post (eR.set off .a0) fun ed=>K (.c3 (ed.take off) c n s (ed.drop (off+1))) H
     | false=>False
   | false=>False
 | _,_=>False
def xZ (lo s:Nat) (p v:I) (H:List ar) (K:I→List ar→Prop):Prop:=match p with
 | .ptr id off=>match Nat.ble lo id with
   | true=>eJ H id fun o=>match o with
     | .cells l=>kv v (fun v=>match Nat.beq s 1 with | true=>oI v fun v=>jt l off v fun l'=>K .a0 (H.set id (.cells l')) | false=>False) (fun vc=>match Nat.beq vc.length s,Nat.blt 0 s with | true,true=>lA l off (vc.map I.settle) fun l'=>K .a0 (H.set id (.cells l')) | _,_=>False)
     | .grow l g z=>kv v (fun v=>match Nat.beq s 1 with | true=>oI v fun v=>jt l off v fun l'=>K .a0 (H.set id (.grow l' g z)) | false=>False) (fun vc=>match Nat.beq vc.length s,Nat.blt 0 s with | true,true=>lA l off (vc.map I.settle) fun l'=>K .a0 (H.set id (.grow l' g z)) | _,_=>False)
     | _=>False
   | false=>False
 | _=>False
def xU (v:I) (H:List ar) (K:I→List ar→Prop):Prop :=
 kv v (fun v=>oI v fun v=>K (.ptr H.length 0) (H++[.cells [v]])) (fun vc=>K (.ptr H.length 0) (H++[.cells (vc.map I.settle)]))
def xV (v:I) (H:List ar) (K:I→List ar→Prop):Prop :=
 kv v (fun v=>v.plain=true∧K (.bS [v]) H) (fun vc=>vc.all I.plain=true∧K (.bS vc) H)
def xA:List I→Int→(Int→Prop)→Prop
 | [],a,K=>K a
 | .int _ b::r,a,K=>xA r (min a b) K
 | _::_,_,_=>False
def xz:List I→Int→(Int→Prop)→Prop
 | [],a,K=>K a
 | .int _ b::r,a,K=>xz r (max a b) K
 | _::_,_,_=>False
def xT (lo s bytes:Nat) (x y:I) (H:List ar) (K:I→List ar→Prop):Prop:=match y with
 | .av new m _=>(new.length=m*s∧m*bytes≤140737488355328)∧match x with
   | .av cells n .full=>(m≠0∧(n+m)*bytes≤140737488355328∧cells.length=n*s)∧K (.cm H.length (H.length+1) (n+m) s) (H++[.grow (cells++new) (H.length+1) s,.dead])
   | .av cells n (.uniq z)=>(z=s∧m≠0∧(n+m)*bytes≤140737488355328)∧K (.cm H.length (H.length+1) (n+m) z) (H++[.grow (cells++new) (H.length+1) z,.dead])
   | .cm id gid n z=>match Nat.ble lo id with
     | true=>eJ H id fun o=>match o with
       | .grow l g cX=>((g=gid∧cX=z∧z=s∧l.length=n*z∧0<m∧(n+m)*bytes≤140737488355328)∧K (.cm H.length (H.length+1) (n+m) z) (H.set id .dead++[.grow (l++new) (H.length+1) z,.dead])) ∨
         ((g=gid∧cX=z∧z=s∧n*z<l.length∧0<m∧(n+m)*bytes≤140737488355328)∧K (.cm H.length (H.length+1) (n+m) z) (H.set id .dead++[.grow (l.take (n*z)++new) (H.length+1) z,.dead]))
       | _=>False
     | false=>False
   | _=>False
 | _=>False
def AJ (z:List I) (s bytes:Nat) (a b:I) (H:List ar) (K:I→List ar→Prop):Prop:=match a,b with
 | .int _ n,.int _ c=>0≤n∧n≤c∧c.toNat*bytes≤140737488355328∧K (.ref H.length 0 n.toNat (some c.toNat) s) (H++[.cells (e_ c.toNat z)])
 | _,_=>False
def AI (z:List I) (s bytes:Nat) (a b:I) (H:List ar) (K:I→List ar→Prop):Prop:=match a,b with
 | .int _ n,.int _ c=>n=c∧0≤n∧c.toNat*bytes≤140737488355328∧K (.av (e_ c.toNat z) n.toNat (.uniq s)) H
 | _,_=>False
def AE (v:I) (H:List ar) (K:I→List ar→Prop):Prop:=match v with
 | .av _ n _=>K (.int .i64 n) H
 | .ref _ _ n _ _=>K (.int .i64 n) H
 | _=>False
def oD (s bytes:Nat) (x:I) (new:List I) (m:Nat) (H:List ar) (K:I→List ar→Prop):Prop:=new.length=m*s∧m*bytes≤140737488355328∧match x with
    | .av cells n .shared=>m=0∧K (.av cells n .shared) H
    | .av cells n .full=>m≠0∧(n+m)*bytes≤140737488355328∧cells.length=n*s∧K (.av (cells++new) (n+m) (.uniq s)) H
    | .av cells n (.own z)=>z=s∧(n+m)*bytes≤140737488355328∧K (.av (cells++new) (n+m) (.own z)) H
    | .av cells n (.uniq z)=>z=s∧(n+m)*bytes≤140737488355328∧K (.av (cells++new) (n+m) (.uniq z)) H
    | _=>False
def oC (s bytes:Nat) (x y:I) (H:List ar) (K:I→List ar→Prop):Prop:=match y with
 | .av new m _=>oD s bytes x new m H K
 | .ref id off m _ z=>eJ H id fun o=>match o with
   | .cells l=>off+m*z≤l.length∧oD s bytes x (((l.drop off).take (m*z)).map I.view) m H K
   | _=>False
 | _=>False
def xY (s:Nat) (l h m:Bool) (x:I) (vs:List I) (H:List ar) (K:I→List ar→Prop):Prop:=match x with
 | .av cells n c=>match l,h,m,vs with
   | false,false,false,[]=>match c with
     | .uniq z=>K (.av (cells.take (n*z)) n (.uniq z)) H
     | .shared=>K (.av (cells.take (n*s)) n .shared) H
     | _=>False
   | true,false,false,[.int _ i]=>match c with
     | .own z=>(s=z∧0≤i∧i≤n)∧K (.av (cells.drop (i.toNat*z)) (n-i.toNat) (.own z)) H
     | .shared | .uniq _=>(0≤i∧i≤n)∧K (.av ((cells.drop (i.toNat*s)).take ((n-i.toNat)*s)) (n-i.toNat) .shared) H
     | _=>False
   | false,true,false,[.int _ j]=>match c with
     | .uniq z=>(0≤j∧j≤n)∧K (.av (cells.take (j.toNat*z)) j.toNat (.uniq z)) H
     | .shared | .own _=>(0≤j∧j≤n)∧K (.av (cells.take (j.toNat*s)) j.toNat .shared) H
     | _=>False
   | true,true,false,[.int _ i,.int _ j]=>match c with
     | .shared | .own _ | .uniq _=>(0≤i∧i≤j∧j≤n)∧K (.av ((cells.drop (i.toNat*s)).take ((j.toNat-i.toNat)*s)) (j.toNat-i.toNat) .shared) H
     | _=>False
   | false,true,true,[.int _ j,.int _ k]=>(j=k∧0≤j∧j≤n)∧K (.av (cells.take (j.toNat*s)) j.toNat .full) H
   | true,true,true,[.int _ i,.int _ j,.int _ k]=>(j=k∧0≤i∧i≤j∧j≤n)∧K (.av ((cells.drop (i.toNat*s)).take ((j.toNat-i.toNat)*s)) (j.toNat-i.toNat) .full) H
   | _,_,_,_=>False
 | .ref id off n cap bb=>match l,h,m,vs with
   | true,false,false,[.int _ i]=>bb=s∧(0≤i∧i≤n)∧(i<n→K (.ref id (off+i.toNat*s) (n-i.toNat) (cap.map (·-i.toNat)) bb) H)∧(i=n→K (.av [] 0 .shared) H)
   | false,true,false,[.int _ j]=>bb=s∧(0≤j∧j≤n∧0<n)∧K (.ref id off j.toNat cap bb) H
   | _,_,_,_=>False
 | .cm id gid n z=>match l,h,m,vs with
   | false,true,false,[.int _ j]=>(0≤j∧j≤n)∧K (.cm id gid j.toNat z) H
   | _,_,_,_=>False
 | _=>False
def Az (off:Nat) (v:I) (H:List ar) (K:I→List ar→Prop):Prop:=match v with
 | .ptr id o=>K (.ptr id (o+off)) H
 | .bS cells=>K (.bS (cells.drop off)) H
 | _=>False
def AA (s:Nat) (x i:I) (H:List ar) (K:I→List ar→Prop):Prop:=match i with
 | .int _ n=>match x with
   | .av cells len _=>(0≤n∧n<len)∧K (.bS (cells.drop (n.toNat*s))) H
   | .ref id off len _ _=>(0≤n∧n<len)∧K (.ptr id (off+n.toNat*s)) H
   | _=>False
 | _=>False
def AB (len s:Nat) (x i:I) (H:List ar) (K:I→List ar→Prop):Prop:=match i with
 | .int _ n=>match x with
   | .ptr id off=>(0≤n∧n<len)∧K (.ptr id (off+n.toNat*s)) H
   | .bS cells=>(0≤n∧n<len)∧K (.bS (cells.drop (n.toNat*s))) H
   | _=>False
 | _=>False
def k0 (fl:h1) (k:I):Prop:=match fl,k with
 | .int q,.int fW _=>q=fW
 | .str n,.agg cs=>cs.length=n
 | _,_=>False
def AH (lo:Nat) (fl:h1) (m k v:I) (H:List ar) (K:I→List ar→Prop):Prop:=match m with
 | .map id=>match Nat.ble lo id with
   | true=>k0 fl k∧∃ es clock,H[id]?=some (.map es clock)∧∃ r,fH k es 0=some r∧(match r with
     | some i=>K .a0 (H.set id (.map (es.modify i fun e=>(e.1,k,v)) clock))
     | none=>K .a0 (H.set id (.map (es++[(clock,k,v)]) (clock+1))))
   | false=>False
 | _=>False
def AG (fl:h1) (ok:Bool) (zero:Option I) (m k:I) (H:List ar) (K:I→List ar→Prop):Prop:=match m with
 | .map id=>k0 fl k∧∃ es clock,H[id]?=some (.map es clock)∧∃ r,fH k es 0=some r∧(match r with
   | some i=>∃ e,es[i]?=some e∧(match ok with | true=>K (.tuple [e.2.2,.bool true]) H | false=>K e.2.2 H)
   | none=>∃ z,zero=some z∧(match ok with | true=>K (.tuple [z,.bool false]) H | false=>K z H))
 | _=>False
def AF (lo:Nat) (fl:h1) (m k:I) (H:List ar) (K:I→List ar→Prop):Prop:=match m with
 | .map id=>match Nat.ble lo id with
   | true=>k0 fl k∧∃ es clock,H[id]?=some (.map es clock)∧∃ r,fH k es 0=some r∧(match r with
     | some i=>K (.tuple []) (H.set id (.map (es.eraseIdx i) clock))
     | none=>K (.tuple []) H)
   | false=>False
 | _=>False
def AK (m:I) (H:List ar) (K:I→List ar→Prop):Prop:=match m with
 | .map id=>∃ es clock,H[id]?=some (.map es clock)∧K (.ptr H.length 0) (H++[.iter id clock [] clock])
 | _=>False
def Ay (p:I) (H:List ar) (K:I→List ar→Prop):Prop:=match p with
 | .ptr r 0=>∃ m since seen clock gr es e,H[r]?=some (.iter m since seen clock)∧seen.getLast?=some gr∧H[m]?=some (.map es clock)∧es.find? (fun e=>e.1 == gr)=some e∧K (.tuple [e.2.1,e.2.2]) H
 | _=>False
def AD (m:I) (H:List ar) (K:I→List ar→Prop):Prop:=match m with
 | .map id=>∃ es clock,H[id]?=some (.map es clock)∧K (.int .i64 es.length) H
 | _=>False
def bO (P:Program) (lo:Nat) (k:jy) (vs:List I) (H:List ar) (K:I→List ar→Prop):Prop:=match k with
 | .mU=>match vs with | [v]=>K v H | _=>False
 | .nil z=>match vs with | [_]=>K (.av [] 0 (.uniq z)) H | _=>False
 | .Bq=>match vs with | [v]=>x4 v H K | _=>False
 | .zE a=>match vs with | [v]=>xX a v H K | _=>False
 | .zF a=>match vs with | [.bS cells]=>mN a cells 0 fun v=>K v H | _=>False
 | .take=>match vs with | [v]=>x2 lo v H K | _=>False
 | .Bp=>match vs with | [v]=>x3 lo v H K | _=>False
 | .Bk=>match vs with | [p,v]=>x1 lo p v H K | _=>False
 | .Bj s=>match vs with | [p,v]=>x0 lo s p v H K | _=>False
 | .st s=>match vs with | [p,v]=>xZ lo s p v H K | _=>False
 | .box=>match vs with | [v]=>xU v H K | _=>False
 | .yy=>match vs with | [v]=>xV v H K | _=>False
 | .alloc z=>K (.ptr H.length 0) (H++[.cells z])
 | .z1 z s bytes=>match vs with | [a,b]=>AJ z s bytes a b H K | _=>False
 | .z0 z s bytes=>match vs with | [a,b]=>AI z s bytes a b H K | _=>False
 | .zJ=>match vs with | [v]=>AE v H K | _=>False
 | .zH n=>match vs with | [.av _ _ _] | [.ref _ _ _ _ _] | [.map _]=>False | [_]=>K (.int .i64 n) H | _=>False
 | .min=>match vs with | .int k a::r=>xA r a fun n=>K (.int k n) H | _=>False
 | .max=>match vs with | .int k a::r=>xz r a fun n=>K (.int k n) H | _=>False
 | .app s bytes=>match vs with | [x,y]=>oC s bytes x y H K | _=>False
 | .yr s bytes=>match vs with | [x,y]=>xT lo s bytes x y H K | _=>False
 | .yt s bytes=>match vs with
   | [x,y]=>oC s bytes x y H fun v H'=>match v with
     | .av cells n (.uniq z)=>n≠0∧K (.ref H.length 0 n none z) (H++[.cells cells])
     | _=>False
   | _=>False
 | .call _=>False
 | .pick=>match vs with | [.bool c,a,b]=>(match c with | true=>K a H | false=>K b H) | _=>False
 | .build z bq=>gd bq vs z fun cs=>K (.agg cs) H
 | .yA k z bq=>xW k z bq vs H K
 | .yB len s z ix=>gd (ix.map fun i=>(i*s,s)) vs (e_ len z) fun cs=>K (.av cs len (.uniq s)) H
 | .yz len s z ix=>gd (ix.map fun i=>(i*s,s)) vs (e_ len z) fun cs=>K (.av cs len .full) H
 | .z4=>match vs with | [.ptr id off]=>K (.ptr id off) H | [.bS cells]=>K (.bS cells) H | _=>False
 | .bin op=>match vs with | [.int k a,.int k' b]=>(match decide (k=k') || A_ op with | true=>o2 op k a b fun v=>K v H | false=>False) | _=>False
 | .o3 neq=>match vs with | [.bool a,.bool b]=>(match neq with | true=>K (.bool (!(a == b))) H | false=>K (.bool (a == b)) H) | _=>False
 | .un op=>match vs with
   | [.bool b]=>(match op with | .not=>K (.bool !b) H | _=>False)
   | [.int k n]=>(match op with | .neg=>K (.int k (k.wrap (-n))) H | _=>False)
   | _=>False
 | .conv k=>match vs with | [.int _ n]=>K (.int k (k.wrap n)) H | _=>False
 | .zY f n m=>(match Nat.beq vs.length (n+m) with | true=>K (.func f (vs.take n) (vs.drop n)) H | false=>False)
 | .Bh s l h m=>match vs with | x::vs=>xY s l h m x vs H K | _=>False
 | .zZ=>K (.map H.length) (H++[.map [] 0])
 | .zR fl=>match vs with | [m,k,v]=>AH lo fl m k v H K | _=>False
 | .zQ fl ok z=>match vs with | [m,k]=>AG fl ok z m k H K | _=>False
 | .zP fl=>match vs with | [m,k]=>AF lo fl m k H K | _=>False
 | .AN=>match vs with | [m]=>AK m H K | _=>False
 | .yH=>match vs with | [m]=>Ay m H K | _=>False
 | .zI=>match vs with | [m]=>AD m H K | _=>False
 | .yM off=>match vs with | [v]=>Az off v H K | _=>False
 | .yS off a=>match vs with | [.agg cs]=>Ag a cs off fun v=>K v H | _=>False
 | .kY s=>match vs with | [x,i]=>AA s x i H K | _=>False
 | .zu len s=>match vs with | [x,i]=>AB len s x i H K | _=>False
 | .ext i=>match vs with | [.tuple ws]=>(eJ ws i fun v=>kn v fun v=>K v H) | _=>False
 | .other o mode=>∃ v H',(∀ C,a3 P C lo o mode vs H=some (v,H'))∧K v H'
def oz (P:Program) (o:Oper) (mode:Nat) (x:Operand):jy:=match mode with
 | 0=>match iZ x,P.underlying o.type with
   | true,some (.slice e)=>(match bF P e with | some z=>.nil z | none=>.other o mode)
   | _,_=>.mU
 | 1=>.Bq
 | _=>.other o mode
def mL (P:Program) (t:TypeId):Option (h1×TypeId):=match j6 P t with
 | some (k,e)=>(match P.underlying k with
   | some (.int q)=>some (.int q,e)
   | some (.struct fs)=>some (.str fs.size,e)
   | _=>none)
 | none=>none
def gZ (P:Program) (o:Oper) (mode:Nat):jy:=match o.op with
 | .move x | .assign x=>oz P o mode x
 | .load t _=>match mode with
   | 0=>(match iL P t with | some a=>.zE a | none=>.other o mode)
   | 2=>(match P.underlying t with | some (.slice _)=>.Bp | _=>.other o mode)
   | 3=>(match iL P t with | some a=>.zF a | none=>.other o mode)
   | 1=>match P.underlying t with | some (.slice _)=>.take | _=>.other o mode
   | _=>.other o mode
 | .store t _ _=>match mode,bF P t with | 0,some s=>.st s | 2,some s=>.Bj s | 1,some 1=>.Bk | _,_=>.other o mode
 | .box _ _=>match mode with | 0=>.box | _=>.yy
 | .alloc t=>match mode with
   | 0=>(match zeroCells P t with | some z=>.alloc z | none=>.other o mode)
   | _=>(match zeroCells P t,P.underlying t with
     | some [.av [] 0 .full],some (.slice e)=>(match bF P e with | some s=>.alloc [.av [] 0 (.own s)] | none=>.other o mode)
     | _,_=>.other o mode)
 | .makeSlice t _ _=>match mode,P.underlying t with
   | 0,some (.slice e)=>(match bF P e,zeroCells P e,(P.info? e).map (·.bytes) with
     | some s,some z,some bytes=>(match Nat.beq z.length s && Nat.blt 0 s && Nat.ble 1 bytes with | true=>.z1 z s bytes | false=>.other o mode)
     | _,_,_=>.other o mode)
   | _+1,some (.slice e)=>(match bF P e,zeroCells P e,(P.info? e).map (·.bytes) with
     | some s,some z,some bytes=>(match Nat.beq z.length s && Nat.blt 0 s && Nat.ble 1 bytes with | true=>.z0 z s bytes | false=>.other o mode)
     | _,_,_=>.other o mode)
   | _,_=>.other o mode
 | .call c=>match c.callee with
   | .builtin b=>match b with
     | .len=>(match i_ P c.argTypes[0]? with
       | true=>.zJ
       | false=>match (c.argTypes[0]?).bind P.underlying with | some (.array n _)=>.zH n | some (.map _ _)=>.zI | _=>.other o mode)
     | .delete=>(match (c.argTypes[0]?).bind (mL P) with | some x=>.zP x.1 | none=>.other o mode)
     | .min=>.min
     | .max=>.max
     | .append=>(match c.argTypes.toList with
       | [t,dn]=>(match Nat.beq t dn,P.underlying t with
         | true,some (.slice e)=>(match bF P e,zeroCells P e,(P.info? e).map (·.bytes) with
           | some s,some z,some bytes=>(match Nat.beq z.length s && Nat.blt 0 s && Nat.ble 1 bytes,mode with | true,0=>.app s bytes | true,2=>.yt s bytes | true,_=>.yr s bytes | false,_=>.other o mode)
           | _,_,_=>.other o mode)
         | _,_=>.other o mode)
       | _=>.other o mode)
     | _=>.other o mode
   | .value _=>.call mode
   | .invoke _ _=>.other o mode
 | .makeMap t r=>match r,P.underlying t with | none,some (.map _ _)=>.zZ | _,_=>.other o mode
 | .mapUpdate t _ _ _=>match mL P t with | some x=>.zR x.1 | none=>.other o mode
 | .lookup t _ _ ok=>match mL P t with | some x=>.zQ x.1 ok (oU P x.2) | none=>.other o mode
 | .range t _=>match P.underlying t with | some (.map _ _)=>.AN | _=>.other o mode
 | .entry _=>.yH
 | .pick _ _ _=>.pick
 | .build t parts=>match zeroCells P t,P.underlying t with
   | some z,some (.struct fs)=>(match fs.toList.all (fun f=>(bF P f.type).isSome),mR (fun i=>(fs[i]?).bind fun f=>(bF P f.type).map fun s=>(f.offset,s)) (parts.toList.map (·.1)) with
     | true,some bq=>(match mode with | 0=>.build z bq | k+1=>.yA k z bq)
     | _,_=>.other o mode)
   | some z,some (.array _ e)=>(match bF P e,mode with | some s,0=>.build z (parts.toList.map fun p=>(p.1*s,s)) | _,_=>.other o mode)
   | _,_=>.other o mode
 | .buildSlice t len parts=>match P.underlying t with
   | some (.slice e)=>(match bF P e,zeroCells P e with
     | some s,some z=>(match Nat.beq z.length s && Nat.blt 0 s && Nat.ble (len*s) 16777216,mode with | true,0=>.yB len s z (parts.toList.map (·.1)) | true,_=>.yz len s z (parts.toList.map (·.1)) | false,_=>.other o mode)
     | _,_=>.other o mode)
   | _=>.other o mode
 | .nilCheck _=>.z4
 | .binOp op t _ y _=>match iZ y,P.underlying t with
   | false,some (.int _)=>.bin op
   | false,some .bool=>(match op with | .eql=>.o3 false | .neq=>.o3 true | _=>.other o mode)
   | _,_=>.other o mode
 | .unOp op _ _=>.un op
 | .convert src dst _=>match P.underlying src,P.underlying dst with
   | some _,some (.int k)=>.conv k
   | _,_=>.other o mode
 | .makeFunc fn first captured=>match fn with | .func f=>.zY f first.size captured.size | _=>.other o mode
 | .slice t _ l h m=>match P.underlying t with
   | some (.slice e)=>(match bF P e with | some s=>.Bh s l.isSome h.isSome m.isSome | none=>.other o mode)
   | _=>.other o mode
 | .fieldAddr t _ f=>match P.underlying t with
   | some (.struct fs)=>(match (fs[f]?).bind fun g=>(bF P g.type).map fun s=>(s,g.offset) with
     | some (s+1,off)=>.yM off
     | _=>.other o mode)
   | _=>.other o mode
 | .field t _ f=>match P.underlying t with
   | some (.struct fs)=>(match (fs[f]?).bind fun g=>(iL P g.type).map fun a=>(a,g.offset) with
     | some (a,off)=>.yS off a
     | _=>.other o mode)
   | _=>.other o mode
 | .indexAddr t _ _=>match P.underlying t with
   | some (.slice e)=>(match bF P e with | some s=>.kY s | none=>.other o mode)
   | some (.array len e)=>(match bF P e with | some s=>.zu len s | none=>.other o mode)
   | _=>.other o mode
 | .extract _ i=>.ext i
 | _=>.other o mode
where
 mR {α β:Type} (f:α→Option β):List α→Option (List β)
  | []=>some []
  | x::xs=>match f x with | some y=>(mR f xs).map (y::·) | none=>none
end
end Go.Proofs.YtkoioidpbbbaiaaGreat.Ab


namespace Go.Proofs.YtkoioidpbbbaiaaGreat.Ab
open Go
section
variable {P:Program} {H:List ar}
theorem gp {n bytes:Nat} (ab:n*bytes≤140737488355328) (ae:1≤bytes):fy n bytes=true:=by
 simp only [fy,sn,tD];exact ⟨ab,ae⟩
theorem E4 {lo:Nat} {t:TypeId} {a:g5} (cu:iL P t=some a) {v:I} {K:I→List ar→Prop} (h:xX a v H K):∃ r H',dF P lo 0 t H [v]=some (r,H')∧K r H':=by
 unfold xX at h;split at h
 ·obtain ⟨x,ao,h⟩:=e8 h;split at h
  ·obtain ⟨r,ab,ae⟩:=n4 cu h;exact ⟨r,H,by simp [dF,dy,ao,ab],ae⟩
  ·obtain ⟨r,ab,ae⟩:=n4 cu h;exact ⟨r,H,by simp [dF,dy,ao,ab],ae⟩
  ·exact h.elim
 ·obtain ⟨r,ab,ae⟩:=n4 cu h;exact ⟨r,H,by simp [dF,dy,ab],ae⟩
 ·exact h.elim
theorem E_ {lo:Nat} {t e:TypeId} (ax:P.underlying t=some (.slice e)) {v:I} {K:I→List ar→Prop} (h:x2 lo v H K):∃ r H',dF P lo 1 t H [v]=some (r,H')∧K r H':=by
 unfold x2 at h;split at h
 ·split at h
  ·rename_i bD;obtain ⟨x,ao,h⟩:=e8 h;have bD:=tr bD;split at h
   ·obtain ⟨v,ad,h⟩:=e8 h;split at h
    ·refine ⟨_,_,?_,h⟩;simp only [dF,ax,bD,if_true,ao,ad]
    ·refine ⟨_,_,?_,h⟩;simp only [dF,ax,bD,if_true,ao,ad];rfl
    ·refine ⟨_,_,?_,h⟩;simp only [dF,ax,bD,if_true,ao,ad];rfl
    ·exact h.elim
   ·obtain ⟨v,ad,h⟩:=e8 h;split at h
    ·refine ⟨_,_,?_,h⟩;simp only [dF,ax,bD,if_true,ao,ad]
    ·refine ⟨_,_,?_,h⟩;simp only [dF,ax,bD,if_true,ao,ad]
    ·exact h.elim
   ·exact h.elim
  ·exact h.elim
 ·exact h.elim
theorem E9 {lo:Nat} {t e:TypeId} (ax:P.underlying t=some (.slice e)) {v:I} {K:I→List ar→Prop} (h:x3 lo v H K):∃ r H',dF P lo 2 t H [v]=some (r,H')∧K r H':=by
 unfold x3 at h;split at h
 ·split at h
  ·rename_i bD;obtain ⟨x,ao,h⟩:=e8 h;have bD:=tr bD;split at h
   ·obtain ⟨v,ad,h⟩:=e8 h;split at h
    ·exact ⟨_,_,by simp only [dF,ax,bD,if_true,ao,ad];rw [if_neg h.1],h.2⟩
    ·exact ⟨_,_,by simp only [dF,ax,bD,if_true,ao,ad];rfl,h⟩
    ·exact h.elim
   ·exact h.elim
  ·exact h.elim
 ·exact h.elim
theorem E7 {lo:Nat} {t:TypeId} (ah:bF P t=some 1) {p v:I} {K:I→List ar→Prop} (h:x1 lo p v H K):∃ r H',gm P lo 1 t H [p,v]=some (r,H')∧K r H':=by
 unfold x1 at h;split at h
 ·split at h
  ·rename_i bD;have bD:=tr bD;obtain ⟨x,ao,h⟩:=e8 h;split at h
   ·split at h
    ·obtain ⟨ab,ae,h⟩:=h;obtain ⟨aF,h⟩:=lz h;refine ⟨.a0,_,?_,h⟩;simp only [gm,lN,ah];rw [if_pos ⟨ab,ae⟩];simp only [fS,bD,if_true,ao];rw [if_pos aF];rfl
    ·exact h.elim
   ·exact h.elim
  ·exact h.elim
 ·exact h.elim
theorem E6 {lo s:Nat} {t:TypeId} (ah:bF P t=some s) {p v:I} {K:I→List ar→Prop} (h:x0 lo s p v H K):∃ r H',gm P lo 2 t H [p,v]=some (r,H')∧K r H':=by
 unfold x0 at h;split at h
 ·split at h
  ·rename_i bD;have bD:=tr bD;obtain ⟨x,ao,h⟩:=e8 h;split at h
   ·split at h
    ·split at h
     ·rename_i af;have af:=sN af;obtain ⟨aF,h⟩:=nf h;refine ⟨.a0,_,?_,h⟩;have ba:∀ {a b:Nat},a+b≤a+b:=fun {a b}=>sc _;simp only [List.length_append,sK] at aF;simp only [gm,lM,ah];rw [if_pos af];simp only [fS,bD,if_true,ao];rw [if_pos (by rcases aF with aF | aF <;> first | omega | simp at aF)];rfl
     ·exact h.elim
    ·exact h.elim
   ·exact h.elim
  ·exact h.elim
 ·exact h.elim
theorem z_ {i:Nat} {c:List I} {n s:Nat} {q:hE} {r:List (Nat×I)} (a_:q=.own s∨q=.uniq s):∀ (l pre:List (Nat×I)),(∀ x∈l,x.2.plain=true)→jf pre (l++(i,.av c n q)::r)=some (pre++l,i,c,n,s,r)
 | [],pre,_=>by rcases a_ with rfl | rfl <;> simp [jf]
 | (j,u)::l,pre,h=>by
   have hu:u.plain=true:=h (j,u) (by simp);have a8:=z_ (i:=i) (c:=c) (n:=n) (r:=r) a_ l (pre++[(j,u)]) fun x aj=>h x (by simp [aj]);rw [sx,List.singleton_append] at a8;rw [List.cons_append,←a8];cases u with
   | av c n k=>cases k <;> first | rfl | simp [I.plain] at hu
   | _=>rfl
theorem E3 {t:TypeId} {fs:Array Field} {z:List I} (bk:zeroCells P t=some z) (hu:P.underlying t=some (.struct fs)) (c1:fs.toList.all (fun f=>(bF P f.type).isSome)=true) {ix:List Nat} {bq:List (Nat×Nat)}
  (kR:ix.map (fun i=>(fs[i]?).bind fun f=>(bF P f.type).map fun s=>(f.offset,s))=bq.map some) {k:Nat} {vs:List I} {K:I→List ar→Prop} (h:xW k z bq vs H K):∃ r,kr P t (ix.zip vs)=some r∧K r H:=by
 have key:∀ {c:List I} {n s off:Nat} {q:hE} {post:List I} {dO:List (Nat×Nat)},vs.drop k=.av c n q::post→bq.drop k=(off,1)::dO→(q=.own s∨q=.uniq s) →
   ((vs.take k).all I.plain && post.all I.plain && dO.all fun p=>Nat.blt off p.1 || Nat.ble (p.1+p.2) off)=true →
   (gd (bq.take k) (vs.take k) z fun eR=>match Nat.blt off eR.length with
   | true=>gd dO post (eR.set off .a0) fun ed=>K (.c3 (ed.take off) c n s (ed.drop (off+1))) H
   | false=>False)→∃ r,kr P t (ix.zip vs)=some r∧K r H:=by
  intro c n s off q post dO ad aB a_ mh h;simp only [sn,sm] at mh;obtain ⟨⟨a7,a9⟩,bt⟩:=mh;have GU:k<vs.length:=by
   have:=congrArg List.length ad;simp at this;omega
  have GR:k<bq.length:=by
   have:=congrArg List.length aB;simp at this;omega
  have GQ:ix.length=bq.length:=by have:=congrArg List.length kR;simpa using this
  have iU:k<ix.length:=by omega
  have az:vs=vs.take k++.av c n q::post:=by rw [←ad,vt]
  have Ci:ix=ix.take k++ix[k]::ix.drop (k+1):=by rw [←s0 iU,vt]
  have bU:(ix.take k).map (fun i=>(fs[i]?).bind fun f=>(bF P f.type).map fun s=>(f.offset,s))=(bq.take k).map some:=by rw [tQ,kR,tQ]
  have b1:(ix.drop k).map (fun i=>(fs[i]?).bind fun f=>(bF P f.type).map fun s=>(f.offset,s))=(bq.drop k).map some:=by rw [tG,kR,tG]
  rw [s0 iU,aB,sG,sG,List.cons.injEq] at b1;obtain ⟨b1,eb⟩:=b1;obtain ⟨eR,f1,h⟩:=iO h bU;split at h
  ·rename_i aR;(have aR:off<eR.length:=by simpa [sR] using aR);obtain ⟨ed,f2,h⟩:=iO h eb;refine ⟨_,?_,h⟩;have Cn:ix.zip vs=(ix.take k).zip (vs.take k)++(ix[k],.av c n q)::(ix.drop (k+1)).zip post:=by
    (conv=>lhs;rw [Ci,az]);rw [List.zip_append (by simp;omega),vo]
   have aC:jf [] (ix.zip vs)=some ((ix.take k).zip (vs.take k),ix[k],c,n,s,(ix.drop (k+1)).zip post):=by
    rw [Cn,z_ a_ _ _ (fun x aj=>a7 x.2 (uR (a:=x.1) (b:=x.2) aj).2),List.nil_append]
   have hM:(((ix.take k).zip (vs.take k)).all (fun x=>x.2.plain) && ((ix.drop (k+1)).zip post).all (fun x=>x.2.plain) && ((ix.drop (k+1)).zip post).all (fun x=>match (fs[x.1]?).bind fun f=>(bF P f.type).map fun s=>(f.offset,s) with | some (o,s)=>decide (off<o∨o+s≤off) | none=>false))=true:=by
    simp only [sn,sm];refine ⟨⟨fun x aj=>a7 x.2 (uR (a:=x.1) (b:=x.2) aj).2,fun x aj=>a9 x.2 (uR (a:=x.1) (b:=x.2) aj).2⟩,fun x aj=>?_⟩;have hm:=(uR (a:=x.1) (b:=x.2) aj).1;have nP:(fs[x.1]?).bind (fun f=>(bF P f.type).map fun s=>(f.offset,s))∈dO.map some:=by
     rw [←eb];exact List.mem_map_of_mem hm
    obtain ⟨p,aB,e⟩:=sD.1 nP;have:=bt p aB;rw [←e];simp only [tA,sR,tD] at this;exact decide_eq_true this
   unfold kr;rw [bk,hu,aC];dsimp only;rw [c1,b1];split
   ·rename_i e1 b';cases b';split
    ·rw [f1];simp only [sb];rw [if_pos aR,f2];rfl
    ·rename_i ak;exact absurd (ak.symm.trans hM) (by simp)
   ·rename_i ft;exact absurd rfl (ft off rfl)
  ·exact h.elim
 unfold xW at h;split at h
 ·rename_i ad aB;split at h
  ·rename_i ak;exact key ad aB (.inl rfl) ak h
  ·exact h.elim
 ·rename_i ad aB;split at h
  ·rename_i ak;exact key ad aB (.inr rfl) ak h
  ·exact h.elim
 ·exact h.elim
theorem E8 {lo s:Nat} {t:TypeId} (ah:bF P t=some s) {p v:I} {K:I→List ar→Prop} (h:xZ lo s p v H K):∃ r H',gm P lo 0 t H [p,v]=some (r,H')∧K r H':=by
 unfold xZ at h;split at h
 ·split at h
  ·rename_i bD;have bD:=tr bD;obtain ⟨x,ao,h⟩:=e8 h;split at h
   ·rcases lU h with ⟨ab,al⟩ | ⟨vc,ab,_,al⟩
    ·split at al
     ·rename_i ae;have ae:=sN ae;rw [x'] at al;obtain ⟨aF,al⟩:=lz al;clear h;subst ae;exact ⟨.a0,_,by simp only [gm,g8,ah,ab,gT,bD,if_true,ao];rw [if_pos ⟨rfl,by omega⟩];rfl,al⟩
     ·exact al.elim
    ·split at al
     ·rename_i ae ba;have ae:=sN ae;(have ba:0<s:=by simpa [sR] using ba);obtain ⟨aF,al⟩:=nf al;(have bP:=aF.resolve_right fun aF=>by simp only [List.map_eq_nil_iff] at aF;rw [aF] at ae;simp only [tU] at ae;omega);simp only [sY,ae] at bP;exact ⟨.a0,_,by simp only [gm,g8,ah,ab,gT,bD,if_true,ao];rw [if_pos ⟨ae,bP⟩];rfl,al⟩
     ·exact al.elim
   ·rcases lU h with ⟨ab,al⟩ | ⟨vc,ab,_,al⟩
    ·split at al
     ·rename_i ae;have ae:=sN ae;rw [x'] at al;obtain ⟨aF,al⟩:=lz al;clear h;subst ae;exact ⟨.a0,_,by simp only [gm,g8,ah,ab,gT,bD,if_true,ao];rw [if_pos ⟨rfl,by omega⟩];rfl,al⟩
     ·exact al.elim
    ·split at al
     ·rename_i ae ba;have ae:=sN ae;(have ba:0<s:=by simpa [sR] using ba);obtain ⟨aF,al⟩:=nf al;(have bP:=aF.resolve_right fun aF=>by simp only [List.map_eq_nil_iff] at aF;rw [aF] at ae;simp only [tU] at ae;omega);simp only [sY,ae] at bP;exact ⟨.a0,_,by simp only [gm,g8,ah,ab,gT,bD,if_true,ao];rw [if_pos ⟨ae,bP⟩];rfl,al⟩
     ·exact al.elim
   ·exact h.elim
  ·exact h.elim
 ·exact h.elim
theorem E2 {v:I} {K:I→List ar→Prop} (h:xU v H K):∃ r H',gW 0 H [v]=some (r,H')∧K r H':=by
 unfold xU at h;rcases lU h with ⟨ab,h⟩ | ⟨vc,ab,_,h⟩
 ·rw [x'] at h;exact ⟨_,_,by simp only [gW,ab,se,sG,List.map_nil],h⟩
 ·exact ⟨_,_,by simp only [gW,ab,se],h⟩
theorem E1 {mode:Nat} (hm:mode≠0) {v:I} {K:I→List ar→Prop} (h:xV v H K):∃ r H',gW mode H [v]=some (r,H')∧K r H':=by
 unfold xV at h;cases mode with
 | zero=>exact absurd rfl hm
 | succ m =>
 rcases lU h with ⟨ab,ae,h⟩ | ⟨vc,ab,_,ae,h⟩
 ·have aF:[v].all I.plain=true:=by simp [ae]
  exact ⟨_,_,by simp only [gW,ab,aF],h⟩
 ·exact ⟨_,_,by simp only [gW,ab,ae],h⟩
theorem zX:∀ (l:List I) (a:Int) {K:Int→Prop},xA l a K→∃ n,k7 l a=some n∧K n
 | [],a,K,h=>⟨a,rfl,h⟩
 | .int k b::r,a,K,h=>by
   obtain ⟨n,ab,ae⟩:=zX r _ h;(have e:min a b=if b<a then b else a:=by split <;> omega);rw [e] at ab;exact ⟨n,ab,ae⟩
 | .a0::_,_,_,h | .bool _::_,_,_,h | .eI::_,_,_,h | .ptr _ _::_,_,_,h | .bS _::_,_,_,h | .av _ _ _::_,_,_,h | .ref _ _ _ _ _::_,_,_,h | .func _ _ _::_,_,_,h | .yield _::_,_,_,h | .map _::_,_,_,h
 | .agg _::_,_,_,h | .tuple _::_,_,_,h | .str _::_,_,_,h | .raw _ _ _::_,_,_,h | .cm _ _ _ _::_,_,_,h=>h.elim
theorem zW:∀ (l:List I) (a:Int) {K:Int→Prop},xz l a K→∃ n,k6 l a=some n∧K n
 | [],a,K,h=>⟨a,rfl,h⟩
 | .int k b::r,a,K,h=>by
   obtain ⟨n,ab,ae⟩:=zW r _ h;(have e:max a b=if b > a then b else a:=by split <;> omega);rw [e] at ab;exact ⟨n,ab,ae⟩
 | .a0::_,_,_,h | .bool _::_,_,_,h | .eI::_,_,_,h | .ptr _ _::_,_,_,h | .bS _::_,_,_,h | .av _ _ _::_,_,_,h | .ref _ _ _ _ _::_,_,_,h | .func _ _ _::_,_,_,h | .yield _::_,_,_,h | .map _::_,_,_,h
 | .agg _::_,_,_,h | .tuple _::_,_,_,h | .str _::_,_,_,h | .raw _ _ _::_,_,_,h | .cm _ _ _ _::_,_,_,h=>h.elim
theorem E' {lo:Nat} {t:TypeId} {x:Operand} {v:I} {K:I→List ar→Prop} (h:x4 v H K):∃ r H',eX P lo 1 t x H [v]=some (r,H')∧K r H':=by
 unfold x4 at h;split at h
 ·rcases h with h | h
  ·exact ⟨_,_,by simp only [eX];rw [if_neg h.1],h.2⟩
  ·exact ⟨_,_,by simp only [eX];rw [if_pos h.1],h.2⟩
 ·exact ⟨_,_,rfl,h⟩
 ·exact ⟨_,_,rfl,h⟩
 ·exact h.elim
theorem Aw {t e:TypeId} {s bytes:Nat} (ax:P.underlying t=some (.slice e)) (ah:bF P e=some s) {z:List I} (bk:zeroCells P e=some z) (af:(P.info? e).map (·.bytes)=some bytes)
  (ev:z.length=s) (aQ:0<s) (ab:1≤bytes) {x y:I} {new:List I} {m:Nat} (eT:appended H y=some (m,new)) {K:I→List ar→Prop} (h:oD s bytes x new m H K):∃ r H',hQ P #[t,t] H [x,y]=some (r,H')∧K r H':=by
 unfold oD at h;obtain ⟨aA,aG,h⟩:=h;have ak:new.length=m*s∧0<s∧z.length=s∧fy m bytes=true:=⟨aA,aQ,ev,gp aG ab⟩;have key:∀ {r:I},fe P H t t x y=some r→hQ P #[t,t] H [x,y]=some (r,H):=fun h=>by simp [hQ,h]
 have beq:Nat.beq t t=true:=uQ t;split at h
 ·obtain ⟨bm,h⟩:=h;subst bm;refine ⟨_,_,key ?_,h⟩;simp only [fe,ax,ah,af,bk,beq,eT];rw [if_pos ak];rfl
 ·obtain ⟨bm,cw,e2,h⟩:=h;refine ⟨_,_,key ?_,h⟩;simp only [fe,ax,ah,af,bk,beq,eT];rw [if_pos ak];simp only [bm,if_false];rw [if_pos ⟨gp cw ab,e2⟩]
 ·obtain ⟨bm,cw,h⟩:=h;refine ⟨_,_,key ?_,h⟩;simp only [fe,ax,ah,af,bk,beq,eT];rw [if_pos ak];simp only [bm];rw [if_pos ⟨trivial,gp cw ab⟩]
 ·obtain ⟨bm,cw,h⟩:=h;refine ⟨_,_,key ?_,h⟩;simp only [fe,ax,ah,af,bk,beq,eT];rw [if_pos ak];simp only [bm];rw [if_pos ⟨trivial,gp cw ab⟩]
 ·exact h.elim
theorem Ax {t e:TypeId} {s bytes:Nat} (ax:P.underlying t=some (.slice e)) (ah:bF P e=some s) {z:List I} (bk:zeroCells P e=some z) (af:(P.info? e).map (·.bytes)=some bytes)
  (ev:z.length=s) (aQ:0<s) (ab:1≤bytes) {x y:I} {K:I→List ar→Prop} (h:oC s bytes x y H K):∃ r H',hQ P #[t,t] H [x,y]=some (r,H')∧K r H':=by
 unfold oC at h;split at h
 ·rename_i new m c;exact Aw ax ah bk af ev aQ ab (y:=.av new m c) rfl h
 ·rename_i id off m c cX;obtain ⟨o,aq,h⟩:=e8 h;split at h
  ·rename_i l;obtain ⟨bm,h⟩:=h;refine Aw ax ah bk af ev aQ ab (y:=.ref id off m c cX) ?_ h;simp only [appended,lenOf,rowOf,aq,if_pos bm]
  ·exact h.elim
 ·exact h.elim
theorem Nat.B7 {a b:Nat} (h:b=a):Nat.blt a b=false:=by
 cases af:Nat.blt a b with
 | false=>rfl
 | true=>have:=tr af;omega
theorem E0 {lo:Nat} {t e:TypeId} {s bytes:Nat} (ax:P.underlying t=some (.slice e)) (ah:bF P e=some s) {z:List I} (bk:zeroCells P e=some z) (af:(P.info? e).map (·.bytes)=some bytes)
  (ev:z.length=s) (aQ:0<s) (ab:1≤bytes) {x y:I} {K:I→List ar→Prop} (h:xT lo s bytes x y H K):∃ r H',jc P lo #[t,t] H [x,y]=some (r,H')∧K r H':=by
 unfold xT at h;split at h
 ·rename_i new m c;obtain ⟨⟨aA,aG⟩,h⟩:=h;have eT:appended H (.av new m c)=some (m,new):=rfl;have ak:new.length=m*s∧0<s∧z.length=s∧fy m bytes=true:=⟨aA,aQ,ev,gp aG ab⟩;have beq:Nat.beq t t=true:=uQ t;split at h
  ·rename_i cells n;obtain ⟨⟨bm,cw,e2⟩,h⟩:=h;refine ⟨_,_,?_,h⟩;have q:fe P H t t (.av cells n .full) (.av new m c)=some (.av (cells++new) (n+m) (.uniq s)):=by
    simp only [fe,ax,ah,af,bk,beq,eT];rw [if_pos ak];simp only [bm,if_false];rw [if_pos ⟨gp cw ab,e2⟩]
   simp only [jc,jo,iu,q];rw [if_neg (by omega)]
  ·rename_i cells n cX;obtain ⟨⟨rfl,bm,cw⟩,h⟩:=h;refine ⟨_,_,?_,h⟩;have q:fe P H t t (.av cells n (.uniq cX)) (.av new m c)=some (.av (cells++new) (n+m) (.uniq cX)):=by
    simp only [fe,ax,ah,af,bk,beq,eT];rw [if_pos ak];rw [if_pos ⟨trivial,gp cw ab⟩]
   simp only [jc,jo,iu,q];rw [if_neg (by omega)]
  ·rename_i id gid n z;split at h
   ·rename_i bD;have bD:=tr bD;obtain ⟨o,aE,h⟩:=e8 h;split at h
    ·rcases h with ⟨⟨cf,ca,eS,bm,cw,e2⟩,bP⟩ | ⟨⟨cf,ca,eS,bm,cw,e2⟩,bP⟩
     ·subst cf ca eS;refine ⟨_,_,?_,bP⟩;have iS:=Nat.B7 bm;simp only [jc,jo,aE,iS,Bool.false_and];simp only [iu,bD,if_true,ax,aE,ah,af,bk,eT];rw [if_pos ⟨trivial,trivial,trivial,trivial,bm,aA,aQ,cw,ev,gp aG ab,gp e2 ab⟩]
     ·rename_i l g cX;subst cf ca eS;refine ⟨_,_,?_,bP⟩;have iS:Nat.blt (n*cX) l.length=true:=tj bm;have gN:Nat.ble lo id=true:=tj bD;have C7:=(sa.1 aE).1;(have pK:(H.set id (.grow (l.take (n*cX)) g cX))[id]?=some (.grow (l.take (n*cX)) g cX):=by rw [sj C7]);simp only [jc,jo,aE,iS,gN,Bool.and_self];simp only [iu,bD,if_true,ax,pK,ah,af,bk];have CG:appended (H.set id (.grow (l.take (n*cX)) g cX)) (.av new m c)=some (m,new):=rfl;simp only [CG];rw [if_pos ⟨trivial,trivial,trivial,trivial,by rw [List.length_take];omega,aA,aQ,cw,ev,gp aG ab,gp e2 ab⟩,List.set_set,sV]
    ·exact h.elim
   ·exact h.elim
  ·exact h.elim
 ·exact h.elim
theorem E5 {t e:TypeId} {s:Nat} (ax:P.underlying t=some (.slice e)) (ah:bF P e=some s) {l h m:Option Operand} {x:I} {vs:List I} {K:I→List ar→Prop}
  (al:xY s l.isSome h.isSome m.isSome x vs H K):∃ r,ej P t l h m (x::vs)=some r∧K r H:=by
 unfold xY at al;split at al
 ·rename_i cells n c;split at al
  ·rename_i e1 b' dA;obtain rfl:=s6.1 e1 |> s7.1;obtain rfl:=s6.1 b' |> s7.1;obtain rfl:=s6.1 dA |> s7.1;split at al
   ·exact ⟨_,by simp [ej,ax,ah,cN,du],al⟩
   ·exact ⟨_,by simp [ej,I.view,e0,ax,ah,cN,du],al⟩
   ·exact al.elim
  ·rename_i k i e1 b' dA;obtain ⟨l,rfl⟩:=s_.1 e1;obtain rfl:=s6.1 b' |> s7.1;obtain rfl:=s6.1 dA |> s7.1;split at al
   ·obtain ⟨⟨rfl,af⟩,al⟩:=al;exact ⟨_,by simp [ej,ax,ah,cN,du,af],al⟩
   ·obtain ⟨af,al⟩:=al;exact ⟨_,by simp [ej,I.view,e0,ax,ah,cN,du,af],al⟩
   ·obtain ⟨af,al⟩:=al;exact ⟨_,by simp [ej,I.view,e0,ax,ah,cN,du,af],al⟩
   ·exact al.elim
  ·rename_i k j e1 b' dA;obtain rfl:=s6.1 e1 |> s7.1;obtain ⟨h,rfl⟩:=s_.1 b';obtain rfl:=s6.1 dA |> s7.1;split at al
   ·obtain ⟨af,al⟩:=al;exact ⟨_,by simp [ej,ax,ah,cN,du,af],al⟩
   ·obtain ⟨af,al⟩:=al;exact ⟨_,by simp [ej,I.view,e0,ax,ah,cN,du,af],al⟩
   ·obtain ⟨af,al⟩:=al;exact ⟨_,by simp [ej,I.view,e0,ax,ah,cN,du,af],al⟩
   ·exact al.elim
  ·rename_i k i k' j e1 b' dA;obtain ⟨l,rfl⟩:=s_.1 e1;obtain ⟨h,rfl⟩:=s_.1 b';obtain rfl:=s6.1 dA |> s7.1;have aw:0≤i∧i≤j∧j≤n→(0≤j∧j≤n)∧i≤max j 0:=fun af=>⟨⟨by omega,af.2.2⟩,by omega⟩;split at al
   ·obtain ⟨af,al⟩:=al;obtain ⟨q1,aW⟩:=aw af;exact ⟨_,by simp [ej,I.view,e0,ax,ah,cN,du,q1,aW,af.1],al⟩
   ·obtain ⟨af,al⟩:=al;obtain ⟨q1,aW⟩:=aw af;exact ⟨_,by simp [ej,I.view,e0,ax,ah,cN,du,q1,aW,af.1],al⟩
   ·obtain ⟨af,al⟩:=al;obtain ⟨q1,aW⟩:=aw af;exact ⟨_,by simp [ej,I.view,e0,ax,ah,cN,du,q1,aW,af.1],al⟩
   ·exact al.elim
  ·rename_i k j k' zy e1 b' dA;obtain rfl:=s6.1 e1 |> s7.1;obtain ⟨h,rfl⟩:=s_.1 b';obtain ⟨m,rfl⟩:=s_.1 dA;obtain ⟨⟨rfl,af⟩,al⟩:=al;(have q:j≤max j 0:=by omega);refine ⟨_,?_,al⟩;cases c <;> simp [ej,I.view,e0,ax,ah,cN,du,af,q]
  ·rename_i k i k' j G5 zy e1 b' dA;obtain ⟨l,rfl⟩:=s_.1 e1;obtain ⟨h,rfl⟩:=s_.1 b';obtain ⟨m,rfl⟩:=s_.1 dA;obtain ⟨⟨rfl,af⟩,al⟩:=al;(have q:j≤max j 0:=by omega);(have aW:i≤max j 0:=by omega);(have cF:0≤j:=by omega);refine ⟨_,?_,al⟩;cases c <;> simp [ej,I.view,e0,ax,ah,cN,du,af,q,aW,cF]
  ·exact al.elim
 ·rename_i id off n cap bb;split at al
  ·rename_i k i e1 b' dA;obtain ⟨l,rfl⟩:=s_.1 e1;obtain rfl:=s6.1 b' |> s7.1;obtain rfl:=s6.1 dA |> s7.1;obtain ⟨rfl,af,aJ,aN⟩:=al;by_cases hi:i<n
   ·(have hi':i.toNat<n:=by omega);exact ⟨_,by simp [ej,I.view,e0,ax,ah,cN,du,af,hi'],aJ hi⟩
   ·(have hi':¬ i.toNat<n:=by omega);exact ⟨_,by simp [ej,I.view,e0,ax,ah,cN,du,af,hi'],aN (by omega)⟩
  ·rename_i k j e1 b' dA;obtain rfl:=s6.1 e1 |> s7.1;obtain ⟨h,rfl⟩:=s_.1 b';obtain rfl:=s6.1 dA |> s7.1;obtain ⟨rfl,⟨bm,cw,e2⟩,al⟩:=al;(have ak:cap.map (·-0)=cap:=by cases cap <;> rfl);exact ⟨_,by simp [ej,I.view,e0,ax,ah,cN,du,bm,cw,e2],al⟩
  ·exact al.elim
 ·rename_i id gid n z;split at al
  ·rename_i k j e1 b' dA;obtain rfl:=s6.1 e1 |> s7.1;obtain ⟨h,rfl⟩:=s_.1 b';obtain rfl:=s6.1 dA |> s7.1;obtain ⟨af,al⟩:=al;exact ⟨_,by simp [ej,ax,ah,cN,du,af],al⟩
  ·exact al.elim
 ·exact al.elim
end
end Go.Proofs.YtkoioidpbbbaiaaGreat.Ab


namespace Go.Proofs.YtkoioidpbbbaiaaGreat.Ab
open Go
section
variable {P:Program} {H:List ar}
theorem xx {α β:Type} {f:α→Option β}:∀ {l:List α} {r:List β},gZ.mR f l=some r→l.map f=r.map some
 | [],r,h=>by simp [gZ.mR] at h;subst h;rfl
 | x::xs,r,h=>by
   simp only [gZ.mR] at h;split at h
   ·rename_i y aY;simp only [r_] at h;obtain ⟨ys,h,rfl⟩:=h;simp [aY,xx h]
   ·simp at h
theorem xp {t:TypeId} {x:h1×TypeId} (h:mL P t=some x):∃ d_,j6 P t=some (d_,x.2)∧∀ k,k0 x.1 k→isKey P d_ k=true:=by
 unfold mL at h;split at h
 ·rename_i d_ e hm;split at h
  ·rename_i q a_;cases h;refine ⟨d_,hm,fun k al=>?_⟩;cases k <;> simp only [k0] at al;subst al;simp [isKey,a_]
  ·rename_i fs ah;cases h;refine ⟨d_,hm,fun k al=>?_⟩;cases k <;> simp only [k0] at al;simp [isKey,ah,al]
  ·cases h
 ·cases h
theorem oy {lo:Nat} {o:Oper} {mode:Nat} {vs:List I} {K:I→List ar→Prop} (h:bO P lo (gZ P o mode) vs H K):∃ v H',(∀ C,a3 P C lo o mode vs H=some (v,H'))∧K v H':=by
 have G9:∀ {x:jy},x=.other o mode→bO P lo x vs H K→∃ v H',(∀ C,a3 P C lo o mode vs H=some (v,H'))∧K v H':=fun e h=>by subst e;exact h
 have pure:∀ {r:I},(∀ C,a3 P C lo o mode vs H=(cB P o vs).map (·,H))→cB P o vs=some r→K r H→∃ v H',(∀ C,a3 P C lo o mode vs H=some (v,H'))∧K v H':=fun ab ae aF=>⟨_,H,fun C=>by rw [ab C,ae];rfl,aF⟩;have mU:∀ x,(o.op=.move x∨o.op=.assign x)→(∀ C,a3 P C lo o mode vs H=eX P lo mode o.type x H vs)→bO P lo (oz P o mode x) vs H K→∃ v H',(∀ C,a3 P C lo o mode vs H=some (v,H'))∧K v H':=fun x _ hm h=>by
  unfold oz at h;split at h
  ·split at h
   ·rename_i e aI hu;split at h
    ·rename_i z bk;simp only [bO] at h;split at h
     ·exact ⟨_,_,fun C=>by rw [hm C];simp only [eX,aI,hu,bk,se],h⟩
     ·exact h.elim
    ·exact h
   ·rename_i ft;simp only [bO] at h;split at h
    ·refine ⟨_,H,fun C=>?_,h⟩;rw [hm C];simp only [eX]
     try (split
          ·rename_i e ab ae;exact absurd ae (ft e ab)
          ·rfl)
    ·exact h.elim
  ·simp only [bO] at h;split at h
   ·obtain ⟨r,H',ab,ae⟩:=E' (P:=P) (lo:=lo) (t:=o.type) (x:=x) h;exact ⟨r,H',fun C=>by rw [hm C];exact ab,ae⟩
   ·exact h.elim
  ·exact h
 unfold gZ at h;cases aC:o.op <;> simp only [aC] at h <;> (try exact h)
 case move x=>exact mU x (.inl aC) (fun C=>by simp [a3,aC]) h
 case assign x=>exact mU x (.inr aC) (fun C=>by simp [a3,aC]) h
 case load t a =>
  split at h
  ·split at h
   ·rename_i BU cu;simp only [bO] at h;split at h
    ·obtain ⟨r,H',ab,ae⟩:=E4 (P:=P) (lo:=lo) cu h;exact ⟨r,H',fun C=>by simp only [a3,aC];exact ab,ae⟩
    ·exact h.elim
   ·exact h
  ·split at h
   ·rename_i e hu;simp only [bO] at h;split at h
    ·obtain ⟨r,H',ab,ae⟩:=E9 (P:=P) (lo:=lo) hu h;exact ⟨r,H',fun C=>by simp only [a3,aC];exact ab,ae⟩
    ·exact h.elim
   ·exact h
  ·split at h
   ·rename_i BU cu;simp only [bO] at h;split at h
    ·obtain ⟨r,ab,ae⟩:=n4 cu h;exact ⟨r,H,fun C=>by simp only [a3,aC,dF,ab,se],ae⟩
    ·exact h.elim
   ·exact h
  ·split at h
   ·rename_i e hu;simp only [bO] at h;split at h
    ·obtain ⟨r,H',ab,ae⟩:=E_ (P:=P) (lo:=lo) hu h;exact ⟨r,H',fun C=>by simp only [a3,aC];exact ab,ae⟩
    ·exact h.elim
   ·exact h
  ·exact h
 case store t a x =>
  split at h
  ·rename_i s ah;simp only [bO] at h;split at h
   ·obtain ⟨r,H',ab,ae⟩:=E8 (P:=P) (lo:=lo) ah h;exact ⟨r,H',fun C=>by simp only [a3,aC];exact ab,ae⟩
   ·exact h.elim
  ·rename_i s ah;simp only [bO] at h;split at h
   ·obtain ⟨r,H',ab,ae⟩:=E6 (P:=P) (lo:=lo) ah h;exact ⟨r,H',fun C=>by simp only [a3,aC];exact ab,ae⟩
   ·exact h.elim
  ·rename_i ah;simp only [bO] at h;split at h
   ·obtain ⟨r,H',ab,ae⟩:=E7 (P:=P) (lo:=lo) ah h;exact ⟨r,H',fun C=>by simp only [a3,aC];exact ab,ae⟩
   ·exact h.elim
  ·exact h
 case box e x =>
  split at h
  ·simp only [bO] at h;split at h
   ·obtain ⟨r,H',ab,ae⟩:=E2 h;exact ⟨r,H',fun C=>by simp only [a3,aC];exact ab,ae⟩
   ·exact h.elim
  ·rename_i hm;simp only [bO] at h;split at h
   ·obtain ⟨r,H',ab,ae⟩:=E1 (mode:=mode) (fun e=>hm e) h;exact ⟨r,H',fun C=>by simp only [a3,aC];exact ab,ae⟩
   ·exact h.elim
 case alloc t =>
  split at h
  ·split at h
   ·rename_i z bk;exact ⟨_,_,fun C=>by simp only [a3,aC,k_,bk,se],h⟩
   ·exact h
  ·rename_i hm;split at h
   ·rename_i e bk hu;split at h
    ·rename_i s ah;refine ⟨_,_,fun C=>?_,h⟩;simp only [a3,aC];unfold k_;split
     ·exact absurd rfl hm
     ·simp only [bk,hu,ah,se]
    ·exact h
   ·exact h
 case makeSlice t a b =>
  split at h
  ·rename_i Ex e hu;split at h
   ·rename_i s z bytes ah bk af;split at h
    ·rename_i ak;simp only [sn,tW,sR,tD] at ak;obtain ⟨⟨a7,a9⟩,bt⟩:=ak;simp only [bO] at h;split at h
     ·unfold AJ at h;split at h
      ·obtain ⟨d1,d2,d3,h⟩:=h;refine ⟨_,_,fun C=>?_,h⟩;simp only [a3,aC,j'];rw [if_pos ⟨d1,d2⟩];simp only [jv,hu,ah,bk,af];rw [if_pos ⟨a7,a9,gp d3 bt⟩];rfl
      ·exact h.elim
     ·exact h.elim
    ·exact h
   ·exact h
  ·rename_i Ex m e hu;split at h
   ·rename_i s z bytes ah bk af;split at h
    ·rename_i ak;simp only [sn,tW,sR,tD] at ak;obtain ⟨⟨a7,a9⟩,bt⟩:=ak;simp only [bO] at h;split at h
     ·unfold AI at h;split at h
      ·obtain ⟨d1,d2,d3,h⟩:=h;refine ⟨_,_,fun C=>?_,h⟩;simp only [a3,aC,j'];rw [if_pos ⟨by omega,by omega⟩,if_pos ⟨d1,d2⟩];simp only [jv,hu,ah,bk,af];rw [if_pos ⟨a7,a9,gp d3 bt⟩];rfl
      ·exact h.elim
     ·exact h.elim
    ·exact h
   ·exact h
  ·exact h
 case call c =>
  split at h
  ·rename_i b af;split at h
   ·split at h
    ·rename_i ah;simp only [bO] at h;split at h
     ·unfold AE at h;split at h
      ·exact ⟨_,_,fun C=>by simp only [a3,aC,af,ei,hx,ah],h⟩
      ·exact ⟨_,_,fun C=>by simp only [a3,aC,af,ei,hx,ah],h⟩
      ·exact h.elim
     ·exact h.elim
    ·split at h
     ·rename_i n e hu;simp only [bO] at h;split at h
      ·exact h.elim
      ·exact h.elim
      ·exact h.elim
      ·rename_i x b7 cj Es;refine ⟨_,_,fun C=>?_,h⟩;simp only [a3,aC,af,ei,hx,hu]
       try (cases x <;> first | rfl | exact absurd rfl (b7 _ _ _) | exact absurd rfl (cj _ _ _ _ _) | exact absurd rfl (Es _))
      ·exact h.elim
     ·rename_i _ _ hu;simp only [bO] at h;split at h
      ·unfold AD at h;split at h
       ·obtain ⟨es,clock,ab,h⟩:=h;exact ⟨_,_,fun C=>by simp only [a3,aC,af,ei,hx,hu,ab],h⟩
       ·exact h.elim
      ·exact h.elim
     ·exact h
   ·split at h
    ·rename_i x aj;simp only [sf] at aj;obtain ⟨t,ax,aj⟩:=aj;obtain ⟨d_,hm,hP⟩:=xp aj;simp only [bO] at h;split at h
     ·unfold AF at h;split at h
      ·split at h
       ·rename_i bD;have bD:=tr bD;obtain ⟨ab,es,clock,ae,r,aF,h⟩:=h;split at h
        ·exact ⟨_,_,fun C=>by simp only [a3,aC,af,ei,hR,ax,sb,hm,hP _ ab,bD,if_true,ae,aF],h⟩
        ·exact ⟨_,_,fun C=>by simp only [a3,aC,af,ei,hR,ax,sb,hm,hP _ ab,bD,if_true,ae,aF],h⟩
       ·exact h.elim
      ·exact h.elim
     ·exact h.elim
    ·exact h
   ·simp only [bO] at h;split at h
    ·obtain ⟨n,ab,ae⟩:=zX _ _ h;exact ⟨_,_,fun C=>by simp only [a3,aC,af,ei,n_,ab,se],ae⟩
    ·exact h.elim
   ·simp only [bO] at h;split at h
    ·obtain ⟨n,ab,ae⟩:=zW _ _ h;exact ⟨_,_,fun C=>by simp only [a3,aC,af,ei,n9,ab,se],ae⟩
    ·exact h.elim
   ·split at h
    ·rename_i t dn gQ;split at h
     ·rename_i e mf hu;split at h
      ·rename_i s z bytes ah bk ps;split at h
       ·rename_i ak;simp only [sn,tW,sR,tD] at ak;obtain ⟨⟨a7,a9⟩,bt⟩:=ak;obtain rfl:t=dn:=sN mf;(have me:c.argTypes=#[t,t]:=by rw [←tF (xs:=c.argTypes),gQ]);simp only [bO] at h;split at h
        ·obtain ⟨r,H',ab,ae⟩:=Ax hu ah bk ps a7 a9 bt h;exact ⟨r,H',fun C=>by simp only [a3,aC,af,ei,me];exact ab,ae⟩
        ·exact h.elim
       ·rename_i ak;simp only [sn,tW,sR,tD] at ak;obtain ⟨⟨a7,a9⟩,bt⟩:=ak;obtain rfl:t=dn:=sN mf;(have me:c.argTypes=#[t,t]:=by rw [←tF (xs:=c.argTypes),gQ]);simp only [bO] at h;split at h
        ·obtain ⟨r,H',ab,ae⟩:=Ax hu ah bk ps a7 a9 bt h;split at ae
         ·exact ⟨_,_,fun C=>by simp only [a3,aC,af,me,og,ab];rw [if_neg ae.1],ae.2⟩
         ·exact ae.elim
        ·exact h.elim
       ·rename_i ak hm nP;simp only [sn,tW,sR,tD] at ak;obtain ⟨⟨a7,a9⟩,bt⟩:=ak;obtain rfl:t=dn:=sN mf;(have me:c.argTypes=#[t,t]:=by rw [←tF (xs:=c.argTypes),gQ]);simp only [bO] at h;split at h
        ·obtain ⟨r,H',ab,ae⟩:=E0 (lo:=lo) hu ah bk ps a7 a9 bt h;refine ⟨r,H',fun C=>?_,ae⟩;simp only [a3,aC,af,me]
         first
         | exact ab
         | (split
            ·exact absurd rfl hm
            ·exact absurd rfl nP
            ·exact ab)
         | (split
            ·exact absurd rfl nP
            ·exact absurd rfl hm
            ·exact ab)
        ·exact h.elim
       ·exact h
      ·exact h
     ·exact h
    ·exact h
   ·exact h
  ·exact h.elim
  ·exact h
 case makeMap t r =>
  split at h
  ·rename_i _ _ hu;simp only [bO] at h;exact ⟨_,_,fun C=>by simp only [a3,aC,ld,hu],h⟩
  ·exact h
 case mapUpdate t m k v =>
  split at h
  ·rename_i x aj;obtain ⟨d_,hm,hP⟩:=xp aj;simp only [bO] at h;split at h
   ·unfold AH at h;split at h
    ·split at h
     ·rename_i bD;have bD:=tr bD;obtain ⟨ab,es,clock,ae,r,aF,h⟩:=h;split at h
      ·exact ⟨_,_,fun C=>by simp only [a3,aC,je,hm,hP _ ab,bD,if_true,ae,aF],h⟩
      ·exact ⟨_,_,fun C=>by simp only [a3,aC,je,hm,hP _ ab,bD,if_true,ae,aF],h⟩
     ·exact h.elim
    ·exact h.elim
   ·exact h.elim
  ·exact h
 case lookup t m k ok =>
  split at h
  ·rename_i x aj;obtain ⟨d_,hm,hP⟩:=xp aj;simp only [bO] at h;split at h
   ·unfold AG at h;split at h
    ·obtain ⟨ab,es,clock,ae,r,aF,h⟩:=h;split at h
     ·obtain ⟨e,he,h⟩:=h;cases ok
      ·exact ⟨_,_,fun C=>by simp only [a3,aC,iv,hm,hP _ ab,ae,aF,sb,he,se];rfl,h⟩
      ·exact ⟨_,_,fun C=>by simp only [a3,aC,iv,hm,hP _ ab,ae,aF,sb,he,se];rfl,h⟩
     ·obtain ⟨z,bk,h⟩:=h;cases ok
      ·exact ⟨_,_,fun C=>by simp only [a3,aC,iv,hm,hP _ ab,ae,aF,Option.bind_none,bk,se];rfl,h⟩
      ·exact ⟨_,_,fun C=>by simp only [a3,aC,iv,hm,hP _ ab,ae,aF,Option.bind_none,bk,se];rfl,h⟩
    ·exact h.elim
   ·exact h.elim
  ·exact h
 case range t m =>
  split at h
  ·rename_i _ _ hu;simp only [bO] at h;split at h
   ·unfold AK at h;split at h
    ·obtain ⟨es,clock,ab,h⟩:=h;exact ⟨_,_,fun C=>by simp only [a3,aC,lf,hu,ab],h⟩
    ·exact h.elim
   ·exact h.elim
  ·exact h
 case entry m =>
  simp only [bO] at h;split at h
  ·unfold Ay at h;split at h
   ·obtain ⟨m,since,seen,clock,gr,es,e,ab,ae,aF,ba,h⟩:=h;exact ⟨_,_,fun C=>by simp only [a3,aC,lb,ab,ae,aF,ba,if_true],h⟩
   ·exact h.elim
  ·exact h.elim
 case pick c a b =>
  simp only [bO] at h;split at h
  ·rename_i c a b;refine pure (fun C=>by simp only [a3,aC]) (r:=match c with | true=>a | false=>b) (by cases c <;> simp [cB,aC,xC]) ?_;cases c <;> exact h
  ·exact h.elim
 case build t parts =>
  split at h
  ·rename_i z fs bk hu;split at h
   ·rename_i bq c1 kR;split at h
    ·simp only [bO] at h;obtain ⟨c_,q1,aW⟩:=iO h (xx kR);refine pure (fun C=>by simp only [a3,aC]) (r:=.agg c_) ?_ aW;simp only [cB,aC,lK,bk,hu,c1,eN,q1,se]
    ·simp only [bO] at h;obtain ⟨r,q1,aW⟩:=E3 bk hu c1 (xx kR) h;exact ⟨r,H,fun C=>by simp only [a3,aC,eN,q1,se],aW⟩
   ·exact h
  ·rename_i z len e bk hu;split at h
   ·rename_i s ah;(have aq:∀ C,a3 P C lo o 0 vs H=(cB P o vs).map (·,H):=fun C=>by simp only [a3,aC]);simp only [bO] at h;obtain ⟨c_,q1,aW⟩:=iO (place:=fun i=>some (i*s,s)) (ix:=parts.toList.map (·.1)) h (by simp);refine pure aq (r:=.agg c_) ?_ aW;simp only [cB,aC,lK,bk,hu,ah,eN,sb,q1,se]
   ·exact h
  ·exact h
 case buildSlice t len parts =>
  split at h
  ·rename_i e hu;split at h
   ·rename_i s z ah bk;split at h
    ·rename_i ak;simp only [sn,tW,sR,tD] at ak;obtain ⟨⟨a7,a9⟩,bt⟩:=ak;simp only [bO] at h;obtain ⟨c_,q1,aW⟩:=iO (place:=fun i=>some (i*s,s)) (ix:=parts.toList.map (·.1)) h (by simp);refine pure (fun C=>by simp only [a3,aC]) (r:=.av c_ len (.uniq s)) ?_ aW;simp only [cB,aC,iJ,hu,ah,bk,eN];rw [if_pos ⟨a9,a7,bt⟩,q1];rfl
    ·rename_i ak hm;simp only [sn,tW,sR,tD] at ak;obtain ⟨⟨a7,a9⟩,bt⟩:=ak;simp only [bO] at h;obtain ⟨c_,q1,aW⟩:=iO (place:=fun i=>some (i*s,s)) (ix:=parts.toList.map (·.1)) h (by simp);refine ⟨_,_,fun C=>?_,aW⟩;have q:iJ P t len (eN parts.toList vs)=some (c_,s):=by
      simp only [iJ,hu,ah,bk,eN];rw [if_pos ⟨a9,a7,bt⟩,q1];rfl
     simp only [a3,aC]
     first
     | (rw [q];rfl)
     | (split
        ·exact absurd rfl hm
        ·rw [q];rfl)
    ·exact h
   ·exact h
  ·exact h
 case nilCheck x =>
  simp only [bO] at h;split at h
  ·exact pure (fun C=>by simp only [a3,aC]) (by simp only [cB,aC,oh]) h
  ·exact pure (fun C=>by simp only [a3,aC]) (by simp only [cB,aC,oh]) h
  ·exact h.elim
 case binOp op t x y iF =>
  have aq:∀ C,a3 P C lo o mode vs H=(cB P o vs).map (·,H):=fun C=>by simp only [a3,aC]
  split at h
  ·rename_i aI hu;simp only [bO] at h;split at h
   ·split at h
    ·rename_i al;obtain ⟨v,ab,ae⟩:=B3 (P:=P) (t:=t) (FC al) h;exact pure aq (by simp only [cB,aC,aI,gl,ab]) ae
    ·exact h.elim
   ·exact h.elim
  ·rename_i aI hu;split at h
   ·simp only [bO] at h;split at h
    ·exact pure aq (by simp only [cB,aC,aI,gl,fo,hu]) h
    ·exact h.elim
   ·simp only [bO] at h;split at h
    ·exact pure aq (by simp only [cB,aC,aI,gl,fo,hu]) h
    ·exact h.elim
   ·exact h
  ·exact h
 case unOp op t x =>
  have aq:∀ C,a3 P C lo o mode vs H=(cB P o vs).map (·,H):=fun C=>by simp only [a3,aC]
  simp only [bO] at h;split at h
  ·split at h
   ·exact pure aq (by simp only [cB,aC,e9,ks]) h
   ·exact h.elim
  ·split at h
   ·exact pure aq (by simp only [cB,aC,e9,ks]) h
   ·exact h.elim
  ·exact h.elim
 case convert s d x =>
  have aq:∀ C,a3 P C lo o mode vs H=(cB P o vs).map (·,H):=fun C=>by simp only [a3,aC]
  split at h
  ·rename_i ab ae;simp only [bO] at h;split at h
   ·exact pure aq (by simp only [cB,aC,e9,lL,ab,ae]) h
   ·exact h.elim
  ·exact h
 case makeFunc fn first captured =>
  have aq:∀ C,a3 P C lo o mode vs H=(cB P o vs).map (·,H):=fun C=>by simp only [a3,aC]
  split at h
  ·simp only [bO] at h;split at h
   ·rename_i ab;exact pure aq (by simp only [cB,aC,mZ];rw [if_pos (sN ab)]) h
   ·exact h.elim
  ·exact h
 case slice t x l bE m =>
  have aq:∀ C,a3 P C lo o mode vs H=(cB P o vs).map (·,H):=fun C=>by simp only [a3,aC]
  split at h
  ·rename_i e hu;split at h
   ·rename_i s ah;simp only [bO] at h;split at h
    ·obtain ⟨r,ab,ae⟩:=E5 hu ah h;exact pure aq (by simp only [cB,aC,ab]) ae
    ·exact h.elim
   ·exact h
  ·exact h
 case fieldAddr t x f =>
  have aq:∀ C,a3 P C lo o mode vs H=(cB P o vs).map (·,H):=fun C=>by simp only [a3,aC]
  split at h
  ·rename_i fs hu;split at h
   ·rename_i s off aP;simp only [sf,r_,Prod.mk.injEq] at aP;obtain ⟨g,aO,aD,ah,rfl,rfl⟩:=aP;simp only [bO] at h;split at h
    ·unfold Az at h;split at h
     ·exact pure aq (by simp [cB,aC,e9,jC,hu,aO,ah]) h
     ·exact pure aq (by simp [cB,aC,e9,jC,hu,aO,ah]) h
     ·exact h.elim
    ·exact h.elim
   ·exact h
  ·exact h
 case field t x f =>
  have aq:∀ C,a3 P C lo o mode vs H=(cB P o vs).map (·,H):=fun C=>by simp only [a3,aC]
  split at h
  ·rename_i fs hu;split at h
   ·rename_i a off aP;simp only [sf,r_,Prod.mk.injEq] at aP;obtain ⟨g,aO,aM,cu,rfl,rfl⟩:=aP;simp only [bO] at h;split at h
    ·obtain ⟨v,ab,ae⟩:=EL cu h;exact pure aq (by simp only [cB,aC,e9,nr,hu,aO,sb,ab,se]) ae
    ·exact h.elim
   ·exact h
  ·exact h
 case indexAddr t x i =>
  have aq:∀ C,a3 P C lo o mode vs H=(cB P o vs).map (·,H):=fun C=>by simp only [a3,aC]
  split at h
  ·rename_i e hu;split at h
   ·rename_i s ah;simp only [bO] at h;split at h
    ·unfold AA at h;split at h
     ·split at h
      ·exact pure aq (by simp [cB,aC,gl,h4,hu,ah,g_,h.1]) h.2
      ·exact pure aq (by simp [cB,aC,gl,h4,hu,ah,g_,h.1]) h.2
      ·exact h.elim
     ·exact h.elim
    ·exact h.elim
   ·exact h
  ·rename_i len e hu;split at h
   ·rename_i s ah;simp only [bO] at h;split at h
    ·unfold AB at h;split at h
     ·split at h
      ·exact pure aq (by simp [cB,aC,gl,h4,hu,ah,g_,h.1]) h.2
      ·exact pure aq (by simp [cB,aC,gl,h4,hu,ah,g_,h.1]) h.2
      ·exact h.elim
     ·exact h.elim
    ·exact h.elim
   ·exact h
  ·exact h
 case extract x i =>
  have aq:∀ C,a3 P C lo o mode vs H=(cB P o vs).map (·,H):=fun C=>by simp only [a3,aC]
  simp only [bO] at h;split at h
  ·obtain ⟨v,ad,h⟩:=e8 h;rw [ko] at h;exact pure aq (by simp only [cB,aC,e9,nq,ad,se]) h
  ·exact h.elim
end
end Go.Proofs.YtkoioidpbbbaiaaGreat.Ab


namespace Go.Proofs.YtkoioidpbbbaiaaGreat.Ab
open Go
noncomputable section
def oV (P:Program) (mode lo:Nat) (bY:fc) (args:List I) (H:List ar) (v:I) (H':List ar):Prop:=∃ C,c6 P C∧eQ C lo mode bY args H=some (v,H')
def lT:List I→List I→(List I→Prop)→Prop
 | [],l,K=>K l
 | h::t,l,K=>lT t l fun r=>K (h::r)
theorem jE:∀ (a b:List I) (K:List I→Prop),lT a b K=K (a++b)
 | [],b,K=>rfl
 | h::t,b,K=>by rw [lT,jE t b];rfl
def yG (v:I) (K:I→Prop):Prop:=match v with
 | .av c n .full=>K (.av c n .shared)
 | .agg cs=>K (.agg (cs.map I.ha))
 | .tuple cs=>K (.tuple (cs.map I.ha))
 | v=>K v
theorem Cg (v:I) (K:I→Prop):yG v K=K v.cc:=by
 cases v with
 | av c n k=>cases k <;> rfl
 | _=>rfl
def ny:List I→(List I→Prop)→Prop
 | [],K=>K []
 | h::t,K=>yG h fun aX=>ny t fun iE=>K (aX::iE)
theorem nz:∀ (l:List I) (K:List I→Prop),ny l K=K (l.map I.cc)
 | [],K=>rfl
 | h::t,K=>by rw [ny,Cg,nz t];rfl
def lS (P:Program) (lo:Nat) (draw:Bool) (mode:Nat) (acc:c7) (vs:List I) (H:List ar) (K:c7→I→List ar→Prop):Prop:=match vs with
 | f::args=>match f with
   | .func k first cap=>lT args cap fun r=>lT first r fun as=>match mode with
     | 3=>as.all (cr 8)=true∧ny as fun gH=>∃ v,nn P k gH v∧(match draw with
       | true=>(∀ p∈acc,p.1=k→p.2.1=gH→p.2.2=v)∧K ((k,gH,v)::acc) v.cc H
       | false=>K acc v.cc H)
     | 6=>match draw with
       | true=>(as.map (iD H)).all (cr 8)=true∧∃ gH,(as.map (iD H)).map I.cc=gH∧∃ v,fz v=true∧nn P k gH v∧(∀ p∈acc,p.1=k→p.2.1=gH→p.2.2=v)∧K ((k,gH,v)::acc) v.cc H
       | false=>∃ v H',oV P 6 lo (.fn k) as H v H'∧K acc v H'
     | mode=>match draw with
       | true=>False
       | false=>∃ v H',oV P mode lo (.fn k) as H v H'∧K acc v H'
   | .yield l=>match draw with
     | true=>False
     | false=>∃ v H',oV P mode lo (.yield l) args H v H'∧K acc v H'
   | _=>False
 | []=>False
def lr (P:Program) (lo:Nat) (draw:Bool) (k:jy) (acc:c7) (vs:List I) (H:List ar) (K:c7→I→List ar→Prop):Prop:=match k with
 | .call mode=>lS P lo draw mode acc vs H K
 | k=>bO P lo k vs H (K acc)
def n2 (ip:Option Nat) (T:List I) (v:I) (K:List I→Prop):Prop:=match ip with
 | none=>K T
 | some t=>kn v fun v=>jn T t v K
def pg (g:Option (Nat×Bool)) (T:List I) (skip run:Prop):Prop:=match g with
 | none=>run
 | some (t,want)=>hI T t fun v=>match v with
   | .bool b=>(match want with
     | true=>(match b with | true=>run | false=>skip)
     | false=>(match b with | true=>skip | false=>run))
   | .tuple []=>skip
   | _=>False
def hC (P:Program) (lo:Nat) (draw:Bool) (cl:dP) (acc:c7) (T:List I) (H:List ar) (K:c7→List I→List ar→Prop):Prop :=
 pg cl.guard T (m4 T cl.dst (.tuple []) fun bf=>K acc bf H) (gq cl.Gd T fun vs g6=>lr P lo draw cl.k acc vs H fun eP v H'=>mj v fun v=>n2 cl.ip g6 v fun en=>m4 en cl.dst v fun dH=>K eP dH H')
def gY (P:Program) (lo:Nat) (draw:Bool):List dP→c7→List I→List ar→(List I→List ar→Prop)→Prop
 | [],_,T,H,K=>K T H
 | cl::r,acc,T,H,K=>hC P lo draw cl acc T H fun eP bf H'=>match draw with
   | true=>gY P lo draw r eP bf H' K
   | false=>gY P lo draw r [] bf H' K
def z7 (it:Nat) (dst:Option Nat) (T:List I) (H:List ar) (K:List I→List ar→Prop):Prop:=hI T it fun v=>match v with
 | .ptr r 0=>∃ m since seen clock es,H[r]?=some (.iter m since seen clock)∧H[m]?=some (.map es clock)∧since≤clock∧(∀ e∈es,e.1<since) ∧
   ((∀ e∈es,e.1∈seen)→m4 T dst (.tuple [.bool false]) fun bf=>K bf H) ∧
   ∀ e∈es,e.1 ∉ seen→m4 T dst (.tuple [.bool true,e.2.1,e.2.2]) fun bf=>K bf (H.set r (.iter m since (seen++[e.1]) clock))
 | _=>False
inductive BH (f:List I→List ar→(cQ→List I→List ar→Prop)→Prop) (T:List I) (H:List ar) (Q:cQ→List I→List ar→Prop):Prop where
 | intro (h0:Nat→List I→List ar→Prop) (m:Nat) (aQ:h0 m T H) (step:∀ m T H,h0 m T H→f T H fun e bf H'=>match e with
   | .normal=>∃ hr,hr<m∧h0 hr bf H'
   | e=>Q e bf H')
def xo (k:Option (List Bool)) (T:List I) (K:List I→Prop):Prop:=match k with
 | some k=>kZ k T K
 | none=>K T
theorem DS (k:Option (List Bool)) (T:List I) (K:List I→Prop):xo k T K=K (match k with | some k=>eZ k T | none=>T):=by
 cases k with
 | none=>rfl
 | some k=>exact zA k T K
def ob:List I→(List I→Prop)→Prop
 | [],K=>K []
 | h::t,K=>ob t fun iE=>K (h::iE)
theorem z3:∀ (T:List I) (K:List I→Prop),ob T K=K T
 | [],K=>rfl
 | h::t,K=>by rw [ob,z3 t]
def oE (P:Program) (A:dw) (fn:FuncId) (lo:Nat) (rl:Option Nat) (f:I) (bq:List Nat) (as ct:Code) (T:List I) (H:List ar) (Q:cQ→List I→List ar→Prop):Prop:=match f with
 | .func k first cap=>inLoop H rl=true∧∃ r H' st cL fn' bf Af gH yx iM,Sem P (.fn k) (first++[.yield H.length]++cap) (H++[.loop .ready none fn (T.map I.view) bq as ct A]) lo r H' ∧
   H'[H.length]?=some (.loop st cL fn' bf Af gH yx iM)∧st≠.busy∧(match cL with
    | none=>Q .normal (T.map I.settle) (H'.set H.length .dead)
    | some .ret=>Q .ret (T.map I.settle) (H'.set H.length .dead)
    | some (.exit id)=>Q (.exit id) (T.map I.settle) (H'.set H.length .dead)
    | _=>False)
 | _=>False
def dQ (P:Program) (A:dw) (fn:FuncId) (lo:Nat) (rl:Option Nat):gE→List I→List ar→(cQ→List I→List ar→Prop)→Prop
 | .skip,T,H,Q=>Q .normal T H
 | .ov draw l,T,H,Q=>gY P lo draw l [] T H (Q .normal)
 | .seq a b,T,H,Q=>dQ P A fn lo rl a T H fun e bf H'=>match e with
   | .normal=>dQ P A fn lo rl b bf H' Q
   | e=>Q e bf H'
 | .cond c a b,T,H,Q=>match c with
   | .nc t=>hI T t fun v=>(match v with
     | .bool x=>(match x with | true=>dQ P A fn lo rl a T H Q | false=>dQ P A fn lo rl b T H Q)
     | .dz=>dQ P A fn lo rl a T H Q∧dQ P A fn lo rl b T H Q
     | _=>False)
   | .cv v=>(match v with
     | .bool x=>(match x with | true=>dQ P A fn lo rl a T H Q | false=>dQ P A fn lo rl b T H Q)
     | .dz=>dQ P A fn lo rl a T H Q∧dQ P A fn lo rl b T H Q
     | _=>False)
   | _=>False
 | .block id c,T,H,Q=>dQ P A fn lo rl c T H fun e bf H'=>match e with
   | .exit bC=>(match Nat.beq bC id with | true=>Q .normal bf H' | false=>Q (.exit bC) bf H')
   | e=>Q e bf H'
 | .loop cE c,T,H,Q=>xo cE T fun T=>BH (fun T H Q=>ob T fun T=>dQ P A fn lo rl c T H fun e bf H'=>match e with
   | .normal=>xo cE bf fun bf=>Q .normal bf H'
   | e=>Q e bf H') T H Q
 | .exit id,T,H,Q=>Q (.exit id) T H
 | .ret,T,H,Q=>Q .ret T H
 | .AM f bq as ct,T,H,Q=>match f with
   | .nc t=>hI T t fun v=>oE P A fn lo rl v bq as ct T H Q
   | .cv v=>oE P A fn lo rl v bq as ct T H Q
   | _=>False
 | .z6 it dst l,T,H,Q=>z7 it dst T H fun bf H'=>gY P lo false l [] bf H' (Q .normal)
 | .two l1 l2,T,H,Q=>gY P lo true l1 [] T H (Q .normal)∧gY P lo true l2 [] T H (Q .normal)
def mH (o:Oper) (mode:Nat):Option Nat:=match mode with
 | 0=>none
 | 4=>none
 | _=>match o.op with
   | .move (.tmp t) | .assign (.tmp t)=>some t
   | _=>none
def iz (P:Program) (ops:Array Oper) (o:Oper) (an:bZ):Option dP:=match o.guard with
 | none=>some ⟨o.dst,hU (dE o an.mode) an.cC (opsOf o),none,mH o an.mode,gZ P o an.mode⟩
 | some (j,want)=>match (ops[j]?).bind (·.dst) with
   | some d=>some ⟨o.dst,hU (dE o an.mode) an.cC (opsOf o),some (d,want),mH o an.mode,gZ P o an.mode⟩
   | none=>none
def e7 (P:Program) (ops:Array Oper):List Oper→List bZ→Option (List dP)
 | [],_=>some []
 | o::r,as=>match iz P ops o (as.headD {}),e7 P ops r as.tail with
   | some cl,some l=>some (cl::l)
   | _,_=>none
def Ey (cl:dP):Bool:=match cl.k with | .call m=>!(Nat.beq m 3 || Nat.beq m 6) | _=>false
def ik (cl:dP):Bool:=match cl.k with | .call _=>true | _=>false
def oK (l:List dP):Bool:=l.any Ey && Nat.ble (l.countP ik) 1
def xr (P:Program) (ops:Array Oper) (draw:Bool) (as:List bZ):Option gE:=match draw,ops.toList with
 | false,o::rest=>(match o.op,o.guard with
   | .next (.tmp it) false,none=>(e7 P ops rest as.tail).map (.z6 it o.dst)
   | _,_=>(e7 P ops (o::rest) as).map (.ov false))
 | d,l=>(e7 P ops l as).map fun l'=>.ov (d && !oK l') l'
def k4 (P:Program) (ops:Array Oper) (an:List bZ):List Nat→Option (List dP)
 | []=>some []
 | i::r=>match ops[i]? with
   | some o=>match iz P ops o (an.getD i {}),k4 P ops an r with
     | some cl,some l=>some (cl::l)
     | _,_=>none
   | none=>none
def mV (cl:dP):Bool:=match cl.k with | .call _=>false | _=>true
def xt (P:Program) (ops:Array Oper) (an:List bZ) (x:List Nat×Nat×Nat):Option gE :=
 match k4 P ops an (List.range ops.size),k4 P ops an x.1 with
 | some l1,some l2=>match l1.all mV && l2.all mV with
   | true=>some (.two l1 l2)
   | false=>none
 | _,_=>none
def ox (x:Operand):kq:=match x with
 | .tmp t=>.nc t
 | x=>.cv (az [] x)
def ey (P:Program) (A:dw):Code→Nat→Option gE
 | .skip,_=>some .skip
 | .region id ops draw,_=>match A.im with
   | []=>match kj A id draw with
     | some p=>xt P ops (A.ops.getD id []) p
     | none=>xr P ops draw (A.ops.getD id [])
   | _=>none
 | .seq a b,a2=>match ey P A a a2,ey P A b a2 with
   | some x,some y=>some (.seq x y)
   | _,_=>none
 | .cond c a b,a2=>match ey P A a a2,ey P A b a2 with
   | some x,some y=>some (.cond (ox c) x y)
   | _,_=>none
 | .block id c,_=>(ey P A c id).map (.block id)
 | .loop c,a2=>(ey P A c a2).map (.loop (l7 a2 A.il))
 | .exit id,_=>some (.exit id)
 | .ret,_=>some .ret
 | .scope c,a2=>ey P A c a2
 | .label _,_=>some .skip
 | .rangeFunc f bq as ct,_=>some (.AM (ox f) bq.toList as ct)
 | _,_=>none
end
section
variable {P:Program}
theorem zw (o:Oper) (mode:Nat) (T:List I) (v:I) (K:List I→Prop):n2 (mH o mode) T v K=K (inPlace o mode T v):=by
 by_cases aQ:mode=0
 ·subst aQ;rfl
 by_cases ba:mode=4
 ·subst ba;rfl
 have e1:mH o mode=(match o.op with | .move (.tmp t) | .assign (.tmp t)=>some t | _=>none):=by
  unfold mH;split
  ·exact absurd rfl aQ
  ·exact absurd rfl ba
  ·rfl
 have b':inPlace o mode T v=(match o.op with | .move (.tmp t) | .assign (.tmp t)=>g2 T t v.view | _=>T):=by
  unfold inPlace;split
  ·exact absurd rfl aQ
  ·exact absurd rfl ba
  ·rfl
 rw [e1,b'];cases o.op <;> try rfl
 case move x=>cases x <;> first | rfl | (simp only [n2,ko,kf])
 case assign x=>cases x <;> first | rfl | (simp only [n2,ko,kf])
theorem oS {lo:Nat} {draw:Bool} {ops:Array Oper} {o:Oper} {an:bZ} {cl:dP} (ai:iz P ops o an=some cl) {acc:c7} {T:List I} {H:List ar} {K:c7→List I→List ar→Prop}
  (h:hC P lo draw cl acc T H K) :
  (eB ops o T=some false∧K acc (put T o.dst (.tuple [])) H) ∨
  (eB ops o T=some true∧lr P lo draw (gZ P o an.mode) acc (fm (dE o an.mode) (rd T an.cC (opsOf o)).1) H fun eP v H'=>K eP (put (inPlace o an.mode (rd T an.cC (opsOf o)).2 v) o.dst v) H'):=by
 unfold iz at ai;split at ai
 ·rename_i aO;cases ai;simp only [hC,pg,ji,nI,zw,xK] at h;exact .inr ⟨by simp [eB,aO],h⟩
 ·rename_i j want aO;split at ai
  ·rename_i d a1;cases ai;simp only [hC,pg,ji,nI,zw,xK,iQ] at h;(have hw:∀ b,df T d=.bool b→eB ops o T=some (b == want):=fun b af=>by simp [eB,aO,a1,af]);split at h
   ·rename_i b af;have hw:=hw b af;cases want <;> cases b <;> simp only at h
    ·exact .inr ⟨hw,h⟩
    ·exact .inl ⟨hw,h⟩
    ·exact .inl ⟨hw,h⟩
    ·exact .inr ⟨hw,h⟩
   ·rename_i af;exact .inl ⟨by simp [eB,aO,a1,af],h⟩
   ·exact h.elim
  ·cases ai
theorem fY {C:b8} {lo:Nat} {ops:Array Oper} {o:Oper} {an:bZ} {T:List I} {H:List ar} {v:I} {H':List ar} (hw:eB ops o T=some true)
  (h:a3 P C lo o an.mode (fm (dE o an.mode) (rd T an.cC (opsOf o)).1) H=some (v,H')):dv P C lo ops o an ⟨T,H⟩=some ⟨put (inPlace o an.mode (rd T an.cC (opsOf o)).2 v) o.dst v,H'⟩:=by
 simp only [dv,hw,Ab.execOp];unfold fm at h;cases ao:dE o an.mode <;> rw [ao] at h <;> simp only at h ⊢ <;> rw [h] <;> rfl
theorem oM {C:b8} {lo:Nat} {ops:Array Oper} {o:Oper} {an:bZ} {T:List I} {H:List ar} (hw:eB ops o T=some false):dv P C lo ops o an ⟨T,H⟩=some ⟨put T o.dst (.tuple []),H⟩:=by
 simp only [dv,hw]
theorem xQ {o:Oper} {mode z2:Nat} (h:gZ P o mode=.call z2):z2=mode∧∃ c f,o.op=.call c∧c.callee=.value f:=by
 cases aC:o.op
 case call c =>
  simp only [gZ,aC] at h;cases ak:c.callee with
  | value f=>simp only [ak] at h;cases h;exact ⟨rfl,c,f,rfl,ak⟩
  | invoke x n=>simp only [ak] at h;cases h
  | builtin b =>
    simp only [ak] at h;repeat' (first | contradiction | split at h)
 all_goals simp only [gZ,aC] at h
 all_goals (try unfold oz at h)
 all_goals (repeat' (first | contradiction | split at h))
theorem oB {lo:Nat} {draw:Bool} {k:jy} {acc:c7} {vs:List I} {H:List ar} {K:c7→I→List ar→Prop} (h:lr P lo draw k acc vs H K) :
  (∃ mode,k=.call mode∧lS P lo draw mode acc vs H K)∨bO P lo k vs H (K acc):=by
 unfold lr at h;split at h
 ·exact .inl ⟨_,rfl,h⟩
 ·exact .inr h
theorem jd {C:b8} {lo mode:Nat} {k:FuncId} {first cap args:List I} {H:List ar}:hv C lo mode H (.func k first cap::args)=eQ C lo mode (.fn k) (first++args++cap) H:=rfl
theorem xJ {C:b8} {acc:c7} (cq:iG C acc) {lo:Nat} {k:FuncId} {as:List I} {v:I} (aB:as.all (cr 8)=true) (hm:(k,as.map I.cc,v)∈acc) (H:List ar) :
  eQ C lo 3 (.fn k) as H=some (v.cc,H):=by
 obtain ⟨r,H2,ab,ae⟩:=cq _ hm;simp only [eQ,aB,ab,sb,ae,se]
theorem EM {C:b8} {acc:c7} (cq:iG C acc) {lo:Nat} {k:FuncId} {as:List I} {v:I} (H:List ar) (aB:(as.map (iD H)).all (cr 8)=true) (ah:fz v=true) (hm:(k,(as.map (iD H)).map I.cc,v)∈acc) :
  eQ C lo 6 (.fn k) as H=some (v.cc,H):=by
 obtain ⟨r,H2,ab,ae⟩:=cq _ hm;simp only [eQ,aB,ab,sb,ae,ah]
theorem Bz {lo:Nat} {ops:Array Oper} {o:Oper} {an:bZ} {cl:dP} (ai:iz P ops o an=some cl) {acc:c7} (hK:h2 P acc) {T:List I} {H:List ar} {K:c7→List I→List ar→Prop}
  (h:hC P lo true cl acc T H K):∃ eP bf H',h2 P eP∧(∀ p∈acc,p∈eP)∧(∀ C,iG C eP→dv P C lo ops o an ⟨T,H⟩=some ⟨bf,H'⟩)∧K eP bf H':=by
 rcases oS ai h with ⟨hw,al⟩ | ⟨hw,al⟩
 ·exact ⟨acc,_,_,hK,fun _ h=>h,fun C _=>oM hw,al⟩
 ·rcases oB al with ⟨mode,hm,al⟩ | al
  ·obtain ⟨rfl,c,f,aC,ak⟩:=xQ hm;generalize fv:fm (dE o an.mode) (rd T an.cC (opsOf o)).1=vs at al;(have aq:∀ C,a3 P C lo o an.mode vs H=hv C lo an.mode H vs:=fun C=>by simp only [a3,aC,ak]);unfold lS at al;split at al
   ·split at al
    ·(rename_i args _ k first cap);rw [jE,jE] at al;split at al
     ·rename_i hh;obtain ⟨aB,al⟩:=al;rw [nz] at al;obtain ⟨v,j0,mi,al⟩:=al;refine ⟨_,_,_,⟨fun p aB=>?_,fun p aB q a_ ab ae=>?_⟩,fun p aB=>tR _ aB,fun C cq=>fY hw ?_,al⟩
      ·rcases sB.1 aB with rfl | aB
       ·exact j0
       ·exact hK.1 p aB
      ·rcases sB.1 aB with rfl | aB <;> rcases sB.1 a_ with rfl | a_
       ·rfl
       ·exact (mi q a_ ab.symm ae.symm).symm
       ·exact mi p aB ab ae
       ·exact hK.2 p aB q a_ ab ae
      ·rw [fv,aq C,hh,jd,sx];exact xJ cq aB (tX) H
     ·rename_i hh;obtain ⟨aB,gH,rfl,v,ah,j0,mi,al⟩:=al;refine ⟨_,_,_,⟨fun p aB=>?_,fun p aB q a_ ab ae=>?_⟩,fun p aB=>tR _ aB,fun C cq=>fY hw ?_,al⟩
      ·rcases sB.1 aB with rfl | aB
       ·exact j0
       ·exact hK.1 p aB
      ·rcases sB.1 aB with rfl | aB <;> rcases sB.1 a_ with rfl | a_
       ·rfl
       ·exact (mi q a_ ab.symm ae.symm).symm
       ·exact mi p aB ab ae
       ·exact hK.2 p aB q a_ ab ae
      ·rw [fv,aq C,hh,jd,sx];exact EM cq H aB ah (tX)
     ·exact al.elim
    ·exact al.elim
    ·exact al.elim
   ·exact al.elim
  ·obtain ⟨v,H',ab,ae⟩:=oy al;exact ⟨acc,_,_,hK,fun _ h=>h,fun C _=>fY hw (ab C),ae⟩
theorem Gt {lo:Nat} {ops:Array Oper} {o:Oper} {an:bZ} {cl:dP} (ai:iz P ops o an=some cl) {acc:c7} {T:List I} {H:List ar} {K:c7→List I→List ar→Prop}
  (h:hC P lo false cl acc T H K):iI P lo ops o an ⟨T,H⟩ fun aD=>K acc aD.T aD.H:=by
 rcases oS ai h with ⟨hw,al⟩ | ⟨hw,al⟩
 ·exact .inl ⟨_,_,lX,oM hw,al⟩
 ·rcases oB al with ⟨mode,hm,al⟩ | al
  ·obtain ⟨rfl,c,f,aC,ak⟩:=xQ hm;generalize fv:fm (dE o an.mode) (rd T an.cC (opsOf o)).1=vs at al;(have aq:∀ C,a3 P C lo o an.mode vs H=hv C lo an.mode H vs:=fun C=>by simp only [a3,aC,ak]);unfold lS at al;split at al
   ·split at al
    ·(rename_i args _ k first cap);rw [jE,jE] at al;split at al
     ·rename_i hh;obtain ⟨aB,al⟩:=al;rw [nz] at al;obtain ⟨v,j0,al⟩:=al
      obtain ⟨C,bn,cq⟩:=nt (acc:=[(k,(first++(args++cap)).map I.cc,v)]) (P:=P) ⟨fun p aB=>by simp only [sS] at aB;subst aB;exact j0,fun p aB q a_ _ _=>by
       simp only [sS] at aB a_;subst aB;subst a_;rfl⟩
      refine .inl ⟨C,_,bn,fY hw (v:=v.cc) (H':=H) ?_,al⟩;rw [fv,aq C,hh,jd,sx];exact xJ cq aB (tX) H
     ·rename_i hh;obtain ⟨v,H',⟨C,bn,dW⟩,al⟩:=al;refine .inl ⟨C,_,bn,fY hw (v:=v) (H':=H') ?_,al⟩;rw [fv,aq C,hh,jd,sx];exact dW
     ·obtain ⟨v,H',⟨C,bn,dW⟩,al⟩:=al;refine .inl ⟨C,_,bn,fY hw (v:=v) (H':=H') ?_,al⟩;rw [fv,aq C,jd,sx];exact dW
    ·obtain ⟨v,H',⟨C,bn,dW⟩,al⟩:=al;refine .inl ⟨C,_,bn,fY hw (v:=v) (H':=H') ?_,al⟩;rw [fv,aq C];exact dW
    ·exact al.elim
   ·exact al.elim
  ·obtain ⟨v,H',ab,ae⟩:=oy al;exact .inl ⟨_,_,lX,fY hw (ab _),ae⟩
end
end Go.Proofs.YtkoioidpbbbaiaaGreat.Ab


namespace Go.Proofs.YtkoioidpbbbaiaaGreat.Ab
open Go
section
variable {P:Program}
theorem iI.mono {lo:Nat} {ops:Array Oper} {o:Oper} {an:bZ} {s:a6} {K K':a6→Prop} (h:iI P lo ops o an s K) (al:∀ s,K s→K' s):iI P lo ops o an s K':=by
 rcases h with ⟨C,aD,ab,ae,aF⟩ | ⟨it,r,m,since,seen,es,clock,aA,aG,aT,br,bg,bd,dd,dx,dS⟩
 ·exact .inl ⟨C,aD,ab,ae,al _ aF⟩
 ·exact .inr ⟨it,r,m,since,seen,es,clock,aA,aG,aT,br,bg,bd,dd,fun h=>al _ (dx h),fun e ab ae=>al _ (dS e ab ae)⟩
theorem AP {lo:Nat} {ops:Array Oper} {K K':a6→Prop} (al:∀ s,K s→K' s):∀ {l:List Oper} {as:List bZ} {s:a6},runN P lo ops l as s K→runN P lo ops l as s K'
 | [],_,s,h=>al s h
 | _::_,_,_,h=>iI.mono h fun _ aX=>AP al aX
theorem zL {f g:a6→(cQ→a6→Prop)→Prop} (nK:∀ s Q cM,(∀ e s,Q e s→cM e s)→f s Q→g s cM) {Q cM:cQ→a6→Prop} (a_:∀ e s,Q e s→cM e s):∀ {n:Nat} {s:a6},fB f n s Q→fB g n s cM
 | 0,s,h=>h
 | n+1,s,h=>nK s _ _ (fun e aD aX=>by
   cases e with
   | normal=>exact zL nK a_ aX
   | ret=>exact a_ _ _ aX
   | exit id=>exact a_ _ _ aX) h
theorem oR {A:dw} {fn:FuncId} {lo:Nat} {rl:Option Nat}:∀ {c:Code} {a2:Nat} {s:a6} {Q cM:cQ→a6→Prop},(∀ e s,Q e s→cM e s)→dc P A fn lo rl c a2 s Q→dc P A fn lo rl c a2 s cM:=by
 intro c
 induction c with
 | skip=>intro a2 s Q cM a_ h;exact a_ _ _ h
 | label l=>intro a2 s Q cM a_ h;exact a_ _ _ h
 | ret=>intro a2 s Q cM a_ h;exact a_ _ _ h
 | exit id=>intro a2 s Q cM a_ h;exact a_ _ _ h
 | goto l=>intro a2 s Q cM a_ h;exact h
 | refuse y=>intro a2 s Q cM a_ h;exact h
 | region id ops draw =>
   intro a2 s Q cM a_ h;simp only [dc] at h ⊢;split at h
   ·obtain ⟨acc,s1,s2,ab,ae,aF,ba⟩:=h;exact ⟨acc,s1,s2,ab,ae,a_ _ _ aF,a_ _ _ ba⟩
   cases draw with
   | true =>
     rcases h with ⟨acc,aD,ab,ae,aF⟩ | ⟨C,aD,ab,ae,aF⟩
     ·exact .inl ⟨acc,aD,ab,ae,a_ _ _ aF⟩
     ·exact .inr ⟨C,aD,ab,ae,a_ _ _ aF⟩
   | false=>exact AP (fun s h=>a_ _ _ h) h
 | seq a b fk fw =>
   intro a2 s Q cM a_ h;refine fk (fun e aD aX=>?_) h;cases e with
   | normal=>exact fw a_ aX
   | ret=>exact a_ _ _ aX
   | exit id=>exact a_ _ _ aX
 | cond c a b fk fw =>
   intro a2 s Q cM a_ h;rcases h with ⟨t,ax,h⟩ | ⟨ax,ab,ae⟩
   ·refine .inl ⟨t,ax,?_⟩;cases t with
    | true=>exact fk a_ h
    | false=>exact fw a_ h
   ·exact .inr ⟨ax,fk a_ ab,fw a_ ae⟩
 | block id c a8 =>
   intro a2 s Q cM a_ h;refine a8 (fun e aD aX=>?_) h;cases e with
   | normal=>exact a_ _ _ aX
   | ret=>exact a_ _ _ aX
   | exit bC =>
     simp only at aX ⊢;by_cases aE:bC=id
     ·simp only [aE,if_true] at aX ⊢;exact a_ _ _ aX
     ·simp only [aE,if_false] at aX ⊢;exact a_ _ _ aX
 | loop c a8 =>
   intro a2 s Q cM a_ h;obtain ⟨n,h⟩:=h;refine ⟨n,?_⟩;refine zL ?_ a_ h;intro s Q cM a_ h;exact a8 a_ h
 | scope c a8=>intro a2 s Q cM a_ h;exact a8 a_ h
 | rangeFunc f bq as ct _ _ =>
   intro a2 s Q cM a_ h;obtain ⟨C,e,aD,ab,ae,aF⟩:=h;exact ⟨C,e,aD,ab,ae,a_ _ _ aF⟩
theorem ow {lo:Nat} {ops:Array Oper}:∀ {l:List Oper} {as:List bZ} {rl:List dP} {acc:c7} {T:List I} {H:List ar} {K:List I→List ar→Prop},e7 P ops l as=some rl→gY P lo false rl acc T H K →
  runN P lo ops l as ⟨T,H⟩ fun aD=>K aD.T aD.H
 | [],as,rl,acc,T,H,K,ao,h=>by simp only [e7,Option.some.injEq] at ao;subst ao;exact h
 | o::r,as,rl,acc,T,H,K,ao,h=>by
   simp only [e7] at ao;split at ao
   ·rename_i cl l' ab ae;simp only [Option.some.injEq] at ao;subst ao;exact iI.mono (Gt ab h) fun aD aX=>ow ae aX
   ·cases ao
theorem nE {C:b8} {lo:Nat} {ops:Array Oper} {o:Oper} {r:List Oper} {as:List bZ} {s:a6}:ee P C lo ops (o::r) as s=(dv P C lo ops o (as.headD {}) s).bind (ee P C lo ops r as.tail):=by
 rw [ee];unfold dv;cases hw:eB ops o s.T with
 | none=>rfl
 | some b=>cases b <;> rfl
theorem Ao {lo:Nat} {ops:Array Oper}:∀ {l:List Oper} {as:List bZ} {rl:List dP} {acc:c7} {T:List I} {H:List ar} {K:List I→List ar→Prop},e7 P ops l as=some rl→h2 P acc→gY P lo true rl acc T H K →
  ∃ eP bf H',h2 P eP∧(∀ p∈acc,p∈eP)∧(∀ C,iG C eP→ee P C lo ops l as ⟨T,H⟩=some ⟨bf,H'⟩)∧K bf H'
 | [],as,rl,acc,T,H,K,ao,cu,h=>by simp only [e7,Option.some.injEq] at ao;subst ao;exact ⟨acc,T,H,cu,fun _ h=>h,fun _ _=>rfl,h⟩
 | o::r,as,rl,acc,T,H,K,ao,cu,h=>by
   simp only [e7] at ao;split at ao
   ·rename_i cl l' ab ae;simp only [Option.some.injEq] at ao;subst ao;obtain ⟨BS,g6,H1,aA,aG,aT,br⟩:=Bz ab cu h;obtain ⟨BT,en,H2,bm,cw,e2,lQ⟩:=Ao ae aA br;refine ⟨BT,en,H2,bm,fun p aB=>cw p (aG p aB),fun C cq=>?_,lQ⟩;rw [nE,aT C (fun p aB=>cq p (cw p aB)),sb];exact e2 C cq
   ·cases ao
theorem Gu {lo:Nat} {ops:Array Oper} {o:Oper} {an:bZ} {cl:dP} (ai:iz P ops o an=some cl) {acc:c7} {T:List I} {H:List ar} {K:c7→List I→List ar→Prop}
  (h:hC P lo false cl acc T H K):∃ C aD,c6 P C∧dv P C lo ops o an ⟨T,H⟩=some aD∧K acc aD.T aD.H:=by
 rcases oS ai h with ⟨hw,al⟩ | ⟨hw,al⟩
 ·exact ⟨_,_,lX,oM hw,al⟩
 ·rcases oB al with ⟨mode,hm,al⟩ | al
  ·obtain ⟨rfl,c,f,aC,ak⟩:=xQ hm;generalize fv:fm (dE o an.mode) (rd T an.cC (opsOf o)).1=vs at al;(have aq:∀ C,a3 P C lo o an.mode vs H=hv C lo an.mode H vs:=fun C=>by simp only [a3,aC,ak]);unfold lS at al;split at al
   ·split at al
    ·(rename_i args _ k first cap);rw [jE,jE] at al;split at al
     ·rename_i hh;obtain ⟨aB,al⟩:=al;rw [nz] at al;obtain ⟨v,j0,al⟩:=al
      obtain ⟨C,bn,cq⟩:=nt (acc:=[(k,(first++(args++cap)).map I.cc,v)]) (P:=P) ⟨fun p aB=>by simp only [sS] at aB;subst aB;exact j0,fun p aB q a_ _ _=>by
       simp only [sS] at aB a_;subst aB;subst a_;rfl⟩
      refine ⟨C,_,bn,fY hw (v:=v.cc) (H':=H) ?_,al⟩;rw [fv,aq C,hh,jd,sx];exact xJ cq aB (tX) H
     ·rename_i hh;obtain ⟨v,H',⟨C,bn,dW⟩,al⟩:=al;refine ⟨C,_,bn,fY hw (v:=v) (H':=H') ?_,al⟩;rw [fv,aq C,hh,jd,sx];exact dW
     ·obtain ⟨v,H',⟨C,bn,dW⟩,al⟩:=al;refine ⟨C,_,bn,fY hw (v:=v) (H':=H') ?_,al⟩;rw [fv,aq C,jd,sx];exact dW
    ·obtain ⟨v,H',⟨C,bn,dW⟩,al⟩:=al;refine ⟨C,_,bn,fY hw (v:=v) (H':=H') ?_,al⟩;rw [fv,aq C];exact dW
    ·exact al.elim
   ·exact al.elim
  ·obtain ⟨v,H',ab,ae⟩:=oy al;exact ⟨_,_,lX,fY hw (ab _),ae⟩
theorem By {lo:Nat} {ops:Array Oper} {o:Oper} {an:bZ} {cl:dP} (ai:iz P ops o an=some cl) (aI:ik cl=false) {acc:c7} {T:List I} {H:List ar} {K:c7→List I→List ar→Prop}
  (h:hC P lo false cl acc T H K):∃ aD,(∀ C,dv P C lo ops o an ⟨T,H⟩=some aD)∧K acc aD.T aD.H:=by
 have C':cl.k=gZ P o an.mode:=by
  unfold iz at ai;split at ai
  ·cases ai;rfl
  ·split at ai
   ·cases ai;rfl
   ·cases ai
 rcases oS ai h with ⟨hw,al⟩ | ⟨hw,al⟩
 ·exact ⟨_,fun C=>oM hw,al⟩
 ·rcases oB al with ⟨mode,hm,al⟩ | al
  ·unfold ik at aI;rw [C',hm] at aI;cases aI
  ·obtain ⟨v,H',ab,ae⟩:=oy al;exact ⟨_,fun C=>fY hw (ab C),ae⟩
theorem An {lo:Nat} {ops:Array Oper}:∀ {l:List Oper} {as:List bZ} {rl:List dP} {acc:c7} {T:List I} {H:List ar} {K:List I→List ar→Prop},e7 P ops l as=some rl→rl.countP ik=0→gY P lo false rl acc T H K →
  ∃ aD,(∀ C,ee P C lo ops l as ⟨T,H⟩=some aD)∧K aD.T aD.H
 | [],as,rl,acc,T,H,K,ao,_,h=>by simp only [e7,Option.some.injEq] at ao;subst ao;exact ⟨⟨T,H⟩,fun _=>rfl,h⟩
 | o::r,as,rl,acc,T,H,K,ao,aI,h=>by
   simp only [e7] at ao;split at ao
   ·rename_i cl l' ab ae;simp only [Option.some.injEq] at ao;subst ao;rw [List.countP_cons] at aI;have za:ik cl=false:=by
     cases aj:ik cl with
     | true=>rw [aj] at aI;simp at aI
     | false=>rfl
    rw [za] at aI;obtain ⟨s1,aA,aG⟩:=By ab za h;obtain ⟨s2,bm,cw⟩:=An ae (by simpa using aI) aG;refine ⟨s2,fun C=>?_,cw⟩;rw [nE,aA C,sb];exact bm C
   ·cases ao
theorem Ap {lo:Nat} {ops:Array Oper}:∀ {l:List Oper} {as:List bZ} {rl:List dP} {acc:c7} {T:List I} {H:List ar} {K:List I→List ar→Prop},e7 P ops l as=some rl→rl.countP ik≤1→gY P lo false rl acc T H K →
  ∃ C aD,c6 P C∧ee P C lo ops l as ⟨T,H⟩=some aD∧K aD.T aD.H
 | [],as,rl,acc,T,H,K,ao,_,h=>by simp only [e7,Option.some.injEq] at ao;subst ao;exact ⟨_,⟨T,H⟩,lX,rfl,h⟩
 | o::r,as,rl,acc,T,H,K,ao,aI,h=>by
   simp only [e7] at ao;split at ao
   ·rename_i cl l' ab ae;simp only [Option.some.injEq] at ao;subst ao;rw [List.countP_cons] at aI;cases aj:ik cl with
    | true =>
      rw [aj] at aI;obtain ⟨C,s1,h3,aA,aG⟩:=Gu ab h;have aI:l'.countP ik+1≤1:=aI;obtain ⟨s2,bm,cw⟩:=An ae (by omega) aG;refine ⟨C,s2,h3,?_,cw⟩;rw [nE,aA,sb];exact bm C
    | false =>
      rw [aj] at aI;obtain ⟨s1,aA,aG⟩:=By ab aj h;obtain ⟨C,s2,de,bm,cw⟩:=Ap ae (by simpa using aI) aG;refine ⟨C,s2,de,?_,cw⟩;rw [nE,aA C,sb];exact bm
   ·cases ao
theorem Gv {lo:Nat} {cl:dP} (aI:mV cl=true) {acc:c7} {T:List I} {H:List ar} {K K':c7→List I→List ar→Prop} (fJ:K acc=K' acc) (h:hC P lo true cl acc T H K):hC P lo true cl acc T H K':=by
 have e:∀ (vs:List I) (H:List ar) (F:c7→I→List ar→Prop),lr P lo true cl.k acc vs H F=bO P lo cl.k vs H (F acc):=fun vs H F=>by
  unfold mV at aI;unfold lr;split
  ·rename_i m al;rw [al] at aI;cases aI
  ·rfl
 unfold hC at h ⊢;simp only [e,fJ] at h ⊢;exact h
theorem xM {lo:Nat} {ops:Array Oper} {an:List bZ}:∀ {O:List Nat} {rl:List dP} {acc:c7} {T:List I} {H:List ar} {K:List I→List ar→Prop},k4 P ops an O=some rl→rl.all mV=true→h2 P acc→gY P lo true rl acc T H K →
  ∃ bf H',(∀ C,iG C acc→cU P C lo ops an O ⟨T,H⟩=some ⟨bf,H'⟩)∧K bf H'
 | [],rl,acc,T,H,K,ao,_,cu,h=>by simp only [k4,Option.some.injEq] at ao;subst ao;exact ⟨T,H,fun _ _=>rfl,h⟩
 | i::r,rl,acc,T,H,K,ao,aI,cu,h=>by
   simp only [k4] at ao;split at ao
   ·rename_i o hi;split at ao
    ·rename_i cl l' ab ae;simp only [Option.some.injEq] at ao;subst ao;simp only [List.all_cons,sn] at aI;have aX:=Gv aI.1 (K':=fun eP bf H'=>eP=acc∧gY P lo true l' acc bf H' K) (by funext bf H';simp) h;obtain ⟨BS,g6,H1,_,_,aT,rfl,br⟩:=Bz ab cu aX;obtain ⟨en,H2,e2,lQ⟩:=xM ae aI.2 cu br;refine ⟨en,H2,fun C cq=>?_,lQ⟩;simp only [cU,hi];rw [aT C cq,sb];exact e2 C cq
    ·cases ao
   ·cases ao
theorem DW {A:dw} {fn:FuncId} {lo:Nat} {rl:Option Nat} {id:Nat} {ops:Array Oper} {draw:Bool} {a2:Nat} {x:List Nat×Nat×Nat} {rc:gE} (aL:A.im=[]) (ax:kj A id draw=some x) (ao:xt P ops (A.ops.getD id []) x=some rc)
  {T:List I} {H:List ar} {Q:cQ→List I→List ar→Prop} (h:dQ P A fn lo rl rc T H Q):dc P A fn lo rl (.region id ops draw) a2 ⟨T,H⟩ fun e s=>Q e s.T s.H:=by
 have al:e5 A.im id ⟨T,H⟩=⟨T,H⟩:=by rw [aL];rfl
 unfold xt at ao;split at ao
 ·rename_i l1 l2 ab ae;split at ao
  ·rename_i aI;simp only [Option.some.injEq] at ao;subst ao;rw [sn] at aI;have aQ:h2 P []:=⟨fun p aB=>by simp at aB,fun p aB=>by simp at aB⟩;obtain ⟨en,H2,bm,cw⟩:=xM ab aI.1 aQ h.1;obtain ⟨dH,hF,a7,a9⟩:=xM ae aI.2 aQ h.2;simp only [dc,ax,al];exact ⟨[],⟨en,H2⟩,⟨dH,hF⟩,aQ,fun C _ cq=>⟨bm C cq,a7 C cq⟩,cw,a9⟩
  ·cases ao
 ·cases ao
theorem DV {A:dw} {fn:FuncId} {lo:Nat} {rl:Option Nat} {id:Nat} {ops:Array Oper} {draw:Bool} {a2:Nat} {rc:gE} (aL:A.im=[]) (ax:kj A id draw=none) (ao:xr P ops draw (A.ops.getD id [])=some rc)
  {T:List I} {H:List ar} {Q:cQ→List I→List ar→Prop} (h:dQ P A fn lo rl rc T H Q):dc P A fn lo rl (.region id ops draw) a2 ⟨T,H⟩ fun e s=>Q e s.T s.H:=by
 have al:e5 A.im id ⟨T,H⟩=⟨T,H⟩:=by rw [aL];rfl
 have gen:∀ {d:Bool} {l:List Oper},ops.toList=l→draw=d→((e7 P ops l (A.ops.getD id [])).map fun l'=>gE.ov (d && !oK l') l')=some rc→dc P A fn lo rl (.region id ops draw) a2 ⟨T,H⟩ fun e s=>Q e s.T s.H:=fun {d l} kP a1 eF=>by
  clear ao;simp only [r_] at eF;obtain ⟨AL,eF,rfl⟩:=eF;subst a1;cases draw with
  | true =>
    simp only [dc,ax];cases ah:oK AL with
    | false =>
      rw [ah] at h;obtain ⟨eP,bf,H',aA,_,aT,br⟩:=Ao eF ⟨fun p aB=>by simp at aB,fun p aB=>by simp at aB⟩ h;exact .inl ⟨eP,⟨bf,H'⟩,aA,fun C _ cq=>by rw [al,kP];exact aT C cq,br⟩
    | true =>
      rw [ah] at h;simp only [oK,sn] at ah;obtain ⟨C,aD,de,bm,cw⟩:=Ap eF (by simpa using ah.2) h;exact .inr ⟨C,aD,de,by rw [al,kP];exact bm,cw⟩
  | false =>
    simp only [dc,ax];rw [al,kP];exact ow eF h
 unfold xr at ao;split at ao
 ·rename_i o rest kP;split at ao
  ·rename_i it aC aO;simp only [r_] at ao;obtain ⟨AL,ao,rfl⟩:=ao;simp only [dc,ax];rw [al,kP];refine .inr ?_;simp only [dQ,z7,iQ] at h;split at h
   ·rename_i r ai;obtain ⟨m,since,seen,clock,es,aA,aG,aT,br,bg,bd⟩:=h;simp only [xK] at bg bd;exact ⟨.tmp it,r,m,since,seen,es,clock,aC,aO,ai,aA,aG,aT,br,fun h=>ow ao (bg h),fun e ab ae=>ow ao (bd e ab ae)⟩
   ·exact h.elim
  ·exact gen kP rfl ao
 ·exact gen rfl rfl ao
theorem fB.more {f:a6→(cQ→a6→Prop)→Prop} {Q:cQ→a6→Prop} (aP:∀ s Q cM,(∀ e s,Q e s→cM e s)→f s Q→f s cM):∀ {n:Nat} {s:a6},fB f n s Q→fB f (n+1) s Q
 | 0,s,h=>h.elim
 | n+1,s,h=>aP _ _ _ (fun e aD aX=>by
    cases e with
    | normal=>exact fB.more aP aX
    | ret=>exact aX
    | exit id=>exact aX) h
theorem D1 {f:a6→(cQ→a6→Prop)→Prop} {Q:cQ→a6→Prop} (h0:Nat→a6→Prop) (step:∀ m s,h0 m s→f s fun e aD=>match e with | .normal=>∃ hr,hr<m∧h0 hr aD | e=>Q e aD)
  (aP:∀ s Q cM,(∀ e s,Q e s→cM e s)→f s Q→f s cM):∀ (m:Nat) (s:a6),h0 m s→fB f (m+1) s Q:=by
 intro m
 induction m using Nat.strongRecOn with
 | _ m a8 =>
   intro s h;refine aP _ _ _ (fun e aD aX=>?_) (step m s h);cases e with
   | normal =>
     obtain ⟨hr,hm,aX⟩:=aX
     have:∀ k,fB f (hr+1+k) aD Q:=fun k=>by
      induction k with
      | zero=>exact a8 hr hm aD aX
      | succ k DN=>exact fB.more aP DN
     (have e:m=hr+1+(m-(hr+1)):=by omega);rw [e];exact this _
   | ret=>exact aX
   | exit id=>exact aX
theorem G6 {A:dw} {fn:FuncId} {lo:Nat} {rl:Option Nat}:∀ {c:Code} {a2:Nat} {rc:gE} {T:List I} {H:List ar} {Q:cQ→List I→List ar→Prop},ey P A c a2=some rc→dQ P A fn lo rl rc T H Q →
  dc P A fn lo rl c a2 ⟨T,H⟩ fun e s=>Q e s.T s.H:=by
 intro c
 induction c with
 | skip=>intro a2 rc T H Q ao h;simp only [ey,Option.some.injEq] at ao;subst ao;exact h
 | label l=>intro a2 rc T H Q ao h;simp only [ey,Option.some.injEq] at ao;subst ao;exact h
 | ret=>intro a2 rc T H Q ao h;simp only [ey,Option.some.injEq] at ao;subst ao;exact h
 | exit id=>intro a2 rc T H Q ao h;simp only [ey,Option.some.injEq] at ao;subst ao;exact h
 | goto l=>intro a2 rc T H Q ao h;simp [ey] at ao
 | refuse y=>intro a2 rc T H Q ao h;simp [ey] at ao
 | region id ops draw =>
   intro a2 rc T H Q ao h;simp only [ey] at ao;split at ao
   ·rename_i aL;split at ao
    ·rename_i p ax;exact DW aL ax ao h
    ·rename_i ax;exact DV aL ax ao h
   ·cases ao
 | seq a b fk fw =>
   intro a2 rc T H Q ao h;simp only [ey] at ao;split at ao
   ·rename_i x y aj aY;simp only [Option.some.injEq] at ao;subst ao;show dc P A fn lo rl a a2 ⟨T,H⟩ _;refine oR (fun e s aX=>?_) (fk aj h);cases e with
    | normal=>exact fw aY aX
    | ret=>exact aX
    | exit id=>exact aX
   ·cases ao
 | cond c a b fk fw =>
   intro a2 rc T H Q ao h;simp only [ey] at ao;split at ao
   ·rename_i x y aj aY;simp only [Option.some.injEq] at ao;subst ao
    have key:∀ v,az T c=v→(match v with
      | .bool t=>(match t with | true=>dQ P A fn lo rl x T H Q | false=>dQ P A fn lo rl y T H Q)
      | .dz=>dQ P A fn lo rl x T H Q∧dQ P A fn lo rl y T H Q
      | _=>False)→dc P A fn lo rl (.cond c a b) a2 ⟨T,H⟩ fun e s=>Q e s.T s.H:=fun v ad h=>by
     cases v with
     | bool t =>
       refine .inl ⟨t,ad,?_⟩;cases t with
       | true=>exact fk aj h
       | false=>exact fw aY h
     | dz=>exact .inr ⟨ad,fk aj h.1,fw aY h.2⟩
     | _=>exact h.elim
    cases c with
    | tmp t=>simp only [ox,dQ,iQ] at h;exact key _ rfl h
    | const v=>exact key (az [] (.const v)) rfl h
    | func f=>exact key (az [] (.func f)) rfl h
    | global g=>exact key (az [] (.global g)) rfl h
   ·cases ao
 | block id c a8 =>
   intro a2 rc T H Q ao h;simp only [ey,r_] at ao;obtain ⟨x,aj,rfl⟩:=ao;show dc P A fn lo rl c id ⟨T,H⟩ _;refine oR (fun e s aX=>?_) (a8 aj h);cases e with
   | normal=>exact aX
   | ret=>exact aX
   | exit bC =>
     simp only at aX ⊢;by_cases aE:bC=id
     ·subst aE;simp only [if_true];rw [uQ] at aX;exact aX
     ·simp only [aE,if_false]
      have:Nat.beq bC id=false:=by
       cases af:Nat.beq bC id with
       | false=>rfl
       | true=>exact absurd (sN af) aE
      rw [this] at aX;exact aX
 | loop c a8 =>
   intro a2 rc T H Q ao h;simp only [ey,r_] at ao;obtain ⟨x,aj,rfl⟩:=ao;simp only [dQ,DS,z3] at h;obtain ⟨h0,m,hm,DI⟩:=h;have kJ:∀ s:a6,e5 A.il a2 s=⟨match l7 a2 A.il with | some k=>eZ k s.T | none=>s.T,s.H⟩:=fun s=>by
    unfold e5;cases l7 a2 A.il <;> rfl
   refine ⟨m+1,D1 (f:=fun aD=>dc P A fn lo rl c a2 (e5 A.il a2 aD)) (fun m s=>h0 m (e5 A.il a2 s).T s.H) ?_ (fun s Q cM a_ h=>oR a_ h) m ⟨T,H⟩ (by rw [kJ];exact hm)⟩;intro m s kE;rw [kJ] at kE;have h:=a8 aj (DI m _ s.H kE);show dc P A fn lo rl c a2 (e5 A.il a2 s) _;rw [kJ];refine oR (fun e aD aX=>?_) h;cases e with
   | normal=>simp only at aX ⊢;rw [kJ];exact aX
   | ret=>exact aX
   | exit id=>exact aX
 | scope c a8=>intro a2 rc T H Q ao h;exact a8 ao h
 | rangeFunc f bq as ct _ _ =>
   intro a2 rc T H Q ao h;simp only [ey,Option.some.injEq] at ao;subst ao;have key:∀ v,az T f=v→oE P A fn lo rl v bq.toList as ct T H Q→dc P A fn lo rl (.rangeFunc f bq as ct) a2 ⟨T,H⟩ fun e s=>Q e s.T s.H:=fun v ad h=>by
    unfold oE at h;split at h
    ·(rename_i k first cap);obtain ⟨hg,r,H',st,cL,fn',bf,Af,gH,yx,iM,ah,ao,cJ,a_⟩:=h;have fin:∀ (e:cQ) (H2:List ar),exec P A (k9 (.fn k) (first++[.yield H.length]++cap) (H++[.loop .ready none fn (T.map I.view) bq.toList as ct A]) lo r H') fn lo 0 rl (.rangeFunc f bq as ct) a2 ⟨T,H⟩=some (e,⟨T.map I.settle,H2⟩)→Q e (T.map I.settle) H2 →
       dc P A fn lo rl (.rangeFunc f bq as ct) a2 ⟨T,H⟩ fun e s=>Q e s.T s.H:=fun e H2 he a_=>⟨_,e,_,EB ah,he,a_⟩
     have hex:∀ (e:cQ),(match cL with | none=>some cQ.normal | some .ret=>some .ret | some (.exit id)=>some (.exit id) | _=>none)=some e →
       exec P A (k9 (.fn k) (first++[.yield H.length]++cap) (H++[.loop .ready none fn (T.map I.view) bq.toList as ct A]) lo r H') fn lo 0 rl (.rangeFunc f bq as ct) a2 ⟨T,H⟩=some (e,⟨T.map I.settle,H'.set H.length .dead⟩):=fun e he=>by
      simp only [exec,ad,hg,EA,ao,cJ,if_false];split at he <;> simp_all
     split at a_
     ·exact fin _ _ (hex .normal rfl) a_
     ·exact fin _ _ (hex .ret rfl) a_
     ·exact fin _ _ (hex (.exit _) rfl) a_
     ·exact a_.elim
    ·exact h.elim
   cases f with
   | tmp t=>simp only [ox,dQ,iQ] at h;exact key _ rfl h
   | const v=>exact key (az [] (.const v)) rfl h
   | func g=>exact key (az [] (.func g)) rfl h
   | global g=>exact key (az [] (.global g)) rfl h
end
end Go.Proofs.YtkoioidpbbbaiaaGreat.Ab
