
import Derived.Test.YtkoioidpbbbaiaaJv2
import Derived.Maps.RangeRun
set_option linter.unusedSimpArgs false
set_option linter.unusedVariables false
set_option linter.unusedSectionVars false

open Array renaming getD_eq_getD_getElem?→su,getElem?_eq_getElem→sr,getElem?_eq_some_iff→sJ,getElem?_setIfInBounds_ne→uL,length_toList→sY,toArray_toList→tF
open Bool renaming and_eq_true→sn,false_eq_true→tR,or_eq_true→tt
open Classical renaming choose_spec→uA
open List renaming all_eq_true→sq,append_assoc→sx,drop_eq_getElem_cons→s7,eq_nil_iff_forall_not_mem→uz,filter_eq_self→tC,filter_filter→uS,foldl_cons→uK,getD_eq_getElem?_getD→sw,getElem?_append_left→sg,getElem?_append_right→ss,getElem?_cons_zero→tG,getElem?_eq_getElem→si,getElem?_eq_some_iff→sa,getElem?_map→sm,getElem?_set_ne→sd,getElem?_set_self→sk,length_cons→sK,length_eq_zero_iff→sO,length_erase_of_mem→tV,length_map→sX,length_nil→tK,length_set→s6,mapM_cons→vo,map_cons→sE,map_drop→tH,map_take→tT,mem_cons→sA,mem_cons_of_mem→tU,mem_cons_self→tZ,mem_filter→tc,mem_iff_getElem?→sW,mem_map→sC,mem_of_getElem?→sv,mem_range→sH,mem_singleton→sS,nodup_range→uR,of_mem_zip→uU,pairwise_cons→tB,take_append_drop→vv,zip_cons_cons→vr
open Nat renaming beq_eq→tY,beq_refl→uT,ble_eq→tD,ble_eq_true_of_le→tn,blt_eq→sR,eq_of_beq_eq_true→sN,le_of_ble_eq_true→tr,le_refl→sc,lt_or_ge→sL
open Option renaming bind_eq_some_iff→sf,bind_some→sb,isNone_iff_eq_none→s9,isSome_eq_false_iff→s8,isSome_iff_exists→tb,map_eq_some_iff→r_,map_some→se
namespace Go.Proofs.Ytkoioidpbbbaiaa.Ab
open Go
section
variable {P:Program}
theorem mU (ms:List Nat) (j:Nat):∀ (l:List Edge) (n8:Nat),(l.foldl (fun m e=>if Region.binds .any e then m ||| (ms.getD e.on 0 ||| 1 <<< e.on) else m) n8).testBit j=true →
  n8.testBit j=true∨∃ e∈l,Region.binds .any e=true∧((ms.getD e.on 0).testBit j=true∨j=e.on)
 | [],n8,h=>.inl h
 | e::l,n8,h=>by
   simp only [uK] at h;rcases mU ms j l _ h with ab | ⟨cV,jQ,af,ab⟩
   ·by_cases af:Region.binds .any e=true
    ·simp only [af,if_true,Nat.testBit_or,tt] at ab;rcases ab with ab | ab | ab
     ·exact .inl ab
     ·exact .inr ⟨e,by simp,af,.inl ab⟩
     ·refine .inr ⟨e,by simp,af,.inr ?_⟩;rw [Nat.one_shiftLeft,Nat.testBit_two_pow] at ab;simpa using (of_decide_eq_true ab).symm
    ·simp only [af] at ab;exact .inl ab
   ·exact .inr ⟨cV,by simp [jQ],af,ab⟩
def lX (ops:Array Oper) (listed:Array Bool):Prop :=
 ∀ k o,ops[k]?=some o→listed.getD k true=true→∀ e∈o.after,Region.binds .any e=true→listed.getD e.on false=true
noncomputable def cU (P:Program) (C:b8) (lo:Nat) (ops:Array Oper) (as:List bZ):List Nat→a6→Option a6
 | [],s=>some s
 | i::r,s=>match ops[i]? with
   | none=>cU P C lo ops as r s
   | some o=>(dw P C lo ops o (as.getD i {}) s).bind (cU P C lo ops as r)
theorem yN {C:b8} {lo:Nat} {ops:Array Oper} {as:List bZ}:∀ (l:List Oper) (k:Nat) (s:a6),(∀ j,l[j]?=ops[k+j]?)→ee P C lo ops l (as.drop k) s=cU P C lo ops as (List.range' k l.length) s
 | [],k,s,_=>by simp [ee,cU]
 | o::l,k,s,h=>by
   (have aQ:ops[k]?=some o:=by simpa using (h 0).symm);have a8:=fun s=>yN (C:=C) (lo:=lo) (as:=as) l (k+1) s (fun j=>by have:=h (j+1);simpa [Nat.add_assoc,Nat.add_comm 1 j] using this);(have a1:(as.drop k).headD {}=as.getD k {}:=by rw [List.headD_eq_head?_getD,List.head?_drop,sw]);(have ax:(as.drop k).tail=as.drop (k+1):=by rw [List.tail_drop]);simp only [ee,sK,List.range'_succ,cU,aQ,a1,ax];unfold dw;split
   ·rename_i hw;simp only [hw];congr 1;funext aD;exact a8 aD
   ·rename_i hw;simp only [hw];exact a8 _
   ·rename_i hw;simp only [hw];rfl
def eL (n:Nat) (listed:Array Bool):List Nat:=(List.range n).filter fun i=>!listed.getD i true
theorem Av {n i:Nat} {listed:Array Bool}:eL n (listed.setIfInBounds i true)=(eL n listed).erase i:=by
 have jW:(eL n listed).Nodup:=uR.filter _;rw [jW.erase_eq_filter];simp only [eL,uS];congr 1;funext j;by_cases h_:j=i
 ·subst h_;rcases sL j listed.size with h | h
  ·simp [su,h]
  ·simp [su,h]
 ·have:(listed.setIfInBounds i true).getD j true=listed.getD j true:=by
   simp only [su];rw [uL (Ne.symm h_)]
  rw [this];simp [h_]
theorem x9 {C:b8} {lo:Nat} {ops:Array Oper} {as:List bZ} {i:Nat} {cS:Oper} (hi:ops[i]?=some cS) {aD:a6}:∀ (l:List Nat) (s:a6),l.Pairwise (·<·)→i∈l →
  (∀ j∈l,j<i→∀ cT,ops[j]?=some cT→indep ops cT (as.getD j {}) cS (as.getD i {})=true)→cU P C lo ops as l s=some aD →
  ∃ s1,dw P C lo ops cS (as.getD i {}) s=some s1∧cU P C lo ops as (l.erase i) s1=some aD
 | [],s,_,h,_,_=>by simp at h
 | j::r,s,aB,hm,jS,h=>by
   by_cases gi:j=i
   ·subst gi;simp only [cU,hi,sf] at h;obtain ⟨s1,ab,ae⟩:=h;exact ⟨s1,ab,by simpa using ae⟩
   ·have ai:i∈r:=by
     rcases sA.1 hm with h | h
     ·exact absurd h.symm gi
     ·exact h
    have aR:j<i:=(tB.1 aB).1 i ai;have he:(j::r).erase i=j::r.erase i:=by
     rw [List.erase_cons];simp [gi]
    rw [he];simp only [cU] at h ⊢;cases aw:ops[j]? with
    | none =>
      simp only [aw] at h;exact x9 hi r s (tB.1 aB).2 ai (fun k al=>jS k (by simp [al])) h
    | some cT =>
      simp only [aw,sf] at h;obtain ⟨s1,ab,ae⟩:=h;obtain ⟨s2,aJ,aN⟩:=x9 hi r s1 (tB.1 aB).2 ai (fun k al=>jS k (by simp [al])) ae;obtain ⟨dk,q1,aW⟩:=Bn (jS j (by simp) aR cT aw) ab aJ;exact ⟨dk,q1,by dsimp only;rw [aW];exact aN⟩
variable {B N:Nat} {J:List Nat} {w:World} {aa:Nat→Option aH} {S:Nat→Nat→Prop}
theorem Bp {F:Fence} (bG:ek F) {C:b8} (bn:c6 P C) {lo:Nat} {ops:Array Oper} {Q:Exit→Act→World→Prop} {i:Nat} {o:Oper} (hi:ops[i]?=some o) {an:bZ} {s aD:a6}
  (h:dw P C lo ops o an s=some aD) {a:Act} (aL:cA B N aa J S w s a) {K:Act→World→Prop} (fJ:∀ aM w',Step B N aa J S w aD aM w'→K aM w'):wpOpIn F 0 P ops Q i K a w:=by
 unfold wpOpIn;simp only [hi];unfold dw at h;split at h
 ·rename_i hw;rw [lD aL hw];simp only [if_true];exact yf bG bn h aL fJ
 ·rename_i hw;rw [lD aL hw];simp only [tR,if_false];simp only [Option.some.injEq] at h;subst h;exact ⟨fun f _=>bG.fn f,fJ _ _ (Step.here (aL.skip o.dst))⟩
 ·simp at h
theorem BW {F:Fence} (bG:ek F) {C:b8} (bn:c6 P C) {lo:Nat} {ops:Array Oper} {as:List bZ} (a1:nB ops as=true) {Q:Exit→Act→World→Prop} {aD:a6} :
  ∀ (fuel:Nat) (listed:Array Bool) (s:a6) (a:Act) (w:World) (aa:Nat→Option aH) (J:List Nat) (S:Nat→Nat→Prop),(eL ops.size listed).length≤fuel→lX ops listed →
    cU P C lo ops as (eL ops.size listed) s=some aD→cA B N aa J S w s a→(∀ aM w',Step B N aa J S w aD aM w'→Q .normal aM w')→wpAnyIn F 0 P .any ops Q fuel listed a w:=by
 have c1:∀ j cT,ops[j]?=some cT→((fR ops.toList []).getD j 0=mT (fR ops.toList []) cT)∧(∀ e∈cT.after,Region.binds .any e=true→e.on<j) ∧
   ∀ i cS,i<j→ops[i]?=some cS→((fR ops.toList []).getD j 0).testBit i=true∨indep ops cS (as.getD i {}) cT (as.getD j {})=true:=fun j cT aw=>by
  have aR:j<ops.size:=(sJ.1 aw).1;simp only [nB,Ad,sq,sH] at a1;have h:=a1 j aR;rw [aw] at h;simp only [sn,beq_iff_eq,sq,sH] at h;obtain ⟨⟨ab,ae⟩,aF⟩:=h;refine ⟨ab,fun e he af=>?_,fun i cS h_ hi=>?_⟩
  ·have:=ae e (by simpa using he);simp only [af,Bool.not_true,Bool.false_or] at this;simpa [sR] using this
  ·have:=aF i h_;rw [hi] at this;simpa using this
 have xS:∀ (listed:Array Bool),lX ops listed→∀ (n k:Nat) ok,k≤n→ops[k]?=some ok→(∀ e∈ok.after,Region.binds .any e=true→listed.getD e.on false=true) →
   ∀ j,((fR ops.toList []).getD k 0).testBit j=true→listed.getD j false=true:=by
  intro listed cH n
  induction n with
  | zero =>
    intro k ok al aq eU j aw;rw [(c1 k ok aq).1] at aw;rcases mU _ j _ _ aw with h | ⟨e,he,af,h⟩
    ·simp at h
    ·have:=(c1 k ok aq).2.1 e (by simpa using he) af;omega
  | succ n a8 =>
    intro k ok al aq eU j aw;rw [(c1 k ok aq).1] at aw;rcases mU _ j _ _ aw with h | ⟨e,he,af,h⟩
    ·simp at h
    ·(have jQ:e∈ok.after:=by simpa using he);have aR:=(c1 k ok aq).2.1 e jQ af;have ic:=eU e jQ af;rcases h with h | rfl
     ·have kK:=(sJ.1 aq).1;have my:ops[e.on]?=some ops[e.on]:=sr (by omega);have w5:listed.getD e.on true=true:=by
       rcases sL e.on listed.size with aX | aX
       ·simp [su,aX] at ic ⊢;exact ic
       ·simp [su,aX] at ic
      exact a8 e.on _ (by omega) my (cH e.on _ my w5) j h
     ·exact ic
 intro fuel
 induction fuel with
 | zero =>
   intro listed s a w aa J S pI cH dM aL bp;have ib:eL ops.size listed=[]:=sO.1 (by omega);rw [ib] at dM;simp only [cU,Option.some.injEq] at dM;subst dM;refine ⟨?_,bp a w (Step.here aL)⟩;rw [uz];intro i hi;obtain ⟨ab,o,aq,_⟩:=mem_ready.1 hi
   have:i∈eL ops.size listed:=by
    simp only [eL,tc,sH];exact ⟨(sJ.1 aq).1,by simp [ab]⟩
   rw [ib] at this;simp at this
 | succ fuel a8 =>
   intro listed s a w aa J S pI cH dM aL bp;refine ⟨fun ai=>?_,fun i hi=>?_⟩
   ·
    have ib:eL ops.size listed=[]:=by
     rw [uz];intro i
     induction i using Nat.strongRecOn with
     | _ i xm =>
       intro hi;simp only [eL,tc,sH] at hi;obtain ⟨aR,dX⟩:=hi;have aq:ops[i]?=some ops[i]:=sr aR
       have:i∈Region.ready .any ops listed:=mem_ready.2 ⟨by simpa using dX,_,aq,fun e he af=>by
        have ia:=(c1 i _ aq).2.1 e he af;have kO:=xm e.on ia;simp only [eL,tc,sH,not_and] at kO;have ao:=kO (by omega);rcases sL e.on listed.size with aX | aX
        ·simp [su,aX] at ao ⊢;exact ao
        ·rcases sL i listed.size with l_ | l_
         ·omega
         ·simp [su,l_] at dX⟩
       rw [ai] at this;simp at this
    rw [ib] at dM;simp only [cU,Option.some.injEq] at dM;subst dM;exact bp a w (Step.here aL)
   ·obtain ⟨ab,cS,eg,eU⟩:=mem_ready.1 hi;have aR:=(sJ.1 eg).1;have kM:i∈eL ops.size listed:=by
     simp only [eL,tc,sH];exact ⟨aR,by simp [ab]⟩
    have DI:(eL ops.size listed).Pairwise (·<·):=List.pairwise_lt_range.filter _
    obtain ⟨s1,q1,aW⟩:=x9 eg (eL ops.size listed) s DI kM (fun j aw gi cT pY=>by
     rcases (c1 i cS eg).2.2 j cT gi pY with h | h
     ·have:=xS listed cH i i cS (sc _) eg eU j h;simp only [eL,tc,sH] at aw;have dX:=aw.2;rcases sL j listed.size with aX | aX
      ·simp [su,aX] at dX this;rw [this] at dX;simp at dX
      ·simp [su,aX] at dX
     ·exact h) dM
    refine Bp bG bn eg q1 aL fun aM w' ah=>?_;obtain ⟨b5,cZ,a4,aJ,aN,cg⟩:=ah;refine a8 (listed.setIfInBounds i true) s1 aM w' b5 cZ a4 ?_ ?_ (by rw [Av];exact aW) cg fun g7 hB dN=>bp g7 hB (dN.trans aJ aN)
    ·rw [Av,tV kM];omega
    ·intro k ok al ao e he af;by_cases iU:k=i
     ·subst iU;rw [eg] at al;cases al;exact getD_set_true (eU e he af)
     ·have:listed.getD k true=true:=by rw [getD_set_ne true (Ne.symm iU)] at ao;exact ao
      exact getD_set_true (cH k ok al this e he af)
theorem xP {F:Fence} (bG:ek F) (hm:P.follows .mixedOrders=true) {C:b8} (bn:c6 P C) {lo id:Nat} {ops:Array Oper} {draw:Bool} {as:List bZ} (a1:draw=true→nB ops as=true) {Q:Exit→Act→World→Prop} {s aD:a6} {a:Act}
  (h:ee P C lo ops ops.toList as s=some aD) (aL:cA B N aa J S w s a) (bp:∀ aM w',Step B N aa J S w aD aM w'→Q .normal aM w'):(Code.region id ops draw).wpIn F 0 P Q a w:=by
 cases draw with
 | false=>exact wpIn_region_list (xv bG bn ops.toList as s a w aa J S h aL bp)
 | true =>
   refine wpIn_region_any hm ?_;have hw:aK B aa J S w.drew s.H:=mA aL.H;have az:=kz aa S w;have gh:cA B N aa J S w.drew s a:=⟨⟨aL.T.len,fun i u v hu ad=>(aL.T.rel i u v hu ad).mono (Ext.refl J) az.set,fun i u v hu ad=>(aL.T.own i u v hu ad).mono (Ext.refl J) az.set fun b af=>⟨af,rfl,fun _ h=>h⟩⟩,hw,aL.M.az az⟩;have ai:=yN (P:=P) (C:=C) (lo:=lo) (as:=as) (ops:=ops) ops.toList 0 s (by simp);rw [List.drop_zero,h] at ai;have kT:eL ops.size (Array.replicate ops.size false)=List.range ops.size:=by
    simp only [eL];rw [tC];intro i hi;have hi:=sH.1 hi;simp [su,hi]
   refine BW bG bn (a1 rfl) ops.size (Array.replicate ops.size false) s a w.drew aa J S (by rw [kT];simp) ?_ (by rw [kT,List.range_eq_range',←sY];exact ai.symm) gh fun aM w' ah=>bp aM w' (ah.trans (Ext.refl J) az);intro k o aq ao;have aR:=(sJ.1 aq).1;simp [su,aR] at ao
end
end Go.Proofs.Ytkoioidpbbbaiaa.Ab


namespace Go.Proofs.Ytkoioidpbbbaiaa.Ab
open Go
section
variable {P:Program} {C:b8}
theorem Cn (bn:c6 P C) {lo:Nat} {o:Oper} {an:bZ} {s aD:a6} (h:Ab.execOp P C lo o an s=some aD):ba lo s.H aD.H:=by
 obtain ⟨r,H',aC,rfl⟩:=pa h;exact ED bn aC
theorem pb (bn:c6 P C) {lo:Nat} {ops:Array Oper}:∀ (l:List Oper) (as:List bZ) (s aD:a6),ee P C lo ops l as s=some aD→ba lo s.H aD.H
 | [],as,s,aD,h=>by simp only [ee,Option.some.injEq] at h;subst h;exact ba.refl _ _
 | o::l,as,s,aD,h=>by
   simp only [ee] at h;split at h
   ·simp only [sf] at h;obtain ⟨s1,ab,ae⟩:=h;exact (Cn bn ab).trans (pb bn l _ _ _ ae)
   ·have:=pb bn l _ _ _ h;exact this
   ·simp at h
theorem zD (mN:List (Nat×List Bool)) (id:Nat) (s:a6):(e5 mN id s).H=s.H:=by
 unfold e5;split <;> rfl
theorem zM {lo:Nat} {f:a6→Option (cQ×a6)} (aP:∀ s e aD,f s=some (e,aD)→ba lo s.H aD.H):∀ (n:Nat) (s:a6) (e:cQ) (aD:a6),iq f n s=some (e,aD)→ba lo s.H aD.H
 | 0,s,e,aD,h=>by simp [iq] at h
 | n+1,s,e,aD,h=>by
   simp only [iq] at h;split at h
   ·rename_i s1 ab;exact (aP _ _ _ ab).trans (zM aP n _ _ _ h)
   ·exact aP _ _ _ h
theorem pc (bn:c6 P C) {A:dx} {fn:FuncId} {lo d:Nat} {rl:Option Nat}:∀ (c:Code) (a2:Nat) (s:a6) (e:cQ) (aD:a6),exec P A C fn lo d rl c a2 s=some (e,aD)→ba lo s.H aD.H:=by
 intro c
 induction c with
 | skip=>intro a2 s e aD h;simp only [exec,Option.some.injEq,Prod.mk.injEq] at h;obtain ⟨_,rfl⟩:=h;exact ba.refl _ _
 | region id ops draw =>
   intro a2 s e aD h;simp only [exec] at h;split at h
   ·cases h
   simp only [r_,Prod.mk.injEq] at h;obtain ⟨s1,h,_,rfl⟩:=h;have:=pb bn _ _ _ _ h
   rwa [zD] at this
 | seq a b fk fw =>
   intro a2 s e aD h;simp only [exec] at h;split at h
   ·rename_i s1 ab;exact (fk _ _ _ _ ab).trans (fw _ _ _ _ h)
   ·exact fk _ _ _ _ h
 | cond c a b fk fw =>
   intro a2 s e aD h;simp only [exec] at h;split at h
   ·exact fk _ _ _ _ h
   ·exact fw _ _ _ _ h
   ·simp at h
 | block id c a8 =>
   intro a2 s e aD h;simp only [exec] at h;split at h
   ·rename_i bC s1 ab;split at h <;> simp only [Option.some.injEq,Prod.mk.injEq] at h <;> obtain ⟨_,rfl⟩:=h <;> exact a8 _ _ _ _ ab
   ·exact a8 _ _ _ _ h
 | loop c a8 =>
   intro a2 s e aD h;simp only [exec] at h;exact zM (fun s e aD h=>by have:=a8 _ _ _ _ h;rwa [zD] at this) _ _ _ _ h
 | exit id=>intro a2 s e aD h;simp only [exec,Option.some.injEq,Prod.mk.injEq] at h;obtain ⟨_,rfl⟩:=h;exact ba.refl _ _
 | ret=>intro a2 s e aD h;simp only [exec,Option.some.injEq,Prod.mk.injEq] at h;obtain ⟨_,rfl⟩:=h;exact ba.refl _ _
 | scope c a8=>intro a2 s e aD h;simp only [exec] at h;exact a8 _ _ _ _ h
 | label l=>intro a2 s e aD h;simp only [exec,Option.some.injEq,Prod.mk.injEq] at h;obtain ⟨_,rfl⟩:=h;exact ba.refl _ _
 | goto l=>intro a2 s e aD h;simp [exec] at h
 | refuse y=>intro a2 s e aD h;simp [exec] at h
 | rangeFunc g bq a b fk fw =>
   intro a2 s e aD h;simp only [exec] at h;have key:∀ {H':List ar} {r:I} {bY:fc} {args:List I} {x:ar},C bY args (s.H++[x]) lo=some (r,H')→ba lo s.H (H'.set s.H.length .dead):=fun {H' r bY args x} ak=>by
    have ao:=bn.low ak;refine ⟨?_,fun id ab ae=>?_⟩
    ·have:=ao.1;simp at this ⊢;omega
    ·rw [sd (by omega),ao.2 id ab (by simp;omega),sg ae]
   split at h
   ·split at h
    ·rename_i r H' ak;split at h
     ·split at h
      ·simp at h
      ·split at h
       ·simp only [Option.some.injEq,Prod.mk.injEq] at h;obtain ⟨_,rfl⟩:=h;exact key ak
       ·simp only [Option.some.injEq,Prod.mk.injEq] at h;obtain ⟨_,rfl⟩:=h;exact key ak
       ·simp only [Option.some.injEq,Prod.mk.injEq] at h;obtain ⟨_,rfl⟩:=h;exact key ak
       ·simp at h
     ·simp at h
    ·simp at h
   ·simp at h
end
section
variable {P:Program} {F:Fence} {n:Nat} {b:Frame} {a:Act} {k:List Item} {cs:List Frame} {w:World} {Q:Exit→Act→World→Prop}
theorem lz {c:Code}:step P (lone (b.atR a (.code (.scope c)::k)) cs w)=.next (lone (b.atR a (.code c::.inScope c::k)) cs w) :=
 step_lone_go (by simp [stepG,stepG.exec,Frame.atR])
theorem Gg {c:Code}:step P (lone (b.atR a (.inScope c::k)) cs w)=.next (lone (b.atR a k) cs w) :=
 step_lone_go (by simp [stepG,stepG.exec,Frame.atR])
theorem BC {c:Code} (h:c.wpIn F n P Q a w) (aO:∀ l a w,¬ Q (.goto l) a w):(Code.scope c).wpIn F n P Q a w:=by
 intro b k cs DB af ai;have aQ:(lone (b.atR a (.code (.scope c)::k)) cs w).fenced P F:=fenced_calm af ai rfl;obtain ⟨e,kv,lE,a',hL⟩:=h b (.inScope c::k) cs DB af ai;have aj:∀ id,exitTo id (.inScope c::k)=exitTo id k:=fun id=>by simp [exitTo]
 cases e with
 | normal=>exact ⟨.normal,kv,lE,a',.head aQ lz (StepsIn.trans hL (.one (fenced_calm af ai rfl) Gg))⟩
 | exit id =>
   exact ⟨.exit id,kv,lE,a',fun k' al=>.head aQ lz (hL.1 k' (by rw [aj];exact al)),
    fun nT al=>let ⟨k₁,ab,ae⟩:=hL.2 nT (by rw [aj];exact al);⟨k₁,ab,.head aQ lz ae⟩⟩
 | goto l=>exact absurd a' (aO l kv lE)
 | ret=>exact ⟨_,kv,lE,a',.of_steps (.one aQ lz) hL⟩
 | panic GJ=>exact ⟨_,kv,lE,a',.of_steps (.one aQ lz) hL⟩
 | outgrown=>exact ⟨_,kv,lE,a',.of_steps (.one aQ lz) hL⟩
end
end Go.Proofs.Ytkoioidpbbbaiaa.Ab


namespace Go.Proofs.Ytkoioidpbbbaiaa.Ab
open Go
section
variable {P:Program} {B N:Nat} {J:List Nat} {w:World} {H:List ar} {aa:Nat→Option aH} {S:Nat→Nat→Prop}
theorem A':∀ (T:List I) (bc:List Value) (bA:Nat→aH) (S:Nat→Nat→Prop),(∀ i j,bA i=bA j→i=j)→(∀ i id,bA i≠.obj id)→(∀ i id j,bA i≠.cell id j) →
  a5 bA aa J S w T bc→aK B aa J S w H →
  ∃ S':Nat→Nat→Prop,(∀ b o,S b o→S' b o)∧(∀ b o,S' b o→S b o∨∃ i,aa b=some (bA i))∧aK B aa J S' w H∧a5 bA aa J S' w (T.map I.settle) bc∧a5 bA aa J S' w (T.map I.view) bc:=by
 intro T
 induction T with
 | nil=>intro bc bA S _ _ _ ad ag;exact ⟨S,fun _ _ h=>h,fun _ _ h=>.inl h,ag,by simpa using ad,by simpa using ad⟩
 | cons u T a8 =>
   intro bc bA S aw b7 cj ad ag;obtain ⟨v,hX,rfl,ai,aq,ax⟩:=ad.g4;have first:∃ a4:Nat→Nat→Prop,(∀ b o,S b o→a4 b o)∧(∀ b o,a4 b o→S b o∨aa b=some (bA 0))∧aK B aa J a4 w H∧Rel J a4 w u.view v∧Rel J a4 w u.settle v∧aU aa J a4 w (bA 0) u.settle v:=by
    by_cases hu:u.cW=true
    ·have ah:u.settle=u:=by
      (cases u <;> try rfl);rename_i c n k;cases k <;> first | rfl | simp [I.cW] at hu
     exact ⟨S,fun _ _ h=>h,fun _ _ h=>.inl h,ag,ai.view hu,by rw [ah];exact ai,by rw [ah];exact aq⟩
    ·obtain ⟨cells,len,z,rfl⟩:∃ cells len z,u=.av cells len (.uniq z):=by
      unfold I.cW at hu;split at hu
      ·exact ⟨_,_,_,rfl⟩
      ·simp at hu
     obtain ⟨a4,aJ,aN,cb,aS,bj,eK⟩:=kh ag ai aq;exact ⟨a4,aJ,aN,ag.settle aJ (fun b o h=>(aN b o h).imp id fun h=>⟨_,h,b7 0,cj 0⟩) cb,aS,bj,eK⟩
   (obtain ⟨a4,aJ,aN,bW,dD,Du,pX⟩:=first);have xb:a5 (fun i=>bA (i+1)) aa J a4 w T hX:=by
    refine ⟨ax.len,fun i bH bo hu ad=>(ax.rel i bH bo hu ad).mono (Ext.refl J) fun b o ah=>⟨aJ b o ah,rfl⟩,fun i bH bo hu ad=>?_⟩;refine (ax.own i bH bo hu ad).mono (Ext.refl J) (fun b o ah=>⟨aJ b o ah,rfl⟩) fun b af=>⟨af,rfl,fun o ah=>?_⟩;rcases aN b o ah with h | h
    ·exact h
    ·rw [af] at h;injection h with h;exact absurd (aw _ _ h) (by omega)
   obtain ⟨S',dE,dt,b9,dY,dg⟩:=a8 hX (fun i=>bA (i+1)) a4 (fun i j h=>by have:=aw _ _ h;omega) (fun i=>b7 (i+1)) (fun i=>cj (i+1)) xb bW;have cp:∀ b o,a4 b o→S' b o∧w.cell? ⟨b,o,none⟩=w.cell? ⟨b,o,none⟩:=fun b o ah=>⟨dE b o ah,rfl⟩;refine ⟨S',fun b o h=>dE b o (aJ b o h),fun b o h=>?_,b9,?_,?_⟩
   ·rcases dt b o h with h | ⟨i,h⟩
    ·exact (aN b o h).imp id fun h=>⟨0,h⟩
    ·exact .inr ⟨i+1,h⟩
   ·refine a5.cons (Du.mono (Ext.refl J) cp) (pX.mono (Ext.refl J) cp fun b af=>⟨af,rfl,fun o h=>?_⟩) dY;rcases dt b o h with h | ⟨i,h⟩
    ·exact h
    ·rw [af] at h;injection h with h;exact absurd (aw _ _ h) (by omega)
   ·exact a5.cons (dD.mono (Ext.refl J) cp) (aU.b4 (I.dm _)) dg
theorem yL (ag:aK B aa J S w H) (o:Obj):bl aa S w aa S (w.alloc o) :=
 ⟨rfl,rfl,rfl,by simp,fun b af _=>heap_alloc_old w o b af,fun b cz ah=>⟨ah,by obtain ⟨v,ad⟩:=ag.cd b cz ah;exact o6 o (mR ad)⟩,fun _ _ ah=>.inl ah,fun _ af=>.inl af⟩
theorem Dx (ag:aK B aa J S w H) (o:Obj):aK B aa J S (w.alloc o) H:=by
 have az:=yL ag o;refine ag.frame az (fun b l af _=>⟨af,heap_alloc_old w o b (ag.base b l af).2,fun _ h=>h⟩) (fun b cz ah=>?_) fun b l af=>?_
 ·obtain ⟨v,ad⟩:=ag.cd b cz ah;exact ⟨v,((az.set b cz ah).2).trans ad⟩
 ·have:=ag.base b l af;exact ⟨this.1,by simp;omega⟩
theorem zO (ag:aK B aa J S w H) {id b:Nat} {L:Loop} (fj:aa b=some (.obj id)) (fq:w.heap[b]?=some (.loop L)) (iH:Loop) :
  bl aa S w aa S (w.putObj b (.loop iH))∧aK B aa J S (w.putObj b (.loop iH)) (H.set id .dead)∧(w.putObj b (.loop iH)).heap[b]?=some (.loop iH):=by
 have af:b<w.heap.size:=(sJ.1 fq).1;have bR:(w.putObj b (.loop iH)).heap.size=w.heap.size:=by simp [World.putObj]
 have ie:∀ au,au≠b→(w.putObj b (.loop iH)).heap[au]?=w.heap[au]?:=fun au h=>World.putObj_heap_other h;have bJ:∀ au o,S au o→au≠b:=fun au o ah e=>by
  subst e;obtain ⟨v,ad⟩:=ag.cd au o ah;simp [World.cell?,fq] at ad
 have bz:∀ au o,au≠b→(w.putObj b (.loop iH)).cell? ⟨au,o,none⟩=w.cell? ⟨au,o,none⟩:=fun au o h=>by
  simp only [World.cell?,ie au h]
 have az:bl aa S w aa S (w.putObj b (.loop iH)):=by
  refine ⟨rfl,rfl,rfl,by omega,fun au bw aI=>ie au (fun e=>by subst e;rw [fj] at aI;cases aI),fun au o ah=>⟨ah,bz au o (bJ au o ah)⟩,fun _ _ h=>.inl h,fun _ h=>.inl h⟩
 refine ⟨az,⟨by simpa using ag.cK,fun bC o aq=>?_,fun au o ah=>?_,fun au l bw=>?_,by rw [bR];exact ag.c0⟩,World.putObj_heap_same af⟩
 ·by_cases cx:bC=id
  ·subst cx;(have aR:bC<H.length:=by have:=(sa.1 aq).1;simpa using this);rw [sk aR] at aq;cases aq;trivial
  ·rw [sd (Ne.symm cx)] at aq;refine (ag.obj bC o aq).frame (Ext.refl J) az.set fun au l bw ao=>⟨bw,ie au (fun e=>?_),fun _ h=>h⟩;subst e;rw [fj] at bw;cases bw;rcases ao with h | ⟨j,h⟩
   ·cases h;exact cx rfl
   ·cases h
 ·obtain ⟨v,ad⟩:=ag.cd au o ah;exact ⟨v,(bz au o (bJ au o ah)).trans ad⟩
 ·rw [bR];exact ag.base au l bw
theorem D5 (ag:aK B aa J S w H) {id b:Nat} {L:Loop} {st:LoopState} {cL:Option Code} {fn:FuncId} {T:List I} {bq:List Nat} {as ct:Code} {an:dx}
  (aE:H[id]?=some (.loop st cL fn T bq as ct an)) (af:J[id]?=some b) (fq:w.heap[b]?=some (.loop L)) (hA:LoopState) (hy:Option Code) :
  bl aa S w aa S (w.putObj b (.loop { L with state:=hA,pending:=hy }))∧aK B aa J S (w.putObj b (.loop { L with state:=hA,pending:=hy })) (H.set id (.loop hA hy fn T bq as ct an)) ∧
   (w.putObj b (.loop { L with state:=hA,pending:=hy })).heap[b]?=some (.loop { L with state:=hA,pending:=hy }):=by
 obtain ⟨lF,lG,au,oX,aA,aG,aT,br,bg,bd,dd,dy,dS⟩:=ag.obj id _ aE;rw [af] at aA;cases aA;rw [fq] at aT;cases aT;obtain ⟨az,b9,jR⟩:=zO ag aG fq { L with state:=hA,pending:=hy };refine ⟨az,⟨by simpa using b9.cK,fun bC o aq=>?_,b9.cd,b9.base,b9.c0⟩,jR⟩;by_cases cx:bC=id
 ·subst cx;rw [sk (sa.1 aE).1] at aq;cases aq;exact ⟨lF,lG,b,_,af,aG,jR,rfl,rfl,trivial,dd,fun i u v hu ad=>⟨(dy i u v hu ad).1,(dy i u v hu ad).2.mono (Ext.refl J) az.set⟩,dS⟩
 ·refine b9.obj bC o ?_;rw [sd (Ne.symm cx)] at aq ⊢;exact aq
end
end Go.Proofs.Ytkoioidpbbbaiaa.Ab


namespace Go.Proofs.Ytkoioidpbbbaiaa.Ab
open Go
section
variable {P:Program} {B N:Nat} {J:List Nat} {w:World} {H:List ar} {aa:Nat→Option aH} {S:Nat→Nat→Prop}
theorem Gs {bA:Nat→aH} {us:List I} {xs:List Value} (ao:us.length=xs.length) (h:∀ (j:Nat) (u:I) (v:Value),us[j]?=some u→xs[j]?=some v→Rel J S w u v∧u.plain=true):a5 bA aa J S w us xs :=
 ⟨ao,fun j u v hu ad=>(h j u v hu ad).1,fun j u v hu ad=>aU.b4 (h j u v hu ad).2⟩
def xo (F:Fence) (P:Program) (Q:Exit→Act→World→Prop) (cL:Option Code) (aM:Act) (w':World):Prop:=match cL with
 | none=>Q .normal aM w'
 | some c=>c.wpIn F 0 P Q aM w'
theorem Al {F:Fence} (bG:ek F) {C:b8} (bn:c6 P C) {T:List I} {a:Act} (aL:cA B N aa J S w ⟨T,H⟩ a) (mC:a5 .slot aa J S w (T.map I.view) a.tmps.toList)
  {lo k:Nat} {first cap:List I} {vs ws:Array Value} (aP:Rel J S w (.func k first cap) (.func (.func k) vs ws))
  {as ct:Code} {an:dx} {fn fn':FuncId} {bq:Array Tmp} (a7:codeOk an as=true) (a9:codeOk an ct=true) {r:I} {H':List ar}
  (h:C (.fn k) (first++[.yield H.length]++cap) (H++[.loop .ready none fn (T.map I.view) bq.toList as ct an]) lo=some (r,H'))
  {st:LoopState} {cL:Option Code} {gf:FuncId} {en:List I} {dO:List Nat} {gI gJ:Code} {gG:dx} (ao:H'[H.length]?=some (.loop st cL gf en dO gI gJ gG)) (cJ:st≠.busy)
  {bI:World} (nE:bl (dr aa) S w (dr aa) S bI) (bW:aK B (dr aa) J S bI H) {mark:List Deferred} {dfr:Nat} (hm:Marks N (dr aa) bI mark) (zb:∀ d∈mark,∀ r,d.target=.collected r→aa r=none∧w.heap.size≤r) {Q:Exit→Act→World→Prop}
  (bp:∀ aM w',Step B N aa J S w ⟨T,H'.set H.length .dead⟩ aM w'→xo F P Q cL aM w') :
  CallsIn F 0 P k (vs++#[Value.func (.yield bI.heap.size) #[] #[]]++ws) (bI.alloc (.loop { state:=.ready,pending:=none,fn:=fn',tmps:=a.tmps,params:=bq,assign:=as,body:=ct,defers:=dfr }))
   (rangePost F 0 P bI.heap.size Q { a with defers:=mark++a.defers }):=by
 generalize fq:({ state:=.ready,pending:=none,fn:=fn',tmps:=a.tmps,params:=bq,assign:=as,body:=ct,defers:=dfr }:Loop)=L;have yM:=kA bW (.loop L) (.obj H.length);have Dv:=nV bW (.loop L) (.obj H.length);have mG:Ext J (J++[bI.heap.size]):=Ext.append J _;have po:∀ b o,S b o→S b o∧(bI.alloc (.loop L)).cell? ⟨b,o,none⟩=w.cell? ⟨b,o,none⟩:=(nE.trans yM).set;have CA:=Dv.push bI.heap.size (o:=.loop .ready none fn (T.map I.view) bq.toList as ct an)
  ⟨a7,a9,bI.heap.size,L,Ext.last bW _,by simp [lay],World.alloc_heap_new bI _,by rw [←fq],by rw [←fq],trivial,by rw [←fq];simpa using mC.len.symm,
   fun i u v hu ad=>by
    rw [←fq] at ad;refine ⟨?_,((mC.rel i u v hu (by simpa using ad)).mono mG po)⟩;simp only [sm,r_] at hu;obtain ⟨x,_,rfl⟩:=hu
    exact I.dm x,by rw [←fq],by rw [←fq],by rw [←fq]⟩
 have ft:nn (lay (dr aa) bI.heap.size (.obj H.length)):=fun b i af=>by
  unfold lay at af;split at af
  ·simp at af
  ·exact C7 b i af
 have CI:a5 (fun i=>.arg i) (lay (dr aa) bI.heap.size (.obj H.length)) (J++[bI.heap.size]) S (bI.alloc (.loop L)) (first++[.yield H.length]++cap) (vs.toList++[Value.func (.yield bI.heap.size) #[] #[]]++ws.toList):=by
  cases aP with
  | func _ _ _ _ _ aJ aN bU b1 aS bj =>
    refine Gs (by simp [aJ,aN]) fun j u v hu ad=>?_;rcases sL j first.length with ab | ab
    ·rw [sx,sg ab] at hu;rw [sx,sg (by simp;omega)] at ad;exact ⟨(aS j u v hu (by simpa using ad)).mono mG po,bU u (sv hu)⟩
    ·rw [sx,ss ab] at hu;rw [sx,ss (by simp;omega)] at ad;(have bR:vs.toList.length=first.length:=by simp [aJ]);rw [bR] at ad;rcases sL (j-first.length) 1 with ae | ae
     ·(have aQ:j-first.length=0:=by omega);rw [aQ] at hu ad;simp at hu ad;subst hu ad;exact ⟨.yield _ _ (Ext.last bW _),rfl⟩
     ·rw [ss (by simpa using ae)] at hu ad;exact ⟨(bj _ u v hu (by simpa using ad)).mono mG po,b1 u (sv hu)⟩
 have dW:=(bn.ok h).2 B _ _ S _ _ CA ft CI;have hL:(vs.toList++[Value.func (.yield bI.heap.size) #[] #[]]++ws.toList).toArray=vs++#[Value.func (.yield bI.heap.size) #[] #[]]++ws:=by
  apply Array.ext';simp
 rw [hL] at dW;refine bG.calls (CallsIn.mono dW fun e bX he=>?_);cases e with
 | panicked c=>exact he.elim
 | outgrown=>exact he.elim
 | returned x =>
   obtain ⟨bu,ck,bL,xj,ep,ch,_,_⟩:=he;obtain ⟨_,_,au,jx,aA,aG,aT,br,bg,_⟩:=ch.obj _ _ ao;have dI:ck[H.length]?=some bI.heap.size:=xj _ _ (Ext.last bW _);rw [dI] at aA;cases aA;obtain ⟨Cl,Cz,_⟩:=zO ch aG aT { jx with state:=.exhausted };have l6:bl (dr aa) S bI bu bL (bX.putObj bI.heap.size (.loop { jx with state:=.exhausted })):=(yM.trans ep).trans Cl;obtain ⟨q1,aW⟩:=z_ none aL (mG.trans xj) (nE.trans l6) Cz (.a0 undef) (aU.b4 rfl);refine ⟨jx.pending,_,run_endLoop aT (by rw [br];exact cJ),?_⟩;rw [←bg] at bp;refine bp _ _ ⟨_,ck,bL,mG.trans xj,q1,⟨aW.T,aW.H,aW.M.1,fun d a1=>?_,List.pairwise_append.2 ⟨hm.2.2,aW.M.2.2,fun d a1 g' jP e=>?_⟩⟩⟩
   rotate_left
   ·obtain ⟨hT,da,_⟩:=hm.2.1 d a1;obtain ⟨aS,b7,_,_,Eu⟩:=aL.M.2.1 g' jP;have:=(zb d a1 hT da).2;have:=(sJ.1 Eu).1;rw [da,b7] at e;cases e;omega
   rcases List.mem_append.1 a1 with a1 | a1
   ·obtain ⟨hT,da,db,j5,k6⟩:=hm.2.1 d a1;have dD:hT<bI.heap.size:=(sJ.1 k6).1;refine ⟨hT,da,db,?_,(l6.cE hT dD j5).trans k6⟩;have aQ:=(zb d a1 hT da).1;have ae:bu hT=none:=by
     cases bP:bu hT with
     | none=>rfl
     | some l =>
       rcases l6.own hT (by simp [bP]) with bQ | bQ
       ·exact absurd j5 bQ
       ·omega
    simp [back,aQ,ae]
   ·exact aW.M.2.1 d a1
end
end Go.Proofs.Ytkoioidpbbbaiaa.Ab


namespace Go.Proofs.Ytkoioidpbbbaiaa.Ab
open Go
def toExit:cQ→Exit
 | .normal=>.normal
 | .ret=>.ret
 | .exit id=>.exit id
def jw (F:Fence) (rl:Option Nat) (J:List Nat):Prop:=(rl=none∧F=Fence.wide)∨∃ l b,rl=some l∧J[l]?=some b∧F=Fence.wide.inRound b
theorem jw.kC {F:Fence} {rl:Option Nat} {J:List Nat} (h:jw F rl J):ek F:=by
 rcases h with ⟨_,rfl⟩ | ⟨l,b,_,_,rfl⟩
 ·exact .inl rfl
 ·exact .inr ⟨b,rfl⟩
theorem jw.ext {F:Fence} {rl:Option Nat} {J bV:List Nat} (h:jw F rl J) (bN:Ext J bV):jw F rl bV:=by
 rcases h with h | ⟨l,b,ab,ae,aF⟩
 ·exact .inl h
 ·exact .inr ⟨l,b,ab,bN _ _ ae,aF⟩
theorem kB {p:Nat→Prop} (h:∃ n,p n):∃ n,p n∧∀ m,p m→n≤m:=by
 obtain ⟨n,aI⟩:=h
 induction n using Nat.strongRecOn with
 | _ n a8 =>
   by_cases ao:∃ m,m<n∧p m
   ·obtain ⟨m,hm,aB⟩:=ao;exact a8 m hm aB
   ·exact ⟨n,aI,fun m hm=>Nat.le_of_not_lt fun aR=>ao ⟨m,aR,hm⟩⟩
section
variable {P:Program}
theorem D4 {F:Fence} {c:Code} {f:a6→Option (cQ×a6)} {e:cQ} {aD:a6} {Q:Exit→Act→World→Prop} {B N:Nat} {J:List Nat} {w:World} {aa:Nat→Option aH} {S:Nat→Nat→Prop} {s:a6} {a:Act} {n:Nat}
  (h:iq f n s=some (e,aD)) (aL:cA B N aa J S w s a) (bp:∀ aM w',Step B N aa J S w aD aM w'→Q (toExit e) aM w')
  (kH:∀ (s1:a6) (e1:cQ) (s2:a6),f s1=some (e1,s2)→∀ (cM:Exit→Act→World→Prop) (aA:Act) (bI:World),(∀ l a w,cM (.goto l) a w→Q (.goto l) a w)→Step B N aa J S w s1 aA bI →
   (∀ aM w',Step B N aa J S w s2 aM w'→cM (toExit e1) aM w')→c.wpIn F 0 P cM aA bI):(Code.loop c).wpIn F 0 P Q a w:=by
 classical
 let Inv:Nat→Act→World→Prop:=fun n aM w'=>∃ s1,iq f n s1=some (e,aD)∧Step B N aa J S w s1 aM w'
 let gz:Act→World→Nat:=fun aM w'=>if h:∃ n,Inv n aM w' then Classical.choose (kB h) else 0
 have mH:∀ aM w',(∃ n,Inv n aM w')→Inv (gz aM w') aM w'∧∀ m,Inv m aM w'→gz aM w'≤m:=fun aM w' h=>by
  have:gz aM w'=Classical.choose (kB h):=by simp only [gz,dif_pos h]
  rw [this];exact uA (kB h)
 refine wpIn_loop (fun aM w'=>∃ n,Inv n aM w') gz ⟨n,s,h,Step.here aL⟩ fun aA bI kF=>?_;obtain ⟨⟨s1,ab,gP⟩,_⟩:=mH aA bI kF;cases aI:gz aA bI with
 | zero=>rw [aI] at ab;simp [iq] at ab
 | succ m =>
   rw [aI] at ab;simp only [iq] at ab;split at ab
   ·rename_i s2 pC;refine kH s1 .normal s2 pC _ aA bI (fun l a w h=>h) gP fun aM w' dN=>?_;have hinv:Inv m aM w':=⟨s2,ab,dN⟩;exact ⟨⟨m,hinv⟩,Nat.lt_succ_of_le ((mH aM w' ⟨m,hinv⟩).2 m hinv)⟩
   ·rename_i ft;refine kH s1 e aD ab _ aA bI (fun l a w h=>h) gP fun aM w' dN=>?_;cases e with
    | normal=>exact absurd ab (ft aD)
    | ret=>exact bp aM w' dN
    | exit id=>exact bp aM w' dN
theorem nG {C:b8} (bn:c6 P C) (eG:P.follows .mixedOrders=true) {A:dx} {fn:FuncId} {lo d:Nat} {rl:Option Nat} :
  ∀ (c:Code) (a2:Nat) (s:a6) (e:cQ) (aD:a6),exec P A C fn lo d rl c a2 s=some (e,aD)→codeOk A c=true →
    ∀ (F:Fence) (Q:Exit→Act→World→Prop) (B N:Nat) (J:List Nat) (w:World) (aa:Nat→Option aH) (S:Nat→Nat→Prop) (a:Act),jw F rl J→(∀ l a w,¬ Q (.goto l) a w) →
      cA B N aa J S w s a→(∀ aM w',Step B N aa J S w aD aM w'→Q (toExit e) aM w')→c.wpIn F 0 P Q a w:=by
 intro c
 induction c with
 | skip =>
   intro a2 s e aD h _ F Q B N J w aa S a bG aO aL bp;simp only [exec,Option.some.injEq,Prod.mk.injEq] at h;obtain ⟨rfl,rfl⟩:=h;exact wpIn_skip (bp a w (Step.here aL))
 | label l =>
   intro a2 s e aD h _ F Q B N J w aa S a bG aO aL bp;simp only [exec,Option.some.injEq,Prod.mk.injEq] at h;obtain ⟨rfl,rfl⟩:=h;exact wpIn_label (bp a w (Step.here aL))
 | ret =>
   intro a2 s e aD h _ F Q B N J w aa S a bG aO aL bp;simp only [exec,Option.some.injEq,Prod.mk.injEq] at h;obtain ⟨rfl,rfl⟩:=h;exact wpIn_ret (bp a w (Step.here aL))
 | exit id =>
   intro a2 s e aD h _ F Q B N J w aa S a bG aO aL bp;simp only [exec,Option.some.injEq,Prod.mk.injEq] at h;obtain ⟨rfl,rfl⟩:=h;exact wpIn_exit (bp a w (Step.here aL))
 | goto l=>intro a2 s e aD h;simp [exec] at h
 | refuse y=>intro a2 s e aD h;simp [exec] at h
 | region id ops draw =>
   intro a2 s e aD h bT F Q B N J w aa S a bG aO aL bp;simp only [exec] at h;split at h
   ·cases h
   rename_i kW;simp only [r_,Prod.mk.injEq] at h;obtain ⟨s1,h,rfl,rfl⟩:=h;refine xP bG.kC eG bn (fun a1=>?_) h (aL.cE _ _) bp;simp only [codeOk,xO,kW] at bT;simpa [a1] using bT
 | seq x y n2 xn =>
   intro a2 s e aD h bT F Q B N J w aa S a bG aO aL bp;simp only [codeOk,sn] at bT;simp only [exec] at h;split at h
   ·rename_i s1 ab;refine wpIn_seq (n2 _ _ _ _ ab bT.1 F _ B N J w aa S a bG (fun l a w=>aO l a w) aL fun aM w' ah=>?_);obtain ⟨b5,cZ,a4,aJ,aN,cg⟩:=ah;exact xn _ _ _ _ h bT.2 F Q B N cZ w' b5 a4 aM (bG.ext aJ) aO cg fun g7 hB dN=>bp g7 hB (dN.trans aJ aN)
   ·rename_i ft;refine wpIn_seq (n2 _ _ _ _ h bT.1 F _ B N J w aa S a bG (fun l a w=>aO l a w) aL fun aM w' ah=>?_);cases e with
    | normal=>exact absurd h (ft aD)
    | ret=>exact bp aM w' ah
    | exit id=>exact bp aM w' ah
 | cond x t f n1 n0 =>
   intro a2 s e aD h bT F Q B N J w aa S a bG aO aL bp;simp only [codeOk,sn] at bT;simp only [exec] at h;have ai:=aL.az x;split at h
   ·rename_i af;rw [af] at ai;exact wpIn_cond_true ai.h6 (n1 _ _ _ _ h bT.1 F Q B N J w aa S a bG aO aL bp)
   ·rename_i af;rw [af] at ai;exact wpIn_cond_false ai.h6 (n0 _ _ _ _ h bT.2 F Q B N J w aa S a bG aO aL bp)
   ·simp at h
 | block id c a8 =>
   intro a2 s e aD h bT F Q B N J w aa S a bG aO aL bp;simp only [exec] at h;refine wpIn_block ?_;split at h
   ·rename_i bC s1 ab;refine a8 _ _ _ _ ab bT F _ B N J w aa S a bG (fun l a w=>aO l a w) aL fun aM w' ah=>?_;by_cases aE:bC=id
    ·simp only [aE,if_true,Option.some.injEq,Prod.mk.injEq] at h;obtain ⟨rfl,rfl⟩:=h;simp only [toExit,Exit.inBlock,aE,if_true];exact bp aM w' ah
    ·simp only [aE,if_false,Option.some.injEq,Prod.mk.injEq] at h;obtain ⟨rfl,rfl⟩:=h;simp only [toExit,Exit.inBlock,aE,if_false];exact bp aM w' ah
   ·rename_i ft;refine a8 _ _ _ _ h bT F _ B N J w aa S a bG (fun l a w=>aO l a w) aL fun aM w' ah=>?_;cases e with
    | normal=>exact bp aM w' ah
    | ret=>exact bp aM w' ah
    | exit bC=>exact absurd h (ft bC aD)
 | scope c a8 =>
   intro a2 s e aD h bT F Q B N J w aa S a bG aO aL bp;simp only [exec] at h;exact BC (a8 _ _ _ _ h bT F Q B N J w aa S a bG aO aL bp) aO
 | loop c a8 =>
   intro a2 s e aD h bT F Q B N J w aa S a bG aO aL bp;simp only [exec] at h;refine D4 h aL bp fun s1 e1 s2 ab cM aA bI Ds gP pk=>?_;obtain ⟨b5,cZ,a4,aJ,aN,cg⟩:=gP;exact a8 _ _ _ _ ab bT F cM B N cZ bI b5 a4 aA (bG.ext aJ) (fun l a w a'=>aO l a w (Ds l a w a')) (cg.cE _ _) fun aM w' dN=>pk aM w' (dN.trans aJ aN)
 | rangeFunc g bq as ct fk fw =>
   intro a2 s e aD h bT F Q B N J w aa S a bG aO aL bp;simp only [codeOk,sn] at bT;simp only [exec] at h;split at h
   ·(rename_i k first cap hg mn);have zo:=aL.az g;rw [mn] at zo;split at h
    ·rename_i r H' ak;split at h
     ·rename_i st cL gf en dO gI gJ gG ao;split at h
      ·simp at h
      ·rename_i cJ;have pk:∀ aM w',Step B N aa J S w ⟨s.T.map I.settle,H'.set s.H.length .dead⟩ aM w'→xo F P Q cL aM w':=fun aM w' ah=>by
        split at h
        ·simp only [Option.some.injEq,Prod.mk.injEq] at h;obtain ⟨rfl,rfl⟩:=h;exact bp aM w' ah
        ·simp only [Option.some.injEq,Prod.mk.injEq] at h;obtain ⟨rfl,rfl⟩:=h;exact wpIn_ret (bp aM w' ah)
        ·simp only [Option.some.injEq,Prod.mk.injEq] at h;obtain ⟨rfl,rfl⟩:=h;exact wpIn_exit (bp aM w' ah)
        ·simp at h
       obtain ⟨a4,dE,dt,bW,kG,pq⟩:=A' s.T a.tmps.toList .slot S (fun i j h=>by cases h;rfl) (fun i id=>by simp) (fun i id j=>by simp) aL.T aL.H;have dC:bl aa S w aa a4 w:=bl.settle dE fun b o h=>(dt b o h).imp id fun ⟨i,h⟩=>⟨_,h⟩;have cg:cA B N aa J a4 w ⟨s.T.map I.settle,s.H⟩ a:=⟨kG,bW,aL.M.az dC⟩;have kX:(s.T.map I.settle).map I.view=s.T.map I.view:=by
        rw [List.map_map];apply List.map_congr_left;intro u _;exact yj u
       (have mC:a5 .slot aa J a4 w ((s.T.map I.settle).map I.view) a.tmps.toList:=by rw [kX];exact pq);rw [←kX] at ak;have y2:∀ aM w',Step B N aa J a4 w ⟨s.T.map I.settle,H'.set s.H.length .dead⟩ aM w'→xo F P Q cL aM w':=fun aM w' ah=>pk aM w' (Step.trans (Ext.refl J) dC ah);have dD:=zo.mono (Ext.refl J) (S':=a4) (w':=w) (fun b o h=>⟨dE b o h,rfl⟩);obtain ⟨⟨f0,CV,iS,Dj⟩,_⟩:=bn.ok ak;have y3:aa w.heap.size=none:=by
        cases aj:aa w.heap.size with
        | none=>rfl
        | some l=>have:=(aL.H.base _ l aj).2;omega
       generalize C4:a.eval g=GL at dD;cases dD with
       | func _ _ _ vs ws aJ aN bU b1 aS bj =>
         refine wpIn_rangeFunc fun fn' _=>?_;have kU:∀ (l:Nat) (w0:World),(resolve a.eval (rangeCall g l) 0).run P w0=.ok { target:=.fn (.func k) ws,args:=vs++#[Value.func (.yield l) #[] #[]] } w0:=fun l w0=>by
          have:(#[Operand.const (Value.func (.yield l) #[] #[])]:Array Operand).map a.eval=#[Value.func (.yield l) #[] #[]]:=by simp [Act.eval]
          simp only [resolve,rangeCall,C4,Deferred.ofValue,this,Sem.run_pure]
         have hinv:∀ (l:Nat) (w0:World),(invoke (.fn (.func k) ws) (vs++#[Value.func (.yield l) #[] #[]])).run P w0=.ok (.enter k (vs++#[Value.func (.yield l) #[] #[]]++ws)) w0:=fun l w0=>by
          simp only [invoke,AX CV iS Dj]
         (have pG:Rel J a4 w (.func k first cap) (.func (.func k) vs ws):=.func k first cap vs ws aJ aN bU b1 aS bj);(have y5:F.depth.isSome=true→1≤0:=fun iT=>by rw [bG.kC.depth] at iT;cases iT);rcases bG with ⟨rfl,rfl⟩ | ⟨cy,de,rfl,af,rfl⟩
         ·have ch:=mB cg.H;have dW:=Al (.inl rfl) bn cg mC pG bT.1 bT.2 ak ao cJ (yL ch (.deferred (some []))) (Dx ch (.deferred (some []))) (fn':=fn') (dfr:=w.heap.size)
           (mark:=[{ target:=.collected w.heap.size,args:=#[] }]) ⟨by have:=aL.M.1;simp;omega,fun d a1=>by
            simp only [sS] at a1;subst a1;exact ⟨w.heap.size,rfl,aL.M.1,nN y3,World.alloc_heap_new w _⟩,List.pairwise_singleton _ _⟩ (fun d a1 hT nU=>by
            simp only [sS] at a1;subst a1
            cases nU;exact ⟨y3,sc _⟩) y2
          (have bR:(w.alloc (.deferred (some []))).heap.size=w.heap.size+1:=by simp);rw [bR] at dW;exact ⟨_,_,_,_,_,k,_,_,run_enterLoop_outer fn' a.tmps bq as ct,kU _ _,fun _ _=>trivial,hinv _ _,y5,dW⟩
         ·have ch:=mB cg.H;simp only [inLoop] at hg;split at hg
          ·rename_i bD;obtain ⟨_,_,au,oX,aA,aG,aT,_⟩:=aL.H.obj cy _ bD;rw [af] at aA;cases aA;have dW:=Al (.inr ⟨de,rfl⟩) bn cg mC pG bT.1 bT.2 ak ao cJ (bl.refl _ _ _) ch (fn':=fn') (dfr:=oX.defers)
            (mark:=[]) ⟨aL.M.1,fun d a1=>by simp at a1,List.Pairwise.nil⟩ (fun d a1=>by simp at a1) y2
           exact ⟨_,_,_,_,_,k,_,_,run_enterLoop_inner aT fn' a.tmps bq as ct,kU _ _,fun _ _=>trivial,hinv _ _,y5,dW⟩
          ·simp at hg
     ·simp at h
    ·simp at h
   ·simp at h
end
end Go.Proofs.Ytkoioidpbbbaiaa.Ab


namespace Go.Proofs.Ytkoioidpbbbaiaa.Ab
open Go
def hY (aa:Nat→Option aH):Nat→Option aH:=fun b=>match aa b with
 | some (.arg i)=>some (.slot i)
 | some (.obj id)=>some (.obj id)
 | some (.cell id j)=>some (.cell id j)
 | _=>none
def lj (t:Nat) (aa:Nat→Option aH):Nat→Option aH:=fun b=>match aa b with
 | some (.slot i)=>if i=t then some .res else none
 | some (.obj id)=>some (.obj id)
 | some (.cell id j)=>some (.cell id j)
 | _=>none
section
variable {P:Program} {B N:Nat} {J:List Nat} {w:World} {H:List ar} {aa:Nat→Option aH} {S:Nat→Nat→Prop}
theorem relabel {ay:Nat→Option aH} (ag:aK B aa J S w H) (ab:∀ b,aa b=none→ay b=none) (ae:∀ b l,aa b=some l→((∃ id,l=.obj id)∨∃ id j,l=.cell id j)→ay b=some l) :
  bl aa S w ay S w∧aK B ay J S w H:=by
 have aI:∀ b,ay b≠none→aa b≠none:=fun b h aQ=>h (ab b aQ);refine ⟨⟨rfl,rfl,rfl,sc _,fun _ _ _=>rfl,fun _ _ h=>⟨h,rfl⟩,fun _ _ h=>.inl h,fun b h=>.inl (aI b h)⟩,⟨ag.cK,fun id o aq=>?_,ag.cd,fun b l af=>?_,ag.c0⟩⟩
 ·refine (ag.obj id o aq).frame (Ext.refl J) (fun _ _ h=>⟨h,rfl⟩) fun b l af ao=>⟨ae b l af ?_,rfl,fun _ h=>h⟩;rcases ao with rfl | ⟨j,rfl⟩
  ·exact .inl ⟨id,rfl⟩
  ·exact .inr ⟨id,j,rfl⟩
 ·cases h:aa b with
  | none=>rw [ab b h] at af;cases af
  | some l'=>exact ag.base b l' h
theorem oQ (ag:aK B aa J S w H):bl aa S w (hY aa) S w∧aK B (hY aa) J S w H :=
 relabel ag (fun b h=>by simp [hY,h]) fun b l h ao=>by
  rcases ao with ⟨id,rfl⟩ | ⟨id,j,rfl⟩ <;> simp [hY,h]
theorem EE (t:Nat) (ag:aK B aa J S w H):bl aa S w (lj t aa) S w∧aK B (lj t aa) J S w H :=
 relabel ag (fun b h=>by simp [lj,h]) fun b l h ao=>by
  rcases ao with ⟨id,rfl⟩ | ⟨id,j,rfl⟩ <;> simp [lj,h]
theorem ye (ag:aK B aa J S w H) {args:List I} {vs:List Value} (ad:a5 (fun i=>.arg i) aa J S w args vs) (n:Nat) :
  cA B w.heap.size (hY aa) J S w ⟨args++List.replicate (n-args.length) .a0,H⟩ { tmps:=vs.toArray++Array.replicate (n-vs.toArray.size) undef,defers:=[] }:=by
 have ao:=ad.len;refine ⟨?_,(oQ ag).2,sc _,fun d a1=>by simp at a1,List.Pairwise.nil⟩;have xe:(vs.toArray++Array.replicate (n-vs.toArray.size) undef).toList=vs++List.replicate (n-vs.length) undef:=by simp
 simp only [xe];have key:∀ (i:Nat) (u:I) (v:Value),(args++List.replicate (n-args.length) .a0)[i]?=some u→(vs++List.replicate (n-vs.length) undef)[i]?=some v →
   Rel J S w u v∧aU (hY aa) J S w (.slot i) u v:=fun i u v hu aj=>by
  rcases sL i args.length with ab | ab
  ·rw [sg ab] at hu;rw [sg (by omega)] at aj;exact ⟨ad.rel i u v hu aj,(ad.own i u v hu aj).mono (Ext.refl J) (fun _ _ h=>⟨h,rfl⟩) fun b af=>⟨by simp [hY,af],rfl,fun _ h=>h⟩⟩
  ·rw [ss ab] at hu;rw [List.getElem?_replicate] at hu;split at hu
   ·cases hu;exact ⟨.a0 v,aU.b4 rfl⟩
   ·simp at hu
 exact ⟨by simp [ao],fun i u v hu aj=>(key i u v hu aj).1,fun i u v hu aj=>(key i u v hu aj).2⟩
theorem n6 {fn:Func} {tmps:Array Value} {R:Ending→World→Prop} {lI:Nat→Option aH} {S0:Nat→Nat→Prop} {w0:World} :
  ∀ (fG:List Deferred) (w:World),(∀ d∈fG,∃ r,d.target=.collected r∧w0.heap.size≤r∧aa r=none∧w.heap[r]?=some (.deferred (some [])))→fG.Pairwise (fun a b=>a.target≠b.target)→bl lI S0 w0 aa S w→aK B aa J S w H →
    (∀ w',(∀ b l,aa b=some l→w'.heap[b]?=w.heap[b]?)→(∀ b o,S b o→w'.cell? ⟨b,o,none⟩=w.cell? ⟨b,o,none⟩)→bl lI S0 w0 aa S w'→aK B aa J S w' H→∃ v,(results fn tmps).run P w'=.ok v w'∧R (.returned v) w')→LeavesInM Fence.wide 0 P fn tmps R fG .returning w
 | [],w,_,_,az,ag,jK=>jK w (fun _ _ _=>rfl) (fun _ _ _=>rfl) az ag
 | d::fG,w,a1,aB,az,ag,jK=>by
   obtain ⟨r,ab,ae,aF,a_⟩:=a1 d (by simp);have ai:r<w.heap.size:=(sJ.1 a_).1;(have bR:(w.putObj r (.deferred none)).heap.size=w.heap.size:=by simp [World.putObj]);have ie:∀ b,b≠r→(w.putObj r (.deferred none)).heap[b]?=w.heap[b]?:=fun b h=>World.putObj_heap_other h;have bJ:∀ b o,S b o→b≠r:=fun b o ah e=>by
    subst e;obtain ⟨v,ad⟩:=ag.cd b o ah;simp [World.cell?,a_] at ad
   have bz:∀ b o,b≠r→(w.putObj r (.deferred none)).cell? ⟨b,o,none⟩=w.cell? ⟨b,o,none⟩:=fun b o h=>by
    simp only [World.cell?,ie b h]
   (have kL:∀ b l,aa b=some l→b≠r:=fun b l h e=>by subst e;rw [aF] at h;cases h);have dC:bl lI S0 w0 aa S (w.putObj r (.deferred none)):=by
    refine ⟨az.os,az.tape,az.output,by rw [bR];exact az.size,fun b af aI=>?_,fun b o ah=>?_,az.fresh,az.own⟩
    ·rw [ie b (by omega)];exact az.cE b af aI
    ·obtain ⟨aJ,aN⟩:=az.set b o ah;exact ⟨aJ,(bz b o (bJ b o aJ)).trans aN⟩
   have cp:∀ b o,S b o→S b o∧(w.putObj r (.deferred none)).cell? ⟨b,o,none⟩=w.cell? ⟨b,o,none⟩:=fun b o ah=>⟨ah,bz b o (bJ b o ah)⟩;have gL:aK B aa J S (w.putObj r (.deferred none)) H :=
    ⟨ag.cK,fun id o aq=>(ag.obj id o aq).frame (Ext.refl J) cp fun b l af _=>⟨af,ie b (kL b l af),fun _ h=>h⟩,fun b o ah=>by
     obtain ⟨v,ad⟩:=ag.cd b o ah
     exact ⟨v,(bz b o (bJ b o ah)).trans ad⟩,fun b l af=>by rw [bR];exact ag.base b l af,by rw [bR];exact ag.c0⟩
   refine ⟨by simp,.inl ⟨r,_,ab,run_takeDeferred a_,?_⟩⟩;have zk:=tB.1 aB;refine n6 fG _ (fun g' jP=>?_) zk.2 dC gL (fun w' dj aJ aN cb=>jK w' (fun b l h=>(dj b l h).trans (ie b (kL b l h))) (fun b o h=>(aJ b o h).trans (bz b o (bJ b o h))) aN cb)
   ·obtain ⟨r',q1,aW,cF,dG⟩:=a1 g' (by simp [jP])
    have:r'≠r:=fun e=>zk.1 g' jP (by rw [ab,q1,e])
    exact ⟨r',q1,aW,cF,(ie r' this).trans dG⟩
end
end Go.Proofs.Ytkoioidpbbbaiaa.Ab


namespace Go.Proofs.Ytkoioidpbbbaiaa.Ab
open Go
section
variable {P:Program} {B N:Nat} {J:List Nat} {w:World} {H:List ar} {aa:Nat→Option aH} {S:Nat→Nat→Prop}
theorem pg {bA:Nat→aH} {T:List I} {bc:Array Value} (b0:a5 bA aa J S w T bc.toList) (t:Nat):Rel J S w (df T t) (bc.getD t undef)∧aU aa J S w (bA t) (df T t) (bc.getD t undef):=by
 rw [gg,sw];cases h:T[t]? with
 | none=>exact ⟨.a0 _,aU.b4 rfl⟩
 | some u =>
   have ao:=b0.len;have aR:t<T.length:=(sa.1 h).1;(have mw:t<bc.size:=by rw [←sY,←ao];exact aR);(have aj:bc.toList[t]?=some (bc.getD t undef):=by simp [su,mw]);exact ⟨b0.rel t u _ h aj,b0.own t u _ h aj⟩
theorem m7 (ag:aK B aa J S w H) {T:List I} {bc:Array Value} (b0:a5 .slot aa J S w T bc.toList) {g:ResultVar→Sem Value} (cf:∀ t,g (.tmp t)=pure (bc.getD t undef))
  (ca:∀ a t,g (.cell a t)=do loadVar t (←asAddr (bc.getD a undef))):∀ (rs:List ResultVar) (vs:List I),gX P H T rs=some vs →
  ∃ xs,(rs.mapM g).run P w=.ok xs w∧vs.length=xs.length∧∀ (j:Nat) (u:I) (x:Value),vs[j]?=some u→xs[j]?=some x→Rel J S w u x∧((u.plain=true∧True)∨∃ t,(u=df T t∧x=bc.getD t undef)∧aU aa J S w (.slot t) u x)
 | [],vs,h=>by
   simp only [gX,Option.some.injEq] at h;subst h;exact ⟨[],by simp,rfl,by simp⟩
 | .tmp t::r,vs,h=>by
   simp only [gX,r_] at h;obtain ⟨cY,h,rfl⟩:=h;obtain ⟨xs,q1,aW,cF⟩:=m7 ag b0 cf ca r cY h;obtain ⟨aS,bj⟩:=pg b0 t;refine ⟨bc.getD t undef::xs,by rw [vo];simp [cf,q1],by simp [aW],fun j u x hu aj=>?_⟩;cases j with
   | zero=>simp only [tG,Option.some.injEq] at hu aj;subst hu aj;exact ⟨aS,.inr ⟨t,⟨rfl,rfl⟩,bj⟩⟩
   | succ j=>exact cF j u x (by simpa using hu) (by simpa using aj)
 | .cell a t::r,vs,h=>by
   simp only [gX] at h;split at h
   ·rename_i v cY ad fv;simp only [Option.some.injEq] at h;subst h;obtain ⟨xs,q1,aW,cF⟩:=m7 ag b0 cf ca r cY fv;have ai:=(pg b0 a).1;obtain ⟨x,aJ,aN,cb⟩:=jk ag ad ai;have aB:∃ lQ,bc.getD a undef=.pointer (some lQ):=by
     unfold dz at ad;generalize bc.getD a undef=He at ai ⊢;split at ad
     ·rename_i heq;rw [heq] at ai;cases ai;exact ⟨_,rfl⟩
     ·rename_i heq;rw [heq] at ai;cases ai;exact ⟨_,rfl⟩
     ·simp at ad
    obtain ⟨lQ,aB⟩:=aB;rw [aB] at aJ;(have DR:(loadVar t lQ).run P w=.ok x w:=by simpa [Instr.loadAt,Instr.sureAddr] using aJ);refine ⟨x::xs,by rw [vo];simp [ca,aB,asAddr,DR,q1],by simp [aW],fun j u y hu aj=>?_⟩;cases j with
    | zero=>simp only [tG,Option.some.injEq] at hu aj;subst hu aj;exact ⟨aN,.inl ⟨cb,trivial⟩⟩
    | succ j=>exact cF j u y (by simpa using hu) (by simpa using aj)
   ·simp at h
theorem xT (ag:aK B aa J S w H) {T:List I} {bc:Array Value} (b0:a5 .slot aa J S w T bc.toList) {fn:Func} {vs:List I} (h:gX P H T fn.results.toList=some vs) :
  ∃ v,(results fn bc).run P w=.ok v w∧aZ B aa J S w H (jg vs) v w:=by
 have run:∀ xs,(fn.results.toList.mapM (fun (x:ResultVar)=>match x with | .tmp t=>(pure (bc.getD t undef):Sem Value) | .cell a t=>do loadVar t (←asAddr (bc.getD a undef)))).run P w=.ok xs w →
   (results fn bc).run P w=.ok (if h:xs.toArray.size=1 then xs.toArray[0] else .tuple xs.toArray) w:=fun xs aj=>by
  have aO:results fn bc=(do
    let vs ←fn.results.mapM (fun (x:ResultVar)=>match x with | .tmp t=>(pure (bc.getD t undef):Sem Value) | .cell a t=>do loadVar t (←asAddr (bc.getD a undef)))
    pure (if h:vs.size=1 then vs[0] else .tuple vs)):=by
   unfold results;congr 1
  rw [aO,Array.mapM_eq_mapM_toList];simp only [Sem.run_bind,Sem.run_map,aj,Result.andThen_ok,Sem.run_pure]
 match vs,h with
 | [u],h =>
   obtain ⟨xs,q1,aW,cF⟩:=m7 ag b0 (g:=fun x=>match x with | .tmp t=>pure (bc.getD t undef) | .cell a t=>do loadVar t (←asAddr (bc.getD a undef))) (fun _=>rfl) (fun _ _=>rfl) _ _ h
   match xs,aW with
   | [x],_ =>
     obtain ⟨aS,bj⟩:=cF 0 u x rfl rfl;refine ⟨x,by rw [run _ q1];rfl,?_⟩;rcases bj with ⟨aB,_⟩ | ⟨t,_,aq⟩
     ·exact aZ.same ag aS aB
     ·obtain ⟨az,b9⟩:=EE t ag;exact ⟨lj t aa,J,S,Ext.refl J,az,b9,aS,aq.mono (Ext.refl J) (fun _ _ h=>⟨h,rfl⟩) fun b af=>⟨by simp [lj,af],rfl,fun _ h=>h⟩⟩
 | [],h =>
   obtain ⟨xs,q1,aW,cF⟩:=m7 ag b0 (g:=fun x=>match x with | .tmp t=>pure (bc.getD t undef) | .cell a t=>do loadVar t (←asAddr (bc.getD a undef))) (fun _=>rfl) (fun _ _=>rfl) _ _ h
   match xs,aW with
   | [],_=>exact ⟨.tuple #[],by rw [run _ q1];rfl,aZ.same ag (.tuple [] #[] rfl (by simp) (by simp)) rfl⟩
 | fA::gv::us,h =>
   obtain ⟨a4,dE,dt,bW,kG,pq⟩:=A' T bc.toList .slot S (fun i j h=>by cases h;rfl) (fun i id=>by simp) (fun i id j=>by simp) b0 ag;have dC:bl aa S w aa a4 w:=bl.settle dE fun b o h=>(dt b o h).imp id fun ⟨i,h⟩=>⟨_,h⟩;obtain ⟨xs,q1,aW,cF⟩:=m7 ag b0 (g:=fun x=>match x with | .tmp t=>pure (bc.getD t undef) | .cell a t=>do loadVar t (←asAddr (bc.getD a undef))) (fun _=>rfl) (fun _ _=>rfl) _ _ h
   refine ⟨.tuple xs.toArray,by
    rw [run _ q1]
    have:¬ xs.toArray.size=1:=by simp at aW ⊢;omega
    rw [dif_neg this],aZ.after (Ext.refl J) dC (aZ.same bW (.tuple _ _ (by simp at aW ⊢;omega) ?_ ?_) rfl)⟩
   ·intro y aY;obtain ⟨x,_,rfl⟩:=sC.1 aY;exact I.dm x
   ·intro j y x aY aj;simp only [sm,r_] at aY;obtain ⟨u,hu,rfl⟩:=aY;obtain ⟨aS,bj⟩:=cF j u x hu (by simpa using aj);rcases bj with ⟨aB,_⟩ | ⟨t,⟨rfl,rfl⟩,_⟩
    ·rw [I.kq aB];exact aS.mono (Ext.refl J) fun b o h=>⟨dE b o h,rfl⟩
    ·have:=(pg pq t).1;have ad:df (T.map I.view) t=(df T t).view:=by
      rw [gg,gg,sw,sw,sm];cases T[t]? <;> rfl
     rw [ad] at this;exact this
end
end Go.Proofs.Ytkoioidpbbbaiaa.Ab


namespace Go.Proofs.Ytkoioidpbbbaiaa.Ab
open Go
def jr (bq:List Nat) (aa:Nat→Option aH):Nat→Option aH:=fun b=>match aa b with
 | some (.arg i)=>(bq[i]?).map .slot
 | some (.obj id)=>some (.obj id)
 | some (.cell id j)=>some (.cell id j)
 | _=>none
section
variable {P:Program} {B N:Nat} {J:List Nat} {w:World} {H:List ar} {aa:Nat→Option aH} {S:Nat→Nat→Prop}
theorem Gi (bq:List Nat) (ag:aK B aa J S w H):bl aa S w (jr bq aa) S w∧aK B (jr bq aa) J S w H :=
 relabel ag (fun b h=>by simp [jr,h]) fun b l h ao=>by
  rcases ao with ⟨id,rfl⟩ | ⟨id,j,rfl⟩ <;> simp [jr,h]
theorem A_:∀ (bq:List Nat) (us:List I) (T bf:List I) (xs bc:List Value),iC bq us T=some bf→us.length=xs.length→T.length=bc.length →
  bq.length=us.length∧bf.length=T.length∧((bq.zip xs).foldl (fun (l:List Value) (p:Nat×Value)=>l.set p.1 p.2) bc).length=bc.length ∧
  ∀ (i:Nat) (u:I) (x:Value),bf[i]?=some u→((bq.zip xs).foldl (fun (l:List Value) (p:Nat×Value)=>l.set p.1 p.2) bc)[i]?=some x →
    (T[i]?=some u∧bc[i]?=some x)∨∃ (j:Nat),bq[j]?=some i∧us[j]?=some u∧xs[j]?=some x
 | [],[],T,bf,xs,bc,h,ao,ax=>by
   simp only [iC,Option.some.injEq] at h;subst h;exact ⟨rfl,rfl,by simp,fun i u x hu aj=>.inl ⟨hu,by simpa using aj⟩⟩
 | p::bq,yi::us,T,bf,ju::xs,bc,h,ao,ax=>by
   simp only [iC,g3] at h;obtain ⟨ab,ae,aF,a_⟩:=A_ bq us (T.set p yi) bf xs (bc.set p ju) h (by simpa using ao) (by simpa using ax);refine ⟨by simp [ab],by simpa using ae,by simpa using aF,fun i u x hu aj=>?_⟩;rcases a_ i u x hu (by simpa using aj) with ⟨aJ,aN⟩ | ⟨j,aJ,aN,cb⟩
   ·by_cases zj:p=i
    ·subst zj;(have l1:p<T.length:=by have:=(sa.1 aJ).1;simpa using this);(have l2:p<bc.length:=by omega);rw [sk l1] at aJ;rw [sk l2] at aN;exact .inr ⟨0,rfl,by simpa using aJ,by simpa using aN⟩
    ·rw [sd zj] at aJ aN;exact .inl ⟨aJ,aN⟩
   ·exact .inr ⟨j+1,by simpa using aJ,by simpa using aN,by simpa using cb⟩
 | [],_::_,T,bf,xs,bc,h,ao,ax=>by simp [iC] at h
 | _::_,[],T,bf,xs,bc,h,ao,ax=>by simp [iC] at h
 | _::_,_::_,T,bf,[],bc,h,ao,ax=>by simp at ao
theorem Fb (L:Loop) (vs:List Value):(jh L vs).toList=(L.params.toList.zip vs).foldl (fun (l:List Value) (p:Nat×Value)=>l.set p.1 p.2) L.tmps.toList:=by
 unfold jh;rw [←Array.foldl_toList,Array.toList_zip];generalize L.params.toList.zip vs=gx;generalize L.tmps=bc
 induction gx generalizing bc with
 | nil=>rfl
 | cons z gx a8=>simp only [uK];rw [a8];simp
theorem cA.loop {s:a6} {a:Act} (aL:cA B N aa J S w s a) {id b:Nat} {L:Loop} {st:LoopState} {cL:Option Code} {fn:FuncId} {T:List I} {bq:List Nat} {as ct:Code} {an:dx}
  (aE:s.H[id]?=some (.loop st cL fn T bq as ct an)) (af:J[id]?=some b) (fq:w.heap[b]?=some (.loop L)) (hA:LoopState) (hy:Option Code) :
  bl aa S w aa S (w.putObj b (.loop { L with state:=hA,pending:=hy }))∧cA B N aa J S (w.putObj b (.loop { L with state:=hA,pending:=hy })) ⟨s.T,s.H.set id (.loop hA hy fn T bq as ct an)⟩ a:=by
 obtain ⟨az,ag,_⟩:=D5 aL.H aE af fq hA hy;obtain ⟨_,_,au,oX,aA,aG,_⟩:=aL.H.obj id _ aE;rw [af] at aA;cases aA;refine ⟨az,⟨⟨aL.T.len,fun i u v hu ad=>(aL.T.rel i u v hu ad).mono (Ext.refl J) az.set,fun i u v hu ad=>?_⟩,ag,aL.M.az az⟩⟩;refine (aL.T.own i u v hu ad).mono (Ext.refl J) az.set fun au bw=>⟨bw,World.putObj_heap_other (fun e=>?_),fun _ h=>h⟩;subst e;rw [aG] at bw;cases bw
theorem Ca (eG:P.follows .mixedOrders=true) {C:b8} (bn:c6 P C) {k:Nat} {f:Func} {c:Code} (aP:P.funcs[k]?=some f) (af:f.body=some c) {A:dx} (bT:codeOk A c=true)
  {lo d:Nat} {args:List I} {e:cQ} {s:a6} (h:exec P A C k lo d none c 0 ⟨args++List.replicate (f.ntmps-args.length) .a0,H⟩=some (e,s)) (he:e=.normal∨e=.ret) {vs:List I}
  (ai:gX P s.H s.T f.results.toList=some vs) {xs:List Value} (ag:aK B aa J S w H) (ad:a5 (fun i=>.arg i) aa J S w args xs) :
  CallsIn Fence.wide 0 P k xs.toArray w (fZ B aa J S w s.H (jg vs)):=by
 refine callsIn_of_wp_marks aP af trivial ?_;have aL:=ye ag ad f.ntmps;have dC:=(oQ ag).1;refine nG bn eG c 0 _ _ _ h bT Fence.wide _ B w.heap.size J w (hY aa) S _ (.inl ⟨rfl,rfl⟩) (fun l a w aO=>aO.elim) aL fun aM w' ah=>?_;obtain ⟨b5,cZ,a4,aJ,aN,cg⟩:=ah;have iV:LeavesInM Fence.wide 0 P f aM.tmps (fZ B aa J S w s.H (jg vs)) aM.defers .returning w':=by
  refine n6 (aa:=b5) (S:=a4) (J:=cZ) (B:=B) (H:=s.H) (lI:=aa) (S0:=S) (w0:=w) aM.defers w' cg.M.2.1 cg.M.2.2 (dC.trans aN) cg.H fun bX dE dt mK mL=>?_
  have b0:a5 .slot b5 cZ a4 bX s.T aM.tmps.toList:=⟨cg.T.len,fun i u v hu ad=>(cg.T.rel i u v hu ad).mono (Ext.refl _) (fun b o h=>⟨h,dt b o h⟩),fun i u v hu ad =>
   (cg.T.own i u v hu ad).mono (Ext.refl _) (fun b o h=>⟨h,dt b o h⟩) fun b af=>⟨af,dE b _ af,fun _ h=>h⟩⟩
  obtain ⟨v,q1,aW⟩:=xT mL b0 ai;exact ⟨v,q1,aZ.after aJ mK aW⟩
 rcases he with rfl | rfl
 ·exact iV
 ·exact iV
end
end Go.Proofs.Ytkoioidpbbbaiaa.Ab


namespace Go.Proofs.Ytkoioidpbbbaiaa.Ab
open Go
section
variable {P:Program} {B N:Nat} {J:List Nat} {w:World} {H:List ar} {aa:Nat→Option aH} {S:Nat→Nat→Prop}
def lv (l:Nat) (H:List ar) (fn:FuncId) (T:List I) (bq:List Nat) (as ct:Code) (an:dx):cQ→I×List ar
 | .normal=>(.bool true,H.set l (.loop .ready none fn T bq as ct an))
 | .ret=>(.bool false,H.set l (.loop .done (some .ret) fn T bq as ct an))
 | .exit id=>(.bool false,H.set l (.loop .done (some (.exit id)) fn T bq as ct an))
theorem Cb (eG:P.follows .mixedOrders=true) {C:b8} (bn:c6 P C) {l lo d:Nat} {fn fn':FuncId} {kb cL:Option Code} {T bf en dH:List I} {bq dO fV:List Nat} {as ct gI gJ fE fF:Code} {an gG fD:dx} {gf fI:FuncId} {args:List I}
  (ao:H[l]?=some (.loop .ready kb fn T bq as ct an)) (eH:iC bq args T=some bf) {s1 s2:a6} {e:cQ} {kc:Option Code}
  (ab:exec P an C fn lo d (some l) as 0 ⟨bf,H⟩=some (.normal,s1)) (jV:s1.H[l]?=some (.loop .ready cL gf en dO gI gJ gG))
  (ae:exec P an C fn' lo d (some l) ct 0 ⟨s1.T,s1.H.set l (.loop .busy cL gf en dO gI gJ gG)⟩=some (e,s2)) (eF:s2.H[l]?=some (.loop .busy kc fI dH fV fE fF fD))
  {xs:List Value} {b:Nat} (ag:aK B aa J S w H) (ad:a5 (fun i=>.arg i) aa J S w args xs) (af:J[l]?=some b) :
  ∃ L,w.heap[b]?=some (.loop L)∧xs.length=L.params.size ∧
    RoundIn Fence.wide 0 P b L.fn (jh L xs) L.assign L.body w (fZ B aa J S w (lv l s2.H fI dH fV fE fF fD e).2 (lv l s2.H fI dH fV fE fF fD e).1):=by
 obtain ⟨a7,a9,au,L,aA,aG,aT,br,bg,bd,dd,dy,dS,gF,BM⟩:=ag.obj l _ ao;rw [af] at aA;cases aA;have cJ:=A_ bq args T bf xs L.tmps.toList eH ad.len (by simpa using dd.symm);obtain ⟨cf,ca,eS,iP⟩:=cJ;refine ⟨L,aT,by rw [←ad.len,←cf,←dS];simp,?_⟩;refine roundIn_of_wpIn trivial ?_;have xe:(jh L xs).toList=(bq.zip xs).foldl (fun (l:List Value) (p:Nat×Value)=>l.set p.1 p.2) L.tmps.toList:=by rw [Fb,dS]
 obtain ⟨dC,gL⟩:=Gi bq ag;have aL:cA B w.heap.size (jr bq aa) J S w ⟨bf,H⟩ { tmps:=jh L xs,defers:=[] }:=by
  refine ⟨?_,gL,sc _,fun d a1=>by simp at a1,List.Pairwise.nil⟩;simp only [xe];have key:∀ (i:Nat) (u:I) (x:Value),bf[i]?=some u→((bq.zip xs).foldl (fun (l:List Value) (p:Nat×Value)=>l.set p.1 p.2) L.tmps.toList)[i]?=some x →
    Rel J S w u x∧aU (jr bq aa) J S w (.slot i) u x:=fun i u x hu aj=>by
   rcases iP i u x hu aj with ⟨aJ,aN⟩ | ⟨j,aJ,aN,cb⟩
   ·obtain ⟨bU,b1⟩:=dy i u x aJ (by simpa using aN);exact ⟨b1,aU.b4 bU⟩
   ·exact ⟨ad.rel j u x aN cb,(ad.own j u x aN cb).mono (Ext.refl J) (fun _ _ h=>⟨h,rfl⟩) fun b af=>⟨by simp [jr,af,aJ],rfl,fun _ h=>h⟩⟩
  exact ⟨by rw [ca,eS,←dd];simp,fun i u x hu aj=>(key i u x hu aj).1,fun i u x hu aj=>(key i u x hu aj).2⟩
 rw [gF,BM];refine nG bn eG as 0 _ _ _ ab a7 _ _ B w.heap.size J w (jr bq aa) S _ (.inr ⟨l,b,rfl,af,rfl⟩) (fun l a w aO=>aO) aL fun aA bI ah=>?_;obtain ⟨b5,cZ,a4,aJ,aN,cg⟩:=ah;have gM:cZ[l]?=some b:=aJ _ _ af;obtain ⟨_,_,au,oY,d1,d2,d3,d4,d5,_⟩:=cg.H.obj l _ jV;rw [gM] at d1;cases d1;obtain ⟨ep,Cx⟩:=cg.loop jV gM d3 .busy cL;have CL:(Instr.beginRound b).run P bI=.ok () (bI.putObj b (.loop { oY with state:=.busy,pending:=cL })):=by
  rw [run_beginRound d3 d4]
  have:({ oY with state:=.busy,pending:=cL }:Loop)={ oY with state:=.busy }:=by rw [←d5]
  rw [this]
 refine ⟨_,CL,?_⟩;refine wpIn_mono (Q:=fun cV aM w'=>(∀ t,cV≠Exit.goto t)∧roundPost P b (fZ B aa J S w (lv l s2.H fI dH fV fE fF fD e).2 (lv l s2.H fI dH fV fE fF fD e).1) cV aM w') ?_ (fun e a w h=>h.2);refine nG bn eG ct 0 _ _ _ ae a9 _ _ B w.heap.size cZ _ b5 a4 _ (.inr ⟨l,b,rfl,gM,rfl⟩) (fun l a w aO=>aO.1 l rfl) Cx fun aG bX ah=>?_;obtain ⟨bu,ck,bL,cb,hq,yZ⟩:=ah;have gN:ck[l]?=some b:=cb _ _ gM;obtain ⟨_,_,au,jx,f1,f2,f3,f4,f5,_⟩:=yZ.H.obj l _ eF;rw [gN] at f1;cases f1;have l6:bl aa S w bu bL bX:=((dC.trans aN).trans ep).trans hq;have fin:∀ (st:LoopState) (jump:Option Code),aZ B aa J S w (s2.H.set l (.loop st jump fI dH fV fE fF fD)) (.bool jump.isNone) (.bool jump.isNone) (bX.putObj b (.loop { jx with state:=st,pending:=jump })):=fun st jump=>by
  obtain ⟨Cm,Cy⟩:=yZ.loop eF gN f3 st jump;exact ⟨bu,ck,bL,aJ.trans cb,l6.trans Cm,Cy.H,.bool _,aU.b4 rfl⟩
 refine ⟨fun t ax=>(by cases e <;> cases ax),?_⟩;cases e with
 | normal=>exact ⟨_,_,run_endRound none f3,fin .ready none⟩
 | ret=>exact ⟨_,_,run_endRound (some .ret) f3,fin .done (some .ret)⟩
 | exit id=>exact ⟨_,_,run_endRound (some (.exit id)) f3,fin .done (some (.exit id))⟩
theorem Cc (eG:P.follows .mixedOrders=true) (A:FuncId→dx) {gu:b8} (ax:c6 P gu)
  (bT : ∀ k f c, (A k).bad = false → P.funcs[k]? = some f → f.body = some c → codeOk (A k) c = true ∧ f.name ≠ "runtime.NumGoroutine") : ∀ d, c6 P (ga P A gu d)
 | 0=>⟨fun h=>by simp [ga] at h,fun h=>by simp [ga] at h⟩
 | d+1=>by
   have bn:=Cc eG A ax bT d;have yV:∀ {k:FuncId} {args:List I} {H:List ar} {lo:Nat} {r:I} {H':List ar},ga P A gu (d+1) (.fn k) args H lo=some (r,H')→gu (.fn k) args H lo=some (r,H') ∨
     ∃ f c e s vs,(A k).bad=false∧P.funcs[k]?=some f∧f.body=some c∧exec P (A k) (ga P A gu d) k lo d none c 0 ⟨args++List.replicate (f.ntmps-args.length) .a0,H⟩=some (e,s)∧(e=.normal∨e=.ret) ∧
       gX P s.H s.T f.results.toList=some vs∧r=jg vs∧H'=s.H:=fun {k args H lo r H'} h=>by
    simp only [ga] at h;split at h
    ·rename_i x aj;cases h;exact .inl aj
    ·right;split at h
     ·simp at h
     rename_i nH;split at h
     ·rename_i f aP;split at h
      ·rename_i c af;split at h
       ·rename_i s ah;simp only [r_,Prod.mk.injEq] at h;obtain ⟨vs,ai,rfl,rfl⟩:=h;exact ⟨f,c,_,s,vs,nH,aP,af,ah,.inl rfl,ai,rfl,rfl⟩
       ·rename_i s ah;simp only [r_,Prod.mk.injEq] at h;obtain ⟨vs,ai,rfl,rfl⟩:=h;exact ⟨f,c,_,s,vs,nH,aP,af,ah,.inr rfl,ai,rfl,rfl⟩
       ·simp at h
      ·simp at h
     ·simp at h
   have BH:∀ {l:Nat} {args:List I} {H:List ar} {lo:Nat} {r:I} {H':List ar},ga P A gu (d+1) (.yield l) args H lo=some (r,H') →
     ∃ kb fn T bq as ct an bf s1 cL gf en dO gI gJ gG e s2 kc fI dH fV fE fF fD,lo≤l∧H[l]?=some (.loop .ready kb fn T bq as ct an)∧iC bq args T=some bf ∧
       exec P an (ga P A gu d) fn lo d (some l) as 0 ⟨bf,H⟩=some (.normal,s1)∧s1.H[l]?=some (.loop .ready cL gf en dO gI gJ gG) ∧
       exec P an (ga P A gu d) gf lo d (some l) ct 0 ⟨s1.T,s1.H.set l (.loop .busy cL gf en dO gI gJ gG)⟩=some (e,s2)∧s2.H[l]?=some (.loop .busy kc fI dH fV fE fF fD) ∧
       (r,H')=lv l s2.H fI dH fV fE fF fD e:=fun {l args H lo r H'} h=>by
    simp only [ga] at h;split at h
    ·simp at h
    ·rename_i bD;split at h
     ·rename_i kb fn T bq as ct an ao;split at h
      ·rename_i bf eH;split at h
       ·rename_i s1 ab;split at h
        ·rename_i cL gf en dO gI gJ gG jV;split at h
         ·rename_i e s2 ae;split at h
          ·rename_i kc fI dH fV fE fF fD eF;refine ⟨kb,fn,T,bq,as,ct,an,bf,s1,cL,gf,en,dO,gI,gJ,gG,e,s2,kc,fI,dH,fV,fE,fF,fD,by omega,ao,eH,ab,jV,ae,eF,?_⟩;cases e <;> simp only [Option.some.injEq] at h <;> exact h.symm
          ·simp at h
         ·simp at h
        ·simp at h
       ·simp at h
      ·simp at h
     ·simp at h
   refine ⟨fun {bY args H lo r H'} h=>?_,fun {bY args H lo r H'} h=>?_⟩
   ·cases bY with
    | fn k =>
      rcases yV h with h | ⟨f,c,e,s,vs,_,_,_,aF,_,_,_,rfl⟩
      ·exact ax.low h
      ·exact pc bn c 0 _ e s aF
    | yield l =>
      obtain ⟨kb,fn,T,bq,as,ct,an,bf,s1,cL,gf,en,dO,gI,gJ,gG,e,s2,kc,fI,dH,fV,fE,fF,fD,bD,ao,eH,ab,jV,ae,eF,ai⟩:=BH h;have da:=pc bn as 0 _ _ s1 ab;have db:=pc bn ct 0 _ e s2 ae;(have j5:ba lo s2.H (lv l s2.H fI dH fV fE fF fD e).2:=by cases e <;> exact ba.set _ _ bD);rw [←ai] at j5;exact (da.trans ((ba.set s1.H _ bD).trans db)).trans j5
   ·cases bY with
    | fn k =>
      rcases yV h with h | ⟨f,c,e,s,vs,nH,aP,af,aF,he,ai,rfl,rfl⟩
      ·exact ax.ok h
      obtain ⟨bx,bK⟩:=bT k f c nH aP af;exact ⟨⟨f,aP,by simp [af],bK⟩,fun B aa J S w xs ag _ ad=>Ca eG bn aP af bx aF he ai ag ad⟩
    | yield l =>
      obtain ⟨kb,fn,T,bq,as,ct,an,bf,s1,cL,gf,en,dO,gI,gJ,gG,e,s2,kc,fI,dH,fV,fE,fF,fD,bD,ao,eH,ab,jV,ae,eF,ai⟩:=BH h;intro B aa J S w xs b ag _ ad af;have:=Cb eG bn ao eH ab jV ae eF ag ad af;rw [←ai] at this;exact this
end
end Go.Proofs.Ytkoioidpbbbaiaa.Ab


namespace Go.Proofs.Ytkoioidpbbbaiaa.Ab
open Go
def Sem (P:Program) (bY:fc) (args:List I) (H:List ar) (lo:Nat) (r:I) (H':List ar):Prop:=ba lo H H'∧jA P bY args H H' r
def np (P:Program) (k:FuncId) (args:List I) (v:I):Prop:=Sem P (.fn k) args [] 0 v []∧cr 8 v=true
abbrev c7:=List (FuncId×List I×I)
def h2 (P:Program) (acc:c7):Prop:=(∀ p∈acc,np P p.1 p.2.1 p.2.2)∧∀ p∈acc,∀ q∈acc,p.1=q.1→p.2.1=q.2.1→p.2.2=q.2.2
def iG (C:b8) (acc:c7):Prop:=∀ p∈acc,∃ r H2,C (.fn p.1) p.2.1 [] 0=some (r,H2)∧bM H2 0 H2.length 0 8 r=some p.2.2
section
variable {P:Program}
theorem o8 {C:b8} (h:∀ bY args H lo r H',C bY args H lo=some (r,H')→Sem P bY args H lo r H'):c6 P C :=
 ⟨fun ak=>(h _ _ _ _ _ _ ak).1,fun ak=>(h _ _ _ _ _ _ ak).2⟩
theorem c6.Hb {C:b8} (bn:c6 P C) {bY:fc} {args:List I} {H:List ar} {lo:Nat} {r:I} {H':List ar} (h:C bY args H lo=some (r,H')):Sem P bY args H lo r H':=⟨bn.low h,bn.ok h⟩
theorem lY:c6 P (fun _ _ _ _=>none):=o8 fun _ _ _ _ _ _ h=>by cases h
noncomputable def k_ (bY:fc) (args:List I) (H:List ar) (lo:Nat) (r:I) (H':List ar):b8:=fun t a h l =>
 open Classical in if t=bY∧a=args∧h=H∧l=lo then some (r,H') else none
theorem EB (bY:fc) (args:List I) (H:List ar) (lo:Nat) (r:I) (H':List ar):k_ bY args H lo r H' bY args H lo=some (r,H'):=by simp [k_]
theorem EC {bY:fc} {args:List I} {H:List ar} {lo:Nat} {r:I} {H':List ar} (h:Sem P bY args H lo r H'):c6 P (k_ bY args H lo r H') :=
 o8 fun t a aX l r' H2 ak=>by
  unfold k_ at ak;split at ak
  ·rename_i he;obtain ⟨rfl,rfl,rfl,rfl⟩:=he;cases ak;exact h
  ·cases ak
theorem zW {f:I→Option I}:∀ {l:List I},(∀ u∈l,f u=some u)→ea f l=some l
 | [],_=>rfl
 | u::l,h=>by
   simp only [ea,h u (by simp),zW (l:=l) fun v ad=>h v (by simp [ad]),se]
theorem yY {H:List ar} {lo id0 n:Nat}:∀ {d:Nat} {v:I},cr d v=true→bM H lo id0 n d v=some v
 | 0,v,h=>by simp [cr] at h
 | d+1,v,h=>by
   have key:∀ {l:List I},l.all (cr d)=true→ea (bM H lo id0 n d) l=some l:=fun h=>zW fun u hu=>yY (by rw [sq] at h;exact h u hu);cases v <;> simp only [cr,tR] at h <;> try rfl
   case av cells len c=>simp only [bM,key h,se]
   case bS cells=>simp only [bM,key h,se]
   case agg cs=>simp only [bM,key h,se]
   case tuple cs=>simp only [bM,key h,se]
   case func f a b =>
    simp only [sn] at h;simp only [bM,key h.1,key h.2]
theorem nu {acc:c7} (h:h2 P acc):∃ C,c6 P C∧iG C acc:=by
 classical
 obtain ⟨ab,ae⟩:=h;have key:∀ x:fc×List I×List ar×Nat,∃ o:Option (I×List ar),(∀ r H',o=some (r,H')→Sem P x.1 x.2.1 x.2.2.1 x.2.2.2 r H') ∧
   ∀ p∈acc,x=(.fn p.1,p.2.1,[],0)→∃ r H2,o=some (r,H2)∧bM H2 0 H2.length 0 8 r=some p.2.2:=fun x=>by
  by_cases aj:∃ p∈acc,x=(.fn p.1,p.2.1,[],0)
  ·obtain ⟨p,aB,rfl⟩:=aj;obtain ⟨q1,aW⟩:=ab p aB;refine ⟨some (p.2.2,[]),fun r' H' e=>by cases e;exact q1,fun q a' e=>?_⟩;simp only [Prod.mk.injEq,fc.fn.injEq] at e;exact ⟨p.2.2,[],rfl,by rw [yY aW,ae p aB q a' e.1 e.2.1]⟩
  ·exact ⟨none,(fun r H' e=>nomatch e),fun p aB e=>absurd ⟨p,aB,e⟩ aj⟩
 let C:b8:=fun t a H l=>Classical.choose (key (t,a,H,l))
 have bn:∀ t a H l,_:=fun t a H l=>uA (key (t,a,H,l));exact ⟨C,o8 fun t a H l r H' ak=>(bn t a H l).1 r H' ak,fun p aB=>(bn _ _ _ _).2 p aB rfl⟩
def yq (o:Oper) (s:a6) (K:a6→Prop):Prop :=
 ∃ it r m since seen es clock,o.op=.next it false∧o.guard=none∧Ab.az s.T it=.ptr r 0∧s.H[r]?=some (.iter m since seen clock)∧s.H[m]?=some (.map es clock)∧since≤clock∧(∀ e∈es,e.1<since) ∧
   ((∀ e∈es,e.1∈seen)→K ⟨put s.T o.dst (.tuple [.bool false]),s.H⟩) ∧
   ∀ e∈es,e.1 ∉ seen→K ⟨put s.T o.dst (.tuple [.bool true,e.2.1,e.2.2]),s.H.set r (.iter m since (seen++[e.1]) clock)⟩
section
variable {B N:Nat} {J:List Nat} {w:World} {H:List ar} {aa:Nat→Option aH} {S:Nat→Nat→Prop}
theorem DQ (ag:aK B aa J S w H) {id m since since' kj stepped':Nat} {seen seen':List Nat} (aE:H[id]?=some (.iter m since seen kj)) {b ec:Nat}
  (aA:J[id]?=some b) (aG:aa b=some (.obj id)) (aT:J[m]?=some ec) (bg:∀ o,¬ S b o) :
  bl aa S w aa S (w.putObj b (.mapIter (some ec) since' seen'.toArray stepped'))∧aK B aa J S (w.putObj b (.mapIter (some ec) since' seen'.toArray stepped')) (H.set id (.iter m since' seen' stepped')):=by
 have hJ:∀ au o,S au o→au≠b:=fun au o ah e=>bg o (e ▸ ah);have af:=(ag.base b _ aG).2;have az:bl aa S w aa S (w.putObj b (.mapIter (some ec) since' seen'.toArray stepped')) :=
  ⟨rfl,rfl,rfl,by simp,fun au _ aI=>World.putObj_heap_other (fun e=>by subst e;rw [aG] at aI;cases aI),fun au o ah=>⟨ah,om (hJ au o ah)⟩,fun au o ah=>.inl ah,fun au h=>.inl h⟩
 refine ⟨az,by simpa using ag.cK,fun bC o aq=>?_,fun au o ah=>?_,fun au l h=>by simpa using ag.base au l h,by simpa using ag.c0⟩
 ·by_cases hf:bC=id
  ·subst hf;rw [sk (sa.1 aE).1] at aq;cases aq;exact ⟨b,ec,aA,aG,aT,World.putObj_heap_same af,bg⟩
  ·rw [sd (fun e=>hf e.symm)] at aq;refine (ag.obj bC o aq).frame (Ext.refl J) az.set fun au cy bw jU=>?_;have bJ:au≠b:=fun e=>by
    subst e;rw [aG] at bw;cases bw;rcases jU with h | ⟨j,h⟩
    ·cases h;exact hf rfl
    ·cases h
   exact ⟨bw,World.putObj_heap_other bJ,fun o ah=>ah⟩
 ·obtain ⟨v,ad⟩:=ag.cd au o ah;exact ⟨v,(om (hJ au o ah)).trans ad⟩
theorem Ew {F:Fence} (bG:ek F) {o:Oper} {s:a6} {K':a6→Prop} (h:yq o s K') {a:Act} (aL:cA B N aa J S w s a)
  {K:Act→World→Prop} {Q:Exit→Act→World→Prop} (fJ:∀ aD,K' aD→∀ aM w',Step B N aa J S w aD aM w'→K aM w'):o.wpIn F 0 P a w K Q:=by
 obtain ⟨it,r,m,since,seen,es,clock,aC,aO,C_,ai,hm,w9,hold,dj,aJ⟩:=h;have jW:∀ c,o.op≠.defer c:=fun c ak=>by rw [aC] at ak;cases ak
 refine ⟨fun f _=>bG.fn f,?_⟩;rw [Oper.semAt_eq _ _ _ jW];have mn:=aL.az it;rw [C_] at mn;have gL:=mB aL.H;obtain ⟨b,ec,aA,aG,aT,br,bg⟩:=gL.obj r _ ai;obtain ⟨GG,bB,a7,a9,bt,b6,dV,f'⟩:=gL.obj m _ hm;rw [aT] at a7;cases a7;generalize ad:a.eval it=v at mn;cases mn with
 | ptr _ _ au e4 =>
   rw [aA] at e4;cases e4;have CK:∀ x∈bB.toList,x.born<since:=fun x aj=>by
    obtain ⟨j,aw⟩:=sW.1 aj;(have ef:bB[j]?=some x:=by simpa using aw);(have aR:j<es.length:=by have:=(sJ.1 ef).1;omega);rcases bE:es[j] with ⟨i,k,v⟩;(have he:es[j]?=some (i,k,v):=by rw [si aR,bE]);rw [(f' j i k v x he ef).1];exact hold (i,k,v) (sv he)
   have done:∀ {r':I} {H':List ar} {v:Value} {w':World},aZ B (dr aa) J S w H' r' v w'→K' ⟨put s.T o.dst r',H'⟩→K (a.put o.dst v) w':=fun {r' H' v w'} aB al=>by
    obtain ⟨ay,bV,S',q1,aW,gh,_⟩:=oj o.dst aL aB .a0 (fun _ _ _ _ _=>.a0 _);exact fJ _ al _ _ ⟨ay,bV,S',q1,aW,gh⟩
   rcases run_next_at (P:=P) w o.type b ec since clock seen.toArray bB clock br bt CK w9 with ⟨aI,dM⟩ | ⟨x,aj,bI,zv,dM⟩
   ·(have w8:(Go.execOp a.eval o).run P w=.ok (.value (.tuple #[.bool false])) w:=by simp [Go.execOp,aC,ad,dM]);rw [w8];refine done (aZ.same gL (.tuple _ _ rfl (by simp [I.plain]) fun j u bo hu bh=>?_) rfl) (dj fun e he=>?_)
    ·match j with
     | 0=>simp at hu bh;subst hu;subst bh;exact .bool _
     | j+1=>simp at hu
    ·obtain ⟨j,aw⟩:=sW.1 he;have aR:j<es.length:=(sa.1 aw).1;have aj:bB[j]?=some bB[j]:=sr (by omega);have af:=(f' j e.1 e.2.1 e.2.2 _ aw aj).1;have mm:leftOf bB seen.toArray=#[]:=Array.eq_empty_of_size_eq_zero aI;unfold leftOf at mm;rw [Array.filter_eq_empty_iff] at mm;have:=mm bB[j] (by simp);simpa [af] using this
   ·have w8:(Go.execOp a.eval o).run P w=.ok (.value (.tuple #[.bool true,x.key,x.val])) (bI.putObj b (.mapIter (some ec) since (seen++[x.born]).toArray clock)):=by
     simp [Go.execOp,aC,ad,dM,Go.ChangeMaps.setBlock,World.putObj]
    rw [w8];have nZ:x∈bB.toList∧x.born ∉ seen:=by
     unfold leftOf at aj;simpa using aj
    obtain ⟨j,aw⟩:=sW.1 nZ.1;(have ef:bB[j]?=some x:=by simpa using aw);(have aR:j<es.length:=by have:=(sJ.1 ef).1;omega);rcases bE:es[j] with ⟨i,k,v⟩;(have he:es[j]?=some (i,k,v):=by rw [si aR,bE]);obtain ⟨d1,d2,d3,d4,d5⟩:=f' j i k v x he ef;have kM:(i,k,v)∈es:=sv he;refine done (r':=.tuple [.bool true,k,v]) (H':=s.H.set r (.iter m since (seen++[i]) clock)) ?_ (aJ _ kM (by rw [←d1];exact nZ.2));(have hw:aK B (dr aa) J S bI s.H:=by rcases zv with rfl | rfl;exact gL;exact mA gL);(have pB:bl (dr aa) S w (dr aa) S bI:=by rcases zv with rfl | rfl;exact bl.refl _ _ _;exact kz _ _ _);refine aZ.after (Ext.refl J) pB ?_;obtain ⟨az,b9⟩:=DQ hw (since':=since) (stepped':=clock) (seen':=seen++[i]) ai aA aG aT bg;rw [d1];refine ⟨dr aa,J,S,Ext.refl J,az,b9,.tuple _ _ rfl (fun u hu=>?_) (fun j u bo hu bh=>?_),aU.b4 rfl⟩
    ·simp only [sA,List.not_mem_nil,or_false] at hu;rcases hu with rfl | rfl | rfl
     ·rfl
     ·exact d2
     ·exact d4
    ·match j with
     | 0=>simp at hu bh;subst hu;subst bh;exact .bool _
     | 1=>simp at hu bh;subst hu;subst bh;exact (d3.mono (Ext.refl J) pB.set).mono (Ext.refl J) az.set
     | 2=>simp at hu bh;subst hu;subst bh;exact (d5.mono (Ext.refl J) pB.set).mono (Ext.refl J) az.set
     | j+3=>simp at hu
end
end
end Go.Proofs.Ytkoioidpbbbaiaa.Ab


namespace Go.Proofs.Ytkoioidpbbbaiaa.Ab
open Go
section
variable {P:Program} {B N:Nat} {J:List Nat} {w:World} {aa:Nat→Option aH} {S:Nat→Nat→Prop}
theorem x_ {C:b8} {lo:Nat} {ops:Array Oper} {an:List bZ} {i:Nat} {cS:Oper} (hi:ops[i]?=some cS) {R:Nat→Nat→Prop} {aD:a6}:∀ (l:List Nat) (s:a6),l.Pairwise R→i∈l →
  (∀ j∈l,R j i→∀ cT,ops[j]?=some cT→indep ops cT (an.getD j {}) cS (an.getD i {})=true)→cU P C lo ops an l s=some aD →
  ∃ s1,dw P C lo ops cS (an.getD i {}) s=some s1∧cU P C lo ops an (l.erase i) s1=some aD
 | [],s,_,h,_,_=>by simp at h
 | j::r,s,aB,hm,jS,h=>by
   by_cases gi:j=i
   ·subst gi;simp only [cU,hi,sf] at h;obtain ⟨s1,ab,ae⟩:=h;exact ⟨s1,ab,by simpa using ae⟩
   ·have ai:i∈r:=by
     rcases sA.1 hm with h | h
     ·exact absurd h.symm gi
     ·exact h
    have aR:R j i:=(tB.1 aB).1 i ai;have he:(j::r).erase i=j::r.erase i:=by
     rw [List.erase_cons];simp [gi]
    rw [he];simp only [cU] at h ⊢;cases aw:ops[j]? with
    | none =>
      simp only [aw] at h;exact x_ hi r s (tB.1 aB).2 ai (fun k al=>jS k (by simp [al])) h
    | some cT =>
      simp only [aw,sf] at h;obtain ⟨s1,ab,ae⟩:=h;obtain ⟨s2,aJ,aN⟩:=x_ hi r s1 (tB.1 aB).2 ai (fun k al=>jS k (by simp [al])) ae;obtain ⟨dk,q1,aW⟩:=Bn (jS j (by simp) aR cT aw) ab aJ;exact ⟨dk,q1,by dsimp only;rw [aW];exact aN⟩
def c9 (O:List Nat) (listed:Array Bool):List Nat:=O.filter fun i=>!listed.getD i true
theorem Aw {O:List Nat} (ma:O.Nodup) {i:Nat} {listed:Array Bool}:c9 O (listed.setIfInBounds i true)=(c9 O listed).erase i:=by
 have jW:(c9 O listed).Nodup:=ma.filter _;rw [jW.erase_eq_filter];simp only [c9,uS];congr 1;funext j;by_cases h_:j=i
 ·subst h_;rcases sL j listed.size with h | h
  ·simp [su,h]
  ·simp [su,h]
 ·have:(listed.setIfInBounds i true).getD j true=listed.getD j true:=by
   simp only [su];rw [uL (Ne.symm h_)]
  rw [this];simp [h_]
theorem z7:∀ {l:List Nat},od l=true→l.Nodup
 | [],_=>List.nodup_nil
 | j::r,h=>by
   simp only [od,sn,Bool.not_eq_true',List.contains_eq_mem,decide_eq_false_iff_not] at h;exact List.nodup_cons.2 ⟨h.1,z7 h.2⟩
def o0 (ops:Array Oper) (an:List bZ) (p q j i:Nat):Prop:=∀ cT cS,ops[j]?=some cT→ops[i]?=some cS →
 ((fR ops.toList []).getD i 0).testBit j=true∨indep ops cT (an.getD j {}) cS (an.getD i {})=true∨(j=p∧i=q)
theorem xF {ops:Array Oper} {an:List bZ} {p q:Nat}:∀ {l:List Nat},m4 ops an (fR ops.toList []) p q l=true→l.Pairwise (o0 ops an p q)
 | [],_=>List.Pairwise.nil
 | j::r,h=>by
   simp only [m4,sn,sq] at h;refine tB.2 ⟨fun i hi cT cS ab ae=>?_,xF h.2⟩;have:=h.1 i hi;simp only [Ac,ab,ae,tt,sn] at this;rcases this with (a_ | a_) | a_
   ·exact .inl a_
   ·exact .inr (.inl a_)
   ·exact .inr (.inr ⟨sN a_.1,sN a_.2⟩)
theorem BX {F:Fence} (bG:ek F) {C:b8} (bn:c6 P C) {lo:Nat} {ops:Array Oper} {an:List bZ} {O:List Nat} {p q:Nat} (a1:l0 ops an (O,p,q)=true) {Q:Exit→Act→World→Prop} {s1 s2:a6} :
  ∀ (fuel:Nat) (listed:Array Bool) (s:a6) (a:Act) (w:World) (aa:Nat→Option aH) (J:List Nat) (S:Nat→Nat→Prop),(c9 (List.range ops.size) listed).length≤fuel→lX ops listed →
    ((cU P C lo ops an (c9 (List.range ops.size) listed) s=some s1∧cU P C lo ops an (c9 O listed) s=some s2∧listed.getD p true=false∧listed.getD q true=false) ∨
      (cU P C lo ops an (c9 (List.range ops.size) listed) s=some s1∧listed.getD p true=true)∨(cU P C lo ops an (c9 O listed) s=some s2∧listed.getD q true=true)) →
    cA B N aa J S w s a→(∀ aD,aD=s1∨aD=s2→∀ aM w',Step B N aa J S w aD aM w'→Q .normal aM w')→wpAnyIn F 0 P .any ops Q fuel listed a w:=by
 simp only [l0,sn,Bool.not_eq_true'] at a1;obtain ⟨⟨⟨⟨⟨⟨⟨⟨d1,d2⟩,d3⟩,d4⟩,d5⟩,d6⟩,d7⟩,d8⟩,d9⟩:=a1;have Dr:p≠q:=fun e=>by rw [e,uT] at d7;cases d7
 have y1:∀ i,i∈O↔i<ops.size:=fun i=>by
  constructor
  ·intro h;rw [sq] at d6;exact by simpa [sR] using d6 i h
  ·intro h;rw [sq] at d5;have:=d5 i (sH.2 h);simpa using this
 have c1:∀ j cT,ops[j]?=some cT→((fR ops.toList []).getD j 0=mT (fR ops.toList []) cT)∧(∀ e∈cT.after,Region.binds .any e=true→e.on<j):=fun j cT aw=>by
  have aR:j<ops.size:=(sJ.1 aw).1;simp only [zX,sq,sH] at d1;have h:=d1 j aR;rw [aw] at h;simp only [sn,beq_iff_eq,sq] at h;obtain ⟨ab,ae⟩:=h;refine ⟨ab,fun e he af=>?_⟩;have:=ae e (by simpa using he);simp only [af,Bool.not_true,Bool.false_or] at this;simpa [sR] using this
 have xS:∀ (listed:Array Bool),lX ops listed→∀ (n k:Nat) ok,k≤n→ops[k]?=some ok→(∀ e∈ok.after,Region.binds .any e=true→listed.getD e.on false=true) →
   ∀ j,((fR ops.toList []).getD k 0).testBit j=true→listed.getD j false=true:=by
  intro listed cH n
  induction n with
  | zero =>
    intro k ok al aq eU j aw;rw [(c1 k ok aq).1] at aw;rcases mU _ j _ _ aw with h | ⟨e,he,af,h⟩
    ·simp at h
    ·have:=(c1 k ok aq).2 e (by simpa using he) af;omega
  | succ n a8 =>
    intro k ok al aq eU j aw;rw [(c1 k ok aq).1] at aw;rcases mU _ j _ _ aw with h | ⟨e,he,af,h⟩
    ·simp at h
    ·(have jQ:e∈ok.after:=by simpa using he);have aR:=(c1 k ok aq).2 e jQ af;have ic:=eU e jQ af;rcases h with h | rfl
     ·have kK:=(sJ.1 aq).1;have my:ops[e.on]?=some ops[e.on]:=sr (by omega);have w5:listed.getD e.on true=true:=by
       rcases sL e.on listed.size with aX | aX
       ·simp [su,aX] at ic ⊢;exact ic
       ·simp [su,aX] at ic
      exact a8 e.on _ (by omega) my (cH e.on _ my w5) j h
     ·exact ic
 have iW:∀ (O:List Nat) (listed:Array Bool) (i:Nat),i∈c9 O listed↔i∈O∧listed.getD i true=false:=fun O listed i=>by
  simp [c9]
 have mm:∀ (O:List Nat) (listed:Array Bool),(∀ i,i∈O↔i<ops.size)→c9 (List.range ops.size) listed=[]→c9 O listed=[]:=fun O listed ma h=>by
  rw [uz];intro i hi;have:=(iW _ _ _).1 hi;have ae:i∈c9 (List.range ops.size) listed:=(iW _ _ _).2 ⟨sH.2 ((ma i).1 this.1),this.2⟩;rw [h] at ae;simp at ae
 have y7:∀ (listed:Array Bool) (s:a6),c9 (List.range ops.size) listed=[] →
   ((cU P C lo ops an (c9 (List.range ops.size) listed) s=some s1∧cU P C lo ops an (c9 O listed) s=some s2∧listed.getD p true=false∧listed.getD q true=false) ∨
     (cU P C lo ops an (c9 (List.range ops.size) listed) s=some s1∧listed.getD p true=true)∨(cU P C lo ops an (c9 O listed) s=some s2∧listed.getD q true=true))→s=s1∨s=s2:=fun listed s h hinv=>by
  have ae:=mm _ listed y1 h;rw [h,ae] at hinv;simp only [cU,Option.some.injEq] at hinv;rcases hinv with h | h | h
  ·exact .inl h.1
  ·exact .inl h.1
  ·exact .inr h.1
 have front:∀ (O:List Nat) (p q:Nat),O.Pairwise (o0 ops an p q)→O.Nodup→(∀ i,i∈O↔i<ops.size)→∀ (listed:Array Bool) (s aD:a6) (i:Nat) (cS:Oper),lX ops listed→ops[i]?=some cS→listed.getD i true=false →
   (∀ e∈cS.after,Region.binds .any e=true→listed.getD e.on false=true)→(i=q→listed.getD p true=true)→cU P C lo ops an (c9 O listed) s=some aD →
   ∃ dk,dw P C lo ops cS (an.getD i {}) s=some dk∧cU P C lo ops an (c9 O (listed.setIfInBounds i true)) dk=some aD:=by
  intro O p q CE CC CB listed s aD i cS cH eg ab eU jK dM;have aR:=(sJ.1 eg).1
  obtain ⟨dk,q1,aW⟩:=x_ eg (R:=o0 ops an p q) (c9 O listed) s (CE.filter _) ((iW _ _ _).2 ⟨(CB i).2 aR,ab⟩) (fun j aw gi cT pY=>by
   have dX:=((iW _ _ _).1 aw).2;rcases gi cT cS pY eg with h | h | ⟨rfl,rfl⟩
   ·have:=xS listed cH i i cS (sc _) eg eU j h;rcases sL j listed.size with aX | aX
    ·simp [su,aX] at dX this;rw [this] at dX;simp at dX
    ·simp [su,aX] at dX
   ·exact h
   ·rw [jK rfl] at dX;cases dX) dM
  exact ⟨dk,q1,by rw [Aw CC];exact aW⟩
 have CD:∀ i,i∈List.range ops.size↔i<ops.size:=fun i=>sH;have f1:=front _ p q (xF d2) uR CD;have f2:=front _ q p (xF d3) (z7 d4) y1;intro fuel
 induction fuel with
 | zero =>
   intro listed s a w aa J S pI cH hinv aL bp;have ib:c9 (List.range ops.size) listed=[]:=sO.1 (by omega);refine ⟨?_,bp s (y7 listed s ib hinv) a w (Step.here aL)⟩;rw [uz];intro i hi;obtain ⟨ab,o,aq,_⟩:=mem_ready.1 hi
   have:i∈c9 (List.range ops.size) listed:=(iW _ _ _).2 ⟨sH.2 (sJ.1 aq).1,by simp [ab]⟩
   rw [ib] at this;simp at this
 | succ fuel a8 =>
   intro listed s a w aa J S pI cH hinv aL bp;refine ⟨fun ai=>?_,fun i hi=>?_⟩
   ·have ib:c9 (List.range ops.size) listed=[]:=by
     rw [uz];intro i
     induction i using Nat.strongRecOn with
     | _ i xm =>
       intro hi;obtain ⟨aR,dX⟩:=(iW _ _ _).1 hi;have aR:=sH.1 aR;have aq:ops[i]?=some ops[i]:=sr aR
       have:i∈Region.ready .any ops listed:=mem_ready.2 ⟨by simpa using dX,_,aq,fun e he af=>by
        have ia:=(c1 i _ aq).2 e he af;have kO:=xm e.on ia;have ao:listed.getD e.on true=true:=by
         cases aj:listed.getD e.on true with
         | true=>rfl
         | false=>exact absurd ((iW _ _ _).2 ⟨sH.2 (by omega),aj⟩) kO
        rcases sL e.on listed.size with aX | aX
        ·simp [su,aX] at ao ⊢;exact ao
        ·rcases sL i listed.size with l_ | l_
         ·omega
         ·simp [su,l_] at dX⟩
       rw [ai] at this;simp at this
    exact bp s (y7 listed s ib hinv) a w (Step.here aL)
   ·obtain ⟨ab,cS,eg,eU⟩:=mem_ready.1 hi;have aR:=(sJ.1 eg).1;(have iR:listed.getD i true=false:=by simpa using ab);have kM:i∈c9 (List.range ops.size) listed:=(iW _ _ _).2 ⟨sH.2 aR,iR⟩;have bR:i<listed.size:=by
     rcases sL i listed.size with aX | aX
     ·exact aX
     ·simp [su,aX] at iR
    have w_:(listed.setIfInBounds i true).getD i true=true:=by
     simp [su,bR]
    have bJ:∀ k,k≠i→(listed.setIfInBounds i true).getD k true=listed.getD k true:=fun k al=>by
     simp only [su];rw [uL (Ne.symm al)]
    have zq:∀ k,listed.getD k true=true→(listed.setIfInBounds i true).getD k true=true:=fun k al=>by
     by_cases e:k=i
     ·rw [e];exact w_
     ·rw [bJ k e];exact al
    obtain ⟨dk,q1,C9⟩:∃ dk,dw P C lo ops cS (an.getD i {}) s=some dk ∧
      ((cU P C lo ops an (c9 (List.range ops.size) (listed.setIfInBounds i true)) dk=some s1∧cU P C lo ops an (c9 O (listed.setIfInBounds i true)) dk=some s2∧(listed.setIfInBounds i true).getD p true=false∧(listed.setIfInBounds i true).getD q true=false) ∨
        (cU P C lo ops an (c9 (List.range ops.size) (listed.setIfInBounds i true)) dk=some s1∧(listed.setIfInBounds i true).getD p true=true)∨(cU P C lo ops an (c9 O (listed.setIfInBounds i true)) dk=some s2∧(listed.setIfInBounds i true).getD q true=true)):=by
     rcases hinv with ⟨cf,ca,eS,iP⟩ | ⟨cf,ca⟩ | ⟨cf,ca⟩
     ·by_cases mo:i=p
      ·obtain ⟨dk,aJ,aN⟩:=f1 listed s s1 i cS cH eg iR eU (fun e=>absurd (mo.symm.trans e) Dr) cf;exact ⟨dk,aJ,.inr (.inl ⟨aN,by rw [←mo];exact w_⟩)⟩
      ·by_cases pN:i=q
       ·obtain ⟨dk,aJ,aN⟩:=f2 listed s s2 i cS cH eg iR eU (fun e=>absurd e mo) ca;exact ⟨dk,aJ,.inr (.inr ⟨aN,by rw [←pN];exact w_⟩)⟩
       ·obtain ⟨dk,aJ,aN⟩:=f1 listed s s1 i cS cH eg iR eU (fun e=>absurd e pN) cf;obtain ⟨Ha,cb,hq⟩:=f2 listed s s2 i cS cH eg iR eU (fun e=>absurd e mo) ca;rw [aJ] at cb;cases cb;exact ⟨dk,aJ,.inl ⟨aN,hq,by rw [bJ _ (Ne.symm mo)];exact eS,by rw [bJ _ (Ne.symm pN)];exact iP⟩⟩
     ·obtain ⟨dk,aJ,aN⟩:=f1 listed s s1 i cS cH eg iR eU (fun _=>ca) cf;exact ⟨dk,aJ,.inr (.inl ⟨aN,zq _ ca⟩)⟩
     ·obtain ⟨dk,aJ,aN⟩:=f2 listed s s2 i cS cH eg iR eU (fun _=>ca) cf;exact ⟨dk,aJ,.inr (.inr ⟨aN,zq _ ca⟩)⟩
    refine Bp bG bn eg q1 aL fun aM w' ah=>?_;obtain ⟨b5,cZ,a4,aJ,aN,cg⟩:=ah;refine a8 (listed.setIfInBounds i true) dk aM w' b5 cZ a4 ?_ ?_ C9 cg fun aD hl g7 hB dN=>bp aD hl g7 hB (dN.trans aJ aN)
    ·rw [Aw uR,tV kM];omega
    ·intro k ok al ao e he af;by_cases iU:k=i
     ·subst iU;rw [eg] at al;cases al;exact getD_set_true (eU e he af)
     ·have:listed.getD k true=true:=by rw [getD_set_ne true (Ne.symm iU)] at ao;exact ao
      exact getD_set_true (cH k ok al this e he af)
theorem EW {F:Fence} (bG:ek F) (hm:P.follows .mixedOrders=true) {C:b8} (bn:c6 P C) {lo id:Nat} {ops:Array Oper} {an:List bZ} {x:List Nat×Nat×Nat} (a1:l0 ops an x=true) {Q:Exit→Act→World→Prop} {s s1 s2:a6} {a:Act}
  (ab:cU P C lo ops an (List.range ops.size) s=some s1) (ae:cU P C lo ops an x.1 s=some s2) (aL:cA B N aa J S w s a) (bp:∀ aD,aD=s1∨aD=s2→∀ aM w',Step B N aa J S w aD aM w'→Q .normal aM w'):(Code.region id ops true).wpIn F 0 P Q a w:=by
 obtain ⟨O,p,q⟩:=x;refine wpIn_region_any hm ?_;have hw:aK B aa J S w.drew s.H:=mA aL.H;have az:=kz aa S w;have gh:cA B N aa J S w.drew s a:=⟨⟨aL.T.len,fun i u v hu ad=>(aL.T.rel i u v hu ad).mono (Ext.refl J) az.set,fun i u v hu ad=>(aL.T.own i u v hu ad).mono (Ext.refl J) az.set fun b af=>⟨af,rfl,fun _ h=>h⟩⟩,hw,aL.M.az az⟩;have dX:∀ i,i<ops.size→(Array.replicate ops.size false).getD i true=false:=fun i hi=>by simp [su,hi]
 have kT:∀ O:List Nat,(∀ i,i∈O→i<ops.size)→c9 O (Array.replicate ops.size false)=O:=fun O ma=>by
  simp only [c9];rw [tC];intro i hi;rw [dX i (ma i hi)];rfl
 have jP:=a1;simp only [l0,sn] at jP;obtain ⟨⟨⟨⟨_,d6⟩,_⟩,d8⟩,d9⟩:=jP;have d8:p<ops.size:=by simpa [sR] using d8
 have d9:q<ops.size:=by simpa [sR] using d9
 rw [sq] at d6;refine BX bG bn a1 (s1:=s1) (s2:=s2) (lo:=lo) ops.size (Array.replicate ops.size false) s a w.drew aa J S (by rw [kT _ fun i hi=>sH.1 hi];simp) ?_ (.inl ⟨by rw [kT _ fun i hi=>sH.1 hi];exact ab,by rw [kT _ fun i hi=>by simpa [sR] using d6 i hi];exact ae,dX _ d8,dX _ d9⟩) gh fun aD hl aM w' ah=>bp aD hl aM w' (ah.trans (Ext.refl J) az);intro k o aq ao;have aR:=(sJ.1 aq).1;rw [dX k aR] at ao;cases ao
end
end Go.Proofs.Ytkoioidpbbbaiaa.Ab


namespace Go.Proofs.Ytkoioidpbbbaiaa.Ab
open Go
section
variable (P:Program)
def iI (lo:Nat) (ops:Array Oper) (o:Oper) (an:bZ) (s:a6) (K:a6→Prop):Prop :=
 (∃ C aD,c6 P C∧dw P C lo ops o an s=some aD∧K aD)∨yq o s K
def runN (lo:Nat) (ops:Array Oper):List Oper→List bZ→a6→(a6→Prop)→Prop
 | [],_,s,K=>K s
 | o::r,as,s,K=>iI P lo ops o (as.headD {}) s fun aD=>runN lo ops r as.tail aD K
def Fc (lo:Nat) (ops:Array Oper) (as:List bZ) (s:a6) (K:a6→Prop):Prop :=
 (∃ acc aD,h2 P acc∧(∀ C,c6 P C→iG C acc→ee P C lo ops ops.toList as s=some aD)∧K aD) ∨
  ∃ C aD,c6 P C∧ee P C lo ops ops.toList as s=some aD∧K aD
def Fe (lo:Nat) (ops:Array Oper) (as:List bZ) (x:List Nat×Nat×Nat) (s:a6) (K:a6→Prop):Prop :=
 ∃ acc s1 s2,h2 P acc∧(∀ C,c6 P C→iG C acc→cU P C lo ops as (List.range ops.size) s=some s1∧cU P C lo ops as x.1 s=some s2)∧K s1∧K s2
def fB (f:a6→(cQ→a6→Prop)→Prop):Nat→a6→(cQ→a6→Prop)→Prop
 | 0,_,_=>False
 | n+1,s,Q=>f s fun e aD=>match e with
   | .normal=>fB f n aD Q
   | e=>Q e aD
def dc (A:dx) (fn:FuncId) (lo:Nat) (rl:Option Nat):Code→Nat→a6→(cQ→a6→Prop)→Prop
 | .skip,_,s,Q=>Q .normal s
 | .region id ops draw,_,s,Q=>match kk A id draw with
   | some p=>Fe P lo ops (A.ops.getD id []) p (e5 A.im id s) (Q .normal)
   | none=>match draw with
     | true=>Fc P lo ops (A.ops.getD id []) (e5 A.im id s) (Q .normal)
     | false=>runN P lo ops ops.toList (A.ops.getD id []) (e5 A.im id s) (Q .normal)
 | .seq a b,a2,s,Q=>dc A fn lo rl a a2 s fun e aD=>match e with
   | .normal=>dc A fn lo rl b a2 aD Q
   | e=>Q e aD
 | .cond c a b,a2,s,Q=>(∃ t,az s.T c=.bool t∧match t with
   | true=>dc A fn lo rl a a2 s Q
   | false=>dc A fn lo rl b a2 s Q)∨(az s.T c=.dA∧dc A fn lo rl a a2 s Q∧dc A fn lo rl b a2 s Q)
 | .block id body,_,s,Q=>dc A fn lo rl body id s fun e aD=>match e with
   | .exit bC=>if bC=id then Q .normal aD else Q (.exit bC) aD
   | e=>Q e aD
 | .loop body,a2,s,Q=>∃ n,fB (fun aD=>dc A fn lo rl body a2 (e5 A.il a2 aD)) n s Q
 | .exit id,_,s,Q=>Q (.exit id) s
 | .ret,_,s,Q=>Q .ret s
 | .scope body,a2,s,Q=>dc A fn lo rl body a2 s Q
 | .label _,_,s,Q=>Q .normal s
 | .rangeFunc f params assign body,a2,s,Q=>∃ C e aD,c6 P C∧exec P A C fn lo 0 rl (.rangeFunc f params assign body) a2 s=some (e,aD)∧Q e aD
 | _,_,_,_=>False
end
section
variable {P:Program} {B N:Nat} {J:List Nat} {w:World} {H:List ar} {aa:Nat→Option aH} {S:Nat→Nat→Prop}
theorem Gf {F:Fence} (bG:ek F) {lo:Nat} {ops:Array Oper} {o:Oper} {an:bZ} {s:a6} {K':a6→Prop} (h:iI P lo ops o an s K') {a:Act} (aL:cA B N aa J S w s a)
  {rest:List Oper} {Q:Exit→Act→World→Prop} (fJ:∀ aD,K' aD→∀ aM w',Step B N aa J S w aD aM w'→wpListIn F 0 P ops Q rest aM w'):wpListIn F 0 P ops Q (o::rest) a w:=by
 rcases h with ⟨C,aD,bn,h,al⟩ | h
 ·unfold dw at h;unfold wpListIn;split at h
  ·rename_i hw;rw [lD aL hw];simp only [if_true];exact yf bG bn h aL fun aM w' ah=>fJ aD al aM w' ah
  ·rename_i hw;rw [lD aL hw];simp only [tR,if_false];simp only [Option.some.injEq] at h;subst h;exact ⟨fun f _=>bG.fn f,fJ _ al _ _ (Step.here (aL.skip o.dst))⟩
  ·simp at h
 ·have aO:o.guard=none:=by obtain ⟨_,_,_,_,_,_,_,_,aO,_⟩:=h;exact aO
  unfold wpListIn;have hw:Region.wanted o (yielded ops a.tmps)=true:=by unfold Region.wanted;rw [aO]
  rw [hw];simp only [if_true];exact Ew bG h aL fun aD al aM w' ah=>fJ aD al aM w' ah
theorem AU {F:Fence} (bG:ek F) {lo:Nat} {ops:Array Oper} {K':a6→Prop} {Q:Exit→Act→World→Prop} :
  ∀ (rest:List Oper) (as:List bZ) (s:a6) (a:Act) (w:World) (aa:Nat→Option aH) (J:List Nat) (S:Nat→Nat→Prop),runN P lo ops rest as s K'→cA B N aa J S w s a →
    (∀ aD,K' aD→∀ aM w',Step B N aa J S w aD aM w'→Q .normal aM w')→wpListIn F 0 P ops Q rest a w
 | [],as,s,a,w,aa,J,S,h,aL,bp=>bp s h a w (Step.here aL)
 | o::rest,as,s,a,w,aa,J,S,h,aL,bp=>by
   refine Gf bG h aL fun aD al aM w' ah=>?_;obtain ⟨b5,cZ,a4,aJ,aN,cg⟩:=ah;exact AU bG rest as.tail aD aM w' b5 cZ a4 al cg fun Fq C' g7 hB dN=>bp Fq C' g7 hB (dN.trans aJ aN)
theorem D3 {F:Fence} {c:Code} {f:a6→(cQ→a6→Prop)→Prop} {cM:cQ→a6→Prop} {Q:Exit→Act→World→Prop} {s:a6} {a:Act} {n:Nat}
  (h:fB f n s cM) (aL:cA B N aa J S w s a) (bp:∀ e aD,cM e aD→∀ aM w',Step B N aa J S w aD aM w'→Q (toExit e) aM w')
  (kH:∀ (s1:a6) (oZ:cQ→a6→Prop),f s1 oZ→∀ (lK:Exit→Act→World→Prop) (aA:Act) (bI:World),(∀ l a w,lK (.goto l) a w→Q (.goto l) a w)→Step B N aa J S w s1 aA bI →
   (∀ e s2,oZ e s2→∀ aM w',Step B N aa J S w s2 aM w'→lK (toExit e) aM w')→c.wpIn F 0 P lK aA bI):(Code.loop c).wpIn F 0 P Q a w:=by
 classical
 let Inv:Nat→Act→World→Prop:=fun n aM w'=>∃ s1,fB f n s1 cM∧Step B N aa J S w s1 aM w'
 let gz:Act→World→Nat:=fun aM w'=>if h:∃ n,Inv n aM w' then Classical.choose (kB h) else 0
 have mH:∀ aM w',(∃ n,Inv n aM w')→Inv (gz aM w') aM w'∧∀ m,Inv m aM w'→gz aM w'≤m:=fun aM w' h=>by
  have:gz aM w'=Classical.choose (kB h):=by simp only [gz,dif_pos h]
  rw [this];exact uA (kB h)
 refine wpIn_loop (fun aM w'=>∃ n,Inv n aM w') gz ⟨n,s,h,Step.here aL⟩ fun aA bI kF=>?_;obtain ⟨⟨s1,ab,gP⟩,_⟩:=mH aA bI kF;cases aI:gz aA bI with
 | zero=>rw [aI] at ab;exact ab.elim
 | succ m =>
   rw [aI] at ab;simp only [fB] at ab;refine kH s1 _ ab _ aA bI (fun l a w h=>h) gP fun e s2 al aM w' dN=>?_;cases e with
   | normal =>
     have hinv:Inv m aM w':=⟨s2,al,dN⟩;exact ⟨⟨m,hinv⟩,Nat.lt_succ_of_le ((mH aM w' ⟨m,hinv⟩).2 m hinv)⟩
   | ret=>exact bp .ret s2 al aM w' dN
   | exit id=>exact bp (.exit id) s2 al aM w' dN
theorem Bz (eG:P.follows .mixedOrders=true) {A:dx} {fn:FuncId} {lo:Nat} {rl:Option Nat} :
  ∀ (c:Code) (a2:Nat) (s:a6) (K:cQ→a6→Prop),dc P A fn lo rl c a2 s K→codeOk A c=true →
    ∀ (F:Fence) (Q:Exit→Act→World→Prop) (B N:Nat) (J:List Nat) (w:World) (aa:Nat→Option aH) (S:Nat→Nat→Prop) (a:Act),jw F rl J→(∀ l a w,¬ Q (.goto l) a w) →
      cA B N aa J S w s a→(∀ e aD,K e aD→∀ aM w',Step B N aa J S w aD aM w'→Q (toExit e) aM w')→c.wpIn F 0 P Q a w:=by
 intro c
 induction c with
 | skip=>intro a2 s K h _ F Q B N J w aa S a bG aO aL bp;exact wpIn_skip (bp _ _ h a w (Step.here aL))
 | label l=>intro a2 s K h _ F Q B N J w aa S a bG aO aL bp;exact wpIn_label (bp _ _ h a w (Step.here aL))
 | ret=>intro a2 s K h _ F Q B N J w aa S a bG aO aL bp;exact wpIn_ret (bp _ _ h a w (Step.here aL))
 | exit id=>intro a2 s K h _ F Q B N J w aa S a bG aO aL bp;exact wpIn_exit (bp _ _ h a w (Step.here aL))
 | goto l=>intro a2 s K h;exact h.elim
 | refuse y=>intro a2 s K h;exact h.elim
 | region id ops draw =>
   intro a2 s K h bT F Q B N J w aa S a bG aO aL bp;simp only [dc] at h;simp only [codeOk,xO] at bT;split at h
   ·rename_i p kW;rw [kW] at bT;cases draw with
    | false=>simp [kk] at kW
    | true =>
      obtain ⟨acc,s1,s2,hK,aj,Db,pP⟩:=h;obtain ⟨C,bn,cq⟩:=nu hK;obtain ⟨lF,lG⟩:=aj C bn cq;exact EW bG.kC eG bn bT lF lG (aL.cE _ _) fun aD hl aM w' ah=>by
       rcases hl with rfl | rfl
       ·exact bp _ _ Db aM w' ah
       ·exact bp _ _ pP aM w' ah
   rename_i kW;rw [kW] at bT;cases draw with
   | true =>
     rcases h with ⟨acc,aD,hK,aj,al⟩ | ⟨C,aD,bn,aj,al⟩
     ·obtain ⟨C,bn,cq⟩:=nu hK;exact xP bG.kC eG bn (fun _=>by simpa using bT) (aj C bn cq) (aL.cE _ _) fun aM w' ah=>bp _ _ al aM w' ah
     ·exact xP bG.kC eG bn (fun _=>by simpa using bT) aj (aL.cE _ _) fun aM w' ah=>bp _ _ al aM w' ah
   | false=>exact wpIn_region_list (AU bG.kC ops.toList _ _ a w aa J S h (aL.cE _ _) fun aD al aM w' ah=>bp _ _ al aM w' ah)
 | seq x y n2 xn =>
   intro a2 s K h bT F Q B N J w aa S a bG aO aL bp;simp only [codeOk,sn] at bT;refine wpIn_seq (n2 _ _ _ h bT.1 F _ B N J w aa S a bG (fun l a w=>aO l a w) aL fun e s1 al aM w' ah=>?_);cases e with
   | normal =>
     obtain ⟨b5,cZ,a4,aJ,aN,cg⟩:=ah;exact xn _ _ _ al bT.2 F Q B N cZ w' b5 a4 aM (bG.ext aJ) aO cg fun e s2 pP g7 hB dN=>bp e s2 pP g7 hB (dN.trans aJ aN)
   | ret=>exact bp _ _ al aM w' ah
   | exit id=>exact bp _ _ al aM w' ah
 | cond x t f n1 n0 =>
   intro a2 s K h bT F Q B N J w aa S a bG aO aL bp;simp only [codeOk,sn] at bT;rcases h with ⟨b,af,h⟩ | ⟨af,ab,ae⟩
   ·have ai:=aL.az x;rw [af] at ai;cases b with
    | true=>exact wpIn_cond_true ai.h6 (n1 _ _ _ h bT.1 F Q B N J w aa S a bG aO aL bp)
    | false=>exact wpIn_cond_false ai.h6 (n0 _ _ _ h bT.2 F Q B N J w aa S a bG aO aL bp)
   ·have ai:=aL.az x;rw [af] at ai;obtain ⟨b,ai⟩:=ai.BZ;cases b with
    | true=>exact wpIn_cond_true ai (n1 _ _ _ ab bT.1 F Q B N J w aa S a bG aO aL bp)
    | false=>exact wpIn_cond_false ai (n0 _ _ _ ae bT.2 F Q B N J w aa S a bG aO aL bp)
 | block id c a8 =>
   intro a2 s K h bT F Q B N J w aa S a bG aO aL bp;refine wpIn_block ?_;refine a8 _ _ _ h bT F _ B N J w aa S a bG (fun l a w=>aO l a w) aL fun e s1 al aM w' ah=>?_;cases e with
   | normal=>exact bp _ _ al aM w' ah
   | ret=>exact bp _ _ al aM w' ah
   | exit bC =>
     simp only at al;by_cases aE:bC=id
     ·simp only [aE,if_true] at al;simp only [toExit,Exit.inBlock,aE,if_true];exact bp _ _ al aM w' ah
     ·simp only [aE,if_false] at al;simp only [toExit,Exit.inBlock,aE,if_false];exact bp _ _ al aM w' ah
 | loop c a8 =>
   intro a2 s K h bT F Q B N J w aa S a bG aO aL bp;obtain ⟨n,h⟩:=h;refine D3 h aL bp fun s1 oZ ab lK aA bI Dt ah fJ=>?_;obtain ⟨b5,cZ,a4,aJ,aN,cg⟩:=ah;exact a8 _ _ _ ab bT F lK B N cZ bI b5 a4 aA (bG.ext aJ) (fun l a w h=>aO l a w (Dt l a w h)) (cg.cE _ _) fun e s2 al aM w' dN=>fJ e s2 al aM w' (dN.trans aJ aN)
 | scope c a8 =>
   intro a2 s K h bT F Q B N J w aa S a bG aO aL bp;exact BC (a8 _ _ _ h bT F Q B N J w aa S a bG aO aL bp) aO
 | rangeFunc f params assign body _ _ =>
   intro a2 s K h bT F Q B N J w aa S a bG aO aL bp;obtain ⟨C,e,aD,bn,aj,al⟩:=h;exact nG bn eG _ _ _ _ _ aj bT F Q B N J w aa S a bG aO aL fun aM w' ah=>bp _ _ al aM w' ah
def lJ (H H':List ar):Prop:=H'.length=H.length∧∀ (id:Nat) (o:ar),H'[id]?=some o→o=.dead∨H[id]?=some o
theorem lJ.refl (H:List ar):lJ H H:=⟨rfl,fun _ _ h=>.inr h⟩
theorem aK.pd {H':List ar} (ag:aK B aa J S w H) (h:lJ H H'):aK B aa J S w H' :=
 ⟨by rw [h.1];exact ag.cK,fun id o aq=>by
  rcases h.2 id o aq with rfl | aX
  ·trivial
  ·exact ag.obj id o aX,ag.cd,ag.base,ag.c0⟩
theorem aZ.pd {H1 H':List ar} {r:I} {v:Value} {w':World} (h:lJ H1 H') (aB:aZ B aa J S w H1 r v w'):aZ B aa J S w H' r v w':=by
 obtain ⟨bu,ck,bL,a,b,c,d⟩:=aB;exact ⟨bu,ck,bL,a,b,c.pd h,d⟩
theorem G' (eG : P.follows .mixedOrders = true) {k : Nat} {f : Func} {c : Code} (aP : P.funcs[k]? = some f) (af : f.body = some c) (aI : f.name ≠ "runtime.NumGoroutine") {A : dx} (bT : codeOk A c = true)
  {args:List I} {v:I} (aB:cr 8 v=true)
  (h:dc P A k 0 none c 0 ⟨args++List.replicate (f.ntmps-args.length) .a0,[]⟩ fun e s=>(e=.normal∨e=.ret)∧∃ vs r,gX P s.H s.T f.results.toList=some vs∧bM s.H 0 s.H.length 0 8 (jg vs)=some r∧(r=v∨r.settle=v)):np P k args v:=by
 refine ⟨⟨ba.refl _ _,⟨f,aP,by simp [af],aI⟩,fun B aa J S w xs ag _ ad=>?_⟩,aB⟩;refine callsIn_of_wp_marks aP af trivial ?_;have aL:=ye ag ad f.ntmps;have dC:=(oQ ag).1;refine Bz eG c 0 _ _ h bT Fence.wide _ B w.heap.size J w (hY aa) S _ (.inl ⟨rfl,rfl⟩) (fun l a w aO=>aO.elim) aL fun e s al aM w' ah=>?_;obtain ⟨he,vs,r,ai,C1,eH⟩:=al;obtain ⟨b5,cZ,a4,aJ,aN,cg⟩:=ah;have iV:LeavesInM Fence.wide 0 P f aM.tmps (fZ B aa J S w [] v) aM.defers .returning w':=by
  refine n6 (aa:=b5) (S:=a4) (J:=cZ) (B:=B) (H:=s.H) (lI:=aa) (S0:=S) (w0:=w) aM.defers w' cg.M.2.1 cg.M.2.2 (dC.trans aN) cg.H fun bX dE dt mK mL=>?_
  have b0:a5 .slot b5 cZ a4 bX s.T aM.tmps.toList:=⟨cg.T.len,fun i u v hu ad=>(cg.T.rel i u v hu ad).mono (Ext.refl _) (fun b o h=>⟨h,dt b o h⟩),fun i u v hu ad =>
   (cg.T.own i u v hu ad).mono (Ext.refl _) (fun b o h=>⟨h,dt b o h⟩) fun b af=>⟨af,dE b _ af,fun _ h=>h⟩⟩
  obtain ⟨x,q1,aW⟩:=xT mL b0 ai;have kR:=xH ag (fun id aE=>by simp at aE) C1 (aZ.after aJ mK aW);refine ⟨x,q1,?_⟩;rcases eH with rfl | eH
  ·exact kR
  ·cases r with
   | av cells len eo =>
     cases eo with
     | uniq z=>simp only [I.settle] at eH;subst eH;exact kR.settle
     | _=>simp only [I.settle] at eH;subst eH;exact kR
   | _=>simp only [I.settle] at eH;subst eH;exact kR
 rcases he with rfl | rfl
 ·exact iV
 ·exact iV
theorem Hc (eG : P.follows .mixedOrders = true) {k : Nat} {f : Func} {c : Code} (aP : P.funcs[k]? = some f) (af : f.body = some c) (aI : f.name ≠ "runtime.NumGoroutine") {A : dx} (bT : codeOk A c = true)
  {lo:Nat} {args:List I} {H H':List ar} {r:I} (ao:ba lo H H')
  (h:dc P A k lo none c 0 ⟨args++List.replicate (f.ntmps-args.length) .a0,H⟩ fun e s=>(e=.normal∨e=.ret)∧lJ s.H H'∧∃ vs,gX P s.H s.T f.results.toList=some vs∧jg vs=r):Sem P (.fn k) args H lo r H':=by
 refine ⟨ao,⟨f,aP,by simp [af],aI⟩,fun B aa J S w xs ag _ ad=>?_⟩;refine callsIn_of_wp_marks aP af trivial ?_;have aL:=ye ag ad f.ntmps;have dC:=(oQ ag).1;refine Bz eG c 0 _ _ h bT Fence.wide _ B w.heap.size J w (hY aa) S _ (.inl ⟨rfl,rfl⟩) (fun l a w aO=>aO.elim) aL fun e s al aM w' ah=>?_;obtain ⟨he,nL,vs,ai,rfl⟩:=al;obtain ⟨b5,cZ,a4,aJ,aN,cg⟩:=ah;have iV:LeavesInM Fence.wide 0 P f aM.tmps (fZ B aa J S w H' (jg vs)) aM.defers .returning w':=by
  refine n6 (aa:=b5) (S:=a4) (J:=cZ) (B:=B) (H:=s.H) (lI:=aa) (S0:=S) (w0:=w) aM.defers w' cg.M.2.1 cg.M.2.2 (dC.trans aN) cg.H fun bX dE dt mK mL=>?_
  have b0:a5 .slot b5 cZ a4 bX s.T aM.tmps.toList:=⟨cg.T.len,fun i u v hu ad=>(cg.T.rel i u v hu ad).mono (Ext.refl _) (fun b o h=>⟨h,dt b o h⟩),fun i u v hu ad =>
   (cg.T.own i u v hu ad).mono (Ext.refl _) (fun b o h=>⟨h,dt b o h⟩) fun b af=>⟨af,dE b _ af,fun _ h=>h⟩⟩
  obtain ⟨v,q1,aW⟩:=xT mL b0 ai;exact ⟨v,q1,(aZ.after aJ mK aW).pd nL⟩
 rcases he with rfl | rfl
 ·exact iV
 ·exact iV
end
end Go.Proofs.Ytkoioidpbbbaiaa.Ab


namespace Go.Proofs.Ytkoioidpbbbaiaa.Ab
open Go
inductive kr where
 | nd (t:Nat) | jq (t:Nat) | Bu (t:Nat) | cv (v:I)
inductive g5 where
 | one | str (s:Nat) | arr (s:Nat)
inductive h1 where
 | int (k:IntKind) | str (n:Nat)
inductive jy where
 | mV | nil (z:Nat) | Bs
 | zG (a:g5) | zH (a:g5) | take | Br | Bm | Bl (s:Nat) | st (s:Nat) | box | yA | alloc (z:List I)
 | z3 (z:List I) (s:Nat) (bytes:Nat)
 | z2 (z:List I) (s:Nat) (bytes:Nat)
 | zL | zJ (n:Nat) | min | max
 | app (s bytes:Nat)
 | yu (s bytes:Nat)
 | yv (s bytes:Nat)
 | call (mode:Nat)
 | pick | build (z:List I) (bq:List (Nat×Nat)) | yC (k:Nat) (z:List I) (bq:List (Nat×Nat)) | yD (len s:Nat) (z:List I) (ix:List Nat) | yB (len s:Nat) (z:List I) (ix:List Nat)
 | z6 | bin (op:BinOp) | o4 (neq:Bool) | un (op:UnOp) | conv (k:IntKind)
 | z0 (f:FuncId) (n m:Nat)
 | Bj (s:Nat) (l h m:Bool)
 | z1 | zT (fl:h1) | zS (fl:h1) (ok:Bool) (zero:Option I) | zR (fl:h1) | AP | yJ | zK
 | yO (off:Nat) | yU (off:Nat) (a:g5) | kZ (s:Nat) | zw (len s:Nat) | ext (i:Nat)
 | other (o:Oper) (mode:Nat)
structure dP where
 dst:Option Nat
 Ge:List kr
 guard:Option (Nat×Bool)
 ip:Option Nat
 k:jy
inductive gE where
 | skip
 | ow (draw:Bool) (l:List dP)
 | seq (a b:gE)
 | cond (c:kr) (a b:gE)
 | block (id:Nat) (c:gE)
 | loop (cE:Option (List Bool)) (c:gE)
 | exit (id:Nat)
 | ret
 | AO (f:kr) (params:List Nat) (assign body:Code)
 | z8 (it:Nat) (dst:Option Nat) (l:List dP)
 | two (l1 l2:List dP)
noncomputable section
def ml (v:I) (K:I→Prop):Prop:=match v with
 | .int k n=>K (.int k n)
 | .bool b=>K (.bool b)
 | .av c n .shared=>K (.av c n .shared)
 | .av c n .full=>K (.av c n .full)
 | .av c n (.own z)=>K (.av c n (.own z))
 | .av c n (.uniq z)=>K (.av c n (.uniq z))
 | .agg cs=>K (.agg cs)
 | .ptr id off=>K (.ptr id off)
 | .bS cs=>K (.bS cs)
 | .ref id off n cap bb=>K (.ref id off n cap bb)
 | .func f a b=>K (.func f a b)
 | .yield id=>K (.yield id)
 | .map id=>K (.map id)
 | .tuple vs=>K (.tuple vs)
 | .a0=>K .a0
 | .eI=>K .eI
 | .str s=>K (.str s)
 | .raw c n z=>K (.raw c n z)
 | .cm i g n z=>K (.cm i g n z)
 | .dA=>K .dA
 | .c3 as c n z bs=>K (.c3 as c n z bs)
theorem nJ (v:I) (K:I→Prop):ml v K=K v:=by
 unfold ml;split <;> rfl
def hI:List I→Nat→(I→Prop)→Prop
 | [],_,K=>K .a0
 | h::_,0,K=>K h
 | _::t,n+1,K=>hI t n K
theorem iQ:∀ (T:List I) (t:Nat) (K:I→Prop),hI T t K=K (df T t)
 | [],t,K=>rfl
 | h::T,0,K=>rfl
 | h::T,n+1,K=>by rw [hI,iQ T n K];rfl
def jn:List I→Nat→I→(List I→Prop)→Prop
 | [],_,_,K=>K []
 | _::t,0,v,K=>K (v::t)
 | h::t,n+1,v,K=>jn t n v fun iE=>K (h::iE)
theorem kg:∀ (T:List I) (t:Nat) (v:I) (K:List I→Prop),jn T t v K=K (g2 T t v)
 | [],t,v,K=>rfl
 | h::T,0,v,K=>rfl
 | h::T,n+1,v,K=>by rw [jn,kg T n v];rfl
def m5 (T:List I) (d:Option Nat) (v:I) (K:List I→Prop):Prop:=match d with
 | some d=>jn T d v K
 | none=>K T
theorem xL (T:List I) (d:Option Nat) (v:I) (K:List I→Prop):m5 T d v K=K (put T d v):=by
 cases d with
 | none=>rfl
 | some d=>exact kg T d v K
def k0:List Bool→List I→(List I→Prop)→Prop
 | b::bs,v::vs,K=>k0 bs vs fun cY=>match b with
   | true=>K (v::cY)
   | false=>K (.a0::cY)
 | [],vs,K=>K vs
 | _::_,[],K=>K []
theorem zC:∀ (bs:List Bool) (vs:List I) (K:List I→Prop),k0 bs vs K=K (eZ bs vs)
 | [],vs,K=>by simp [k0,eZ]
 | b::bs,[],K=>by simp [k0,eZ]
 | b::bs,v::vs,K=>by rw [k0,zC bs vs];cases b <;> simp [eZ]
def ko (v:I) (K:I→Prop):Prop:=match v with
 | .av c n (.own _)=>K (.av c n .shared)
 | .av c n (.uniq _)=>K (.av c n .shared)
 | .raw _ _ _=>K .a0
 | .c3 _ _ _ _ _=>K .a0
 | .cm id _ n z=>K (.ref id 0 n none z)
 | v=>K v
theorem kp (v:I) (K:I→Prop):ko v K=K v.view:=by
 cases v with
 | av c n k=>cases k <;> rfl
 | _=>rfl
def Bk (T:List I) (t:Nat) (v:I) (K:I→List I→Prop):Prop:=match v with
 | .av c n (.uniq z)=>jn T t (.av c n (.own z)) fun g6=>K (.av c n .shared) g6
 | .av c n (.own _)=>K (.av c n .shared) T
 | .raw _ _ _=>K .a0 T
 | .c3 _ _ _ _ _=>K .a0 T
 | .cm id _ n z=>K (.ref id 0 n none z) T
 | v=>K v T
theorem Gd (T:List I) (t:Nat) (v:I) (K:I→List I→Prop):Bk T t v K=K v.view (fX T t v):=by
 cases v with
 | av c n k =>
   cases k with
   | uniq z=>exact kg _ _ _ _
   | _=>rfl
 | _=>rfl
def gq:List kr→List I→(List I→List I→Prop)→Prop
 | [],T,K=>K [] T
 | .cv v::r,T,K=>gq r T fun vs bf=>K (v::vs) bf
 | .jq t::r,T,K=>hI T t fun v=>jn T t .a0 fun g6=>gq r g6 fun vs bf=>K (v::vs) bf
 | .Bu t::r,T,K=>hI T t fun v=>ko v fun v=>jn T t .a0 fun g6=>gq r g6 fun vs bf=>K (v::vs) bf
 | .nd t::r,T,K=>hI T t fun v=>Bk T t v fun v g6=>gq r g6 fun vs bf=>K (v::vs) bf
def hU (d':Bool):List Bool→List Operand→List kr
 | _,[]=>[]
 | ts,.tmp t::rest=>(match ts.headD false,d' with | true,true=>.jq t | true,false=>.Bu t | false,_=>.nd t)::hU d' ts.tail rest
 | ts,x::rest=>.cv (match d' with | true=>az [] x | false=>(az [] x).view)::hU d' ts.tail rest
theorem ji (d':Bool):∀ (xs:List Operand) (ts:List Bool) (T:List I) (K:List I→List I→Prop),gq (hU d' ts xs) T K=K (fm d' (rd T ts xs).1) (rd T ts xs).2
 | [],ts,T,K=>by cases d' <;> simp [hU,gq,rd,fm]
 | .tmp t::rest,ts,T,K=>by
   simp only [hU];cases bE:ts.headD false with
   | true =>
     cases d' with
     | true =>
       simp only [gq,iQ,kg,rd,bE,ji true rest];rfl
     | false =>
       simp only [gq,iQ,kg,kp,rd,bE,ji false rest];rfl
   | false =>
     simp only [gq,iQ,Gd,rd,bE,ji d' rest];cases d'
     ·simp only [fm,sE,I.kq (I.dm _)]
     ·rfl
 | .const v::rest,ts,T,K=>by
   simp only [hU,gq,rd,ji d' rest];cases d' <;> rfl
 | .func v::rest,ts,T,K=>by
   simp only [hU,gq,rd,ji d' rest];cases d' <;> rfl
 | .global v::rest,ts,T,K=>by
   simp only [hU,gq,rd,ji d' rest];cases d' <;> rfl
end
end Go.Proofs.Ytkoioidpbbbaiaa.Ab


namespace Go.Proofs.Ytkoioidpbbbaiaa.Ab
open Go
noncomputable section
def eJ {α:Type}:List α→Nat→(α→Prop)→Prop
 | [],_,_=>False
 | h::_,0,K=>K h
 | _::t,n+1,K=>eJ t n K
theorem e8 {α:Type}:∀ {l:List α} {n:Nat} {K:α→Prop},eJ l n K→∃ x,l[n]?=some x∧K x
 | [],_,_,h=>h.elim
 | h::_,0,_,k=>⟨h,rfl,k⟩
 | _::t,n+1,K,k=>by simpa using e8 (l:=t) (n:=n) (K:=K) k
theorem Ex {α:Type}:∀ {l:List α} {n:Nat} {x:α} {K:α→Prop},l[n]?=some x→K x→eJ l n K
 | [],_,_,_,h,_=>by simp at h
 | h::_,0,_,_,e,k=>by simp at e;subst e;exact k
 | _::t,n+1,_,K,e,k=>Ex (l:=t) (n:=n) (by simpa using e) k
def jt:List I→Nat→I→(List I→Prop)→Prop
 | [],_,_,_=>False
 | _::t,0,v,K=>K (v::t)
 | h::t,n+1,v,K=>jt t n v fun iE=>K (h::iE)
theorem lA:∀ {l:List I} {n:Nat} {v:I} {K:List I→Prop},jt l n v K→n<l.length∧K (l.set n v)
 | [],_,_,_,h=>h.elim
 | _::_,0,_,_,k=>⟨by simp,k⟩
 | h::t,n+1,v,K,k=>by
   obtain ⟨ab,ae⟩:=lA (l:=t) (n:=n) k;exact ⟨by simpa using ab,ae⟩
theorem Gp:∀ {l:List I} {n:Nat} {v:I} {K:List I→Prop},n<l.length→K (l.set n v)→jt l n v K
 | [],_,_,_,h,_=>by simp at h
 | _::_,0,_,_,_,k=>k
 | h::t,n+1,v,K,e,k=>Gp (l:=t) (n:=n) (by simpa using e) k
def lB:List I→Nat→List I→(List I→Prop)→Prop
 | l,_,[],K=>K l
 | l,n,v::vs,K=>jt l n v fun l'=>lB l' (n+1) vs K
theorem ng:∀ {vs l:List I} {n:Nat} {K:List I→Prop},lB l n vs K→(n+vs.length≤l.length∨vs=[])∧K (setCells n vs l)
 | [],_,_,_,h=>⟨.inr rfl,h⟩
 | v::vs,l,n,K,h=>by
   obtain ⟨ab,ae⟩:=lA h;obtain ⟨aF,a_⟩:=ng ae;refine ⟨.inl ?_,a_⟩;rcases aF with aF | rfl
   ·simp only [s6] at aF;simp only [sK];omega
   ·simp only [sK,tK];omega
def ou:Nat→List I→Nat→(List I→Prop)→Prop
 | 0,_,_,K=>K []
 | s+1,l,off,K=>eJ l off fun v=>ko v fun v=>ml v fun v=>ou s l (off+1) fun vs=>K (v::vs)
theorem Am:∀ {s:Nat} {l:List I} {off:Nat} {K:List I→Prop},ou s l off K→(off+s≤l.length∨s=0)∧K (((l.drop off).take s).map I.view)
 | 0,l,off,K,h=>⟨.inr rfl,by simpa [ou] using h⟩
 | s+1,l,off,K,h=>by
   obtain ⟨v,ad,h⟩:=e8 h;rw [kp,nJ] at h;obtain ⟨ab,ae⟩:=Am h;have aR:=(sa.1 ad).1;refine ⟨.inl (by rcases ab with ab | rfl <;> omega),?_⟩;have a1:l.drop off=v::l.drop (off+1):=by
    rw [s7 aR,(sa.1 ad).2]
   rw [a1];simpa using ae
def ov:Nat→List I→Nat→(List I→Prop)→Prop
 | 0,_,_,K=>K []
 | s+1,l,off,K=>eJ l off fun v=>ml v fun v=>ov s l (off+1) fun vs=>K (v::vs)
theorem An:∀ {s:Nat} {l:List I} {off:Nat} {K:List I→Prop},ov s l off K→(off+s≤l.length∨s=0)∧K ((l.drop off).take s)
 | 0,l,off,K,h=>⟨.inr rfl,by simpa [ov] using h⟩
 | s+1,l,off,K,h=>by
   obtain ⟨v,ad,h⟩:=e8 h;rw [nJ] at h;obtain ⟨ab,ae⟩:=An h;have aR:=(sa.1 ad).1;refine ⟨.inl (by rcases ab with ab | rfl <;> omega),?_⟩;have a1:l.drop off=v::l.drop (off+1):=by
    rw [s7 aR,(sa.1 ad).2]
   rw [a1];simpa using ae
def mO (a:g5) (l:List I) (off:Nat) (K:I→Prop):Prop:=match a with
 | .one=>eJ l off fun v=>ko v K
 | .str s=>ou s l off fun vs=>K (.agg vs)
 | .arr s=>off+s≤l.length∧K (.agg (((l.drop off).take s).map I.view))
def Ai (a:g5) (l:List I) (off:Nat) (K:I→Prop):Prop:=match a with
 | .one=>eJ l off fun v=>ko v K
 | .str s=>ov s l off fun vs=>K (.agg vs)
 | .arr s=>off+s≤l.length∧K (.agg ((l.drop off).take s))
def iL (P:Program) (t:TypeId):Option g5:=match dK P t,P.underlying t with
 | true,some (.struct _)=>(match bF P t with | some (s+1)=>some (.str (s+1)) | _=>none)
 | true,_=>(bF P t).map .arr
 | false,some _=>some .one
 | false,none=>none
section
variable {P:Program}
theorem yt {t:TypeId} {a:g5} (h:iL P t=some a):(a=.one∧dK P t=false∧∃ d,P.underlying t=some d)∨(∃ s,(a=.str (s+1)∧bF P t=some (s+1)∨a=.arr s∧bF P t=some s)∧dK P t=true):=by
 unfold iL at h;split at h
 ·rename_i ab _;split at h
  ·rename_i s ah;cases h;exact .inr ⟨_,.inl ⟨rfl,ah⟩,ab⟩
  ·cases h
 ·rename_i ab _;simp only [r_] at h;obtain ⟨s,ah,rfl⟩:=h;exact .inr ⟨s,.inr ⟨rfl,ah⟩,ab⟩
 ·rename_i d ab ae;cases h;exact .inl ⟨rfl,ab,d,ae⟩
 ·cases h
theorem n5 {t:TypeId} {a:g5} (cu:iL P t=some a) {l:List I} {off:Nat} {K:I→Prop} (h:mO a l off K):∃ v,e6 P t l off=some v∧K v:=by
 rcases yt cu with ⟨rfl,ab,d,ae⟩ | ⟨s,ae,ab⟩
 ·obtain ⟨v,ad,h⟩:=e8 h;rw [kp] at h;exact ⟨v.view,by simp [e6,ab,ae,ad],h⟩
 ·rcases ae with ⟨rfl,ae⟩ | ⟨rfl,ae⟩
  ·obtain ⟨aJ,aN⟩:=Am h;exact ⟨_,by simp only [e6,ab,ae,sb];rw [if_pos (by omega)],aN⟩
  ·exact ⟨_,by simp only [e6,ab,ae,sb];rw [if_pos h.1],h.2⟩
theorem EM {t:TypeId} {a:g5} (cu:iL P t=some a) {l:List I} {off:Nat} {K:I→Prop} (h:Ai a l off K):∃ v,iK P t l off=some v∧K v.view:=by
 rcases yt cu with ⟨rfl,ab,d,ae⟩ | ⟨s,ae,ab⟩
 ·obtain ⟨v,ad,h⟩:=e8 h;rw [kp] at h;exact ⟨v,by simp [iK,ab,ae,ad],h⟩
 ·rcases ae with ⟨rfl,ae⟩ | ⟨rfl,ae⟩
  ·obtain ⟨aJ,aN⟩:=An h;exact ⟨_,by simp only [iK,ab,ae,sb];rw [if_pos (by omega)],show K (I.view (.agg _)) from aN⟩
  ·exact ⟨_,by simp only [iK,ab,ae,sb];rw [if_pos h.1],show K (I.view (.agg _)) from h.2⟩
end
def oJ (v:I) (K:I→Prop):Prop:=match v with
 | .av c n (.uniq z)=>K (.av c n (.own z))
 | v=>K v
theorem ya (v:I) (K:I→Prop):oJ v K=K v.settle:=by
 cases v with
 | av c n k=>cases k <;> rfl
 | _=>rfl
def kx (v:I) (nk:I→Prop) (nm:List I→Prop):Prop:=match v with
 | .agg vc=>nm vc
 | .a0=>False
 | .tuple _=>False
 | .raw _ _ _=>False
 | .c3 _ _ _ _ _=>False
 | v=>nk v
theorem lV {v:I} {nk:I→Prop} {nm:List I→Prop} (h:kx v nk nm):(v.cells=some [v]∧nk v)∨∃ vc,v.cells=some vc∧v=.agg vc∧nm vc:=by
 cases v <;> first | exact .inl ⟨rfl,h⟩ | exact h.elim | exact .inr ⟨_,rfl,rfl,h⟩
def gd:List (Nat×Nat)→List I→List I→(List I→Prop)→Prop
 | [],[],cs,K=>K cs
 | (off,size)::bq,v::vs,cs,K=>kx v (fun v=>match Nat.beq size 1 with | true=>jt cs off v fun cs=>gd bq vs cs K | false=>False) (fun vc=>match Nat.beq vc.length size,Nat.blt 0 size with | true,true=>lB cs off vc fun cs=>gd bq vs cs K | _,_=>False)
 | _,_,_,_=>False
theorem iO {place:Nat→Option (Nat×Nat)}:∀ {ix:List Nat} {bq:List (Nat×Nat)} {vs cs:List I} {K:List I→Prop},gd bq vs cs K→ix.map place=bq.map some →
  ∃ c_,fC place cs (ix.zip vs)=some c_∧K c_
 | [],[],[],cs,K,h,_=>⟨cs,rfl,h⟩
 | i::ix,(off,size)::bq,v::vs,cs,K,h,aB=>by
   simp only [sE,List.cons.injEq] at aB;obtain ⟨fN,j0⟩:=aB;simp only [gd] at h;simp only [vr,fC,fN];rcases lV h with ⟨ab,h⟩ | ⟨vc,ab,_,h⟩
   ·split at h
    ·rename_i ae;have ae:=sN ae;obtain ⟨aF,h⟩:=lA h;obtain ⟨c_,q1,aW⟩:=iO h j0;subst ae;exact ⟨c_,by simp only [ab];rw [if_pos ⟨rfl,by omega⟩];exact q1,aW⟩
    ·exact h.elim
   ·split at h
    ·rename_i ae a_;have ae:=sN ae;(have a_:0<size:=by simpa [sR] using a_);obtain ⟨aF,h⟩:=ng h;obtain ⟨c_,q1,aW⟩:=iO h j0;have bP:off+size≤cs.length:=by
      rcases aF with aF | aF
      ·omega
      ·rw [aF] at ae;simp only [tK] at ae;omega
     refine ⟨c_,?_,aW⟩;simp only [ab];rw [if_pos ⟨ae,bP⟩];exact q1
    ·exact h.elim
 | [],_::_,_,_,_,_,aB=>by simp at aB
 | _::_,[],_,_,_,_,aB=>by simp at aB
 | [],[],_::_,_,_,h,_=>h.elim
 | _::_,_::_,[],_,_,h,_=>h.elim
def Ba:BinOp→Bool
 | .shl=>true
 | .shr=>true
 | _=>false
theorem FD {op:BinOp} {k k':IntKind} (h:(decide (k=k') || Ba op)=true):k=k'∨op=.shl∨op=.shr:=by
 rw [tt] at h;rcases h with h | h
 ·exact .inl (of_decide_eq_true h)
 ·cases op <;> first | exact .inr (.inl rfl) | exact .inr (.inr rfl) | cases h
def o3 (op:BinOp) (k:IntKind) (a b:Int) (K:I→Prop):Prop:=match op with
 | .add=>K (.int k (k.wrap (a+b)))
 | .sub=>K (.int k (k.wrap (a-b)))
 | .mul=>K (.int k (k.wrap (a*b)))
 | .quo=>b≠0∧K (.int k (k.wrap (a.tdiv b)))
 | .rem=>b≠0∧K (.int k (a.tmod b))
 | .eql=>K (.bool (decide (a=b)))
 | .neq=>K (.bool (decide (a≠b)))
 | .lss=>K (.bool (decide (a<b)))
 | .leq=>K (.bool (decide (a≤b)))
 | .gtr=>K (.bool (decide (b<a)))
 | .geq=>K (.bool (decide (b≤a)))
 | .and=>K (.int k (k.wrap (BitVec.ofInt k.bits a &&& BitVec.ofInt k.bits b).toNat))
 | .or=>K (.int k (k.wrap (BitVec.ofInt k.bits a ||| BitVec.ofInt k.bits b).toNat))
 | .xor=>K (.int k (k.wrap (BitVec.ofInt k.bits a ^^^ BitVec.ofInt k.bits b).toNat))
 | .shl=>0≤b∧K (.int k (k.wrap (a*2 ^ (Nat.min b.toNat k.bits))))
 | .shr=>0≤b∧K (.int k (a.fdiv (2 ^ (Nat.min b.toNat k.bits))))
 | _=>False
section
variable {P:Program}
theorem BP (op:BinOp) (t:TypeId) (k k':IntKind) (a b:Int):fo P op t (.int k a) (.int k' b)=match op with
  | .shl=>hG .shl k a b
  | .shr=>hG .shr k a b
  | op=>if k=k' then jB op k a b else none:=by cases op <;> rfl
theorem B4 {op:BinOp} {t:TypeId} {k k':IntKind} {a b:Int} {K:I→Prop} (al:k=k'∨op=.shl∨op=.shr) (h:o3 op k a b K):∃ v,fo P op t (.int k a) (.int k' b)=some v∧K v:=by
 rw [BP];cases op <;> simp only [o3] at h <;> try exact h.elim
 case shl=>exact ⟨_,by simp only [hG];rw [if_neg (by omega)],h.2⟩
 case shr=>exact ⟨_,by simp only [hG];rw [if_neg (by omega)],h.2⟩
 all_goals (obtain rfl:k=k':=by rcases al with al | al | al <;> first | exact al | cases al)
 all_goals simp only [if_true,jB]
 case quo=>exact ⟨_,by rw [if_neg h.1],h.2⟩
 case rem=>exact ⟨_,by rw [if_neg h.1],h.2⟩
 case neq =>
  have e:(a != b)=decide (a≠b):=by by_cases jM:a=b <;> simp [jM]
  exact ⟨_,rfl,by rw [e];exact h⟩
 case eql=>exact ⟨_,rfl,h⟩
 all_goals exact ⟨_,rfl,h⟩
end
end
end Go.Proofs.Ytkoioidpbbbaiaa.Ab


namespace Go.Proofs.Ytkoioidpbbbaiaa.Ab
open Go
noncomputable section
def x5 (v:I) (H:List ar) (K:I→List ar→Prop):Prop:=match v with
 | .av cells len (.uniq z)=>(len≠0∧K (.ref H.length 0 len none z) (H++[.cells cells]))∨(len=0∧K (.av cells len (.uniq z)) H)
 | .av [] 0 .full=>K (.av [] 0 .full) H
 | .ref id off len cap bb=>K (.ref id off len cap bb) H
 | _=>False
def xY (a:g5) (v:I) (H:List ar) (K:I→List ar→Prop):Prop:=match v with
 | .ptr id off=>eJ H id fun o=>match o with | .cells l=>mO a l off fun v=>K v H | .grow l _ _=>mO a l off fun v=>K v H | _=>False
 | .bS cells=>mO a cells 0 fun v=>K v H
 | _=>False
def x3 (lo:Nat) (v:I) (H:List ar) (K:I→List ar→Prop):Prop:=match v with
 | .ptr id off=>match Nat.ble lo id with
   | true=>eJ H id fun o=>match o with
     | .cells l=>(eJ l off fun v=>match v with | .av c n (.own z)=>K (.av c n (.own z)) (H.set id (.cells (l.set off (.av c n .shared)))) | .av c n .full=>K (.av c n .full) H | .raw c n z=>K (.av c n (.uniq z)) (H.set id (.cells (l.set off .a0))) | _=>False)
     | .grow l g cX=>(eJ l off fun v=>match v with | .av c n (.own z)=>K (.av c n (.own z)) (H.set id (.grow (l.set off (.av c n .shared)) g cX)) | .av c n .full=>K (.av c n .full) H | _=>False)
     | _=>False
   | false=>False
 | _=>False
def x4 (lo:Nat) (v:I) (H:List ar) (K:I→List ar→Prop):Prop:=match v with
 | .ptr id off=>match Nat.ble lo id with
   | true=>eJ H id fun o=>match o with | .cells l=>(eJ l off fun v=>match v with | .raw c n z=>n≠0∧K (.ref H.length 0 n none z) (H.set id (.cells (l.set off (.ref H.length 0 n none z)))++[.cells c]) | .av c n .full=>K (.av c n .full) H | _=>False) | _=>False
   | false=>False
 | _=>False
def x2 (lo:Nat) (p v:I) (H:List ar) (K:I→List ar→Prop):Prop:=match p with
 | .ptr id off=>match Nat.ble lo id with
   | true=>eJ H id fun o=>match o with
     | .cells l=>(match v with | .av c n (.uniq z)=>c.all g1=true∧n≠0∧jt l off (.raw c n z) fun l'=>K .a0 (H.set id (.cells l')) | _=>False)
     | _=>False
   | false=>False
 | _=>False
def x1 (lo s:Nat) (p v:I) (H:List ar) (K:I→List ar→Prop):Prop:=match p with
 | .ptr id off=>match Nat.ble lo id with
   | true=>eJ H id fun o=>match o with
     | .cells l=>(match v with | .c3 as c n z bs=>(match Nat.beq (as.length+1+bs.length) s with | true=>lB l off (as++.av c n (.own z)::bs) fun l'=>K .a0 (H.set id (.cells l')) | false=>False) | _=>False)
     | _=>False
   | false=>False
 | _=>False
def xX (k:Nat) (z:List I) (bq:List (Nat×Nat)) (vs:List I) (H:List ar) (K:I→List ar→Prop):Prop:=match vs.drop k,bq.drop k with
 | .av c n (.own s)::post,(off,1)::dO=>match (vs.take k).all I.plain && post.all I.plain && dO.all fun p=>Nat.blt off p.1 || Nat.ble (p.1+p.2) off with
   | true=>gd (bq.take k) (vs.take k) z fun eR=>match Nat.blt off eR.length with
     | true=>gd dO post (eR.set off .a0) fun ed=>K (.c3 (ed.take off) c n s (ed.drop (off+1))) H
     | false=>False
   | false=>False
 | .av c n (.uniq s)::post,(off,1)::dO=>match (vs.take k).all I.plain && post.all I.plain && dO.all fun p=>Nat.blt off p.1 || Nat.ble (p.1+p.2) off with
   | true=>gd (bq.take k) (vs.take k) z fun eR=>match Nat.blt off eR.length with
     | true=>gd dO post (eR.set off .a0) fun ed=>K (.c3 (ed.take off) c n s (ed.drop (off+1))) H
     | false=>False
   | false=>False
 | _,_=>False
def x0 (lo s:Nat) (p v:I) (H:List ar) (K:I→List ar→Prop):Prop:=match p with
 | .ptr id off=>match Nat.ble lo id with
   | true=>eJ H id fun o=>match o with
     | .cells l=>kx v (fun v=>match Nat.beq s 1 with | true=>oJ v fun v=>jt l off v fun l'=>K .a0 (H.set id (.cells l')) | false=>False) (fun vc=>match Nat.beq vc.length s,Nat.blt 0 s with | true,true=>lB l off (vc.map I.settle) fun l'=>K .a0 (H.set id (.cells l')) | _,_=>False)
     | .grow l g z=>kx v (fun v=>match Nat.beq s 1 with | true=>oJ v fun v=>jt l off v fun l'=>K .a0 (H.set id (.grow l' g z)) | false=>False) (fun vc=>match Nat.beq vc.length s,Nat.blt 0 s with | true,true=>lB l off (vc.map I.settle) fun l'=>K .a0 (H.set id (.grow l' g z)) | _,_=>False)
     | _=>False
   | false=>False
 | _=>False
def xV (v:I) (H:List ar) (K:I→List ar→Prop):Prop :=
 kx v (fun v=>oJ v fun v=>K (.ptr H.length 0) (H++[.cells [v]])) (fun vc=>K (.ptr H.length 0) (H++[.cells (vc.map I.settle)]))
def xW (v:I) (H:List ar) (K:I→List ar→Prop):Prop :=
 kx v (fun v=>v.plain=true∧K (.bS [v]) H) (fun vc=>vc.all I.plain=true∧K (.bS vc) H)
def xB:List I→Int→(Int→Prop)→Prop
 | [],a,K=>K a
 | .int _ b::r,a,K=>xB r (min a b) K
 | _::_,_,_=>False
def xA:List I→Int→(Int→Prop)→Prop
 | [],a,K=>K a
 | .int _ b::r,a,K=>xA r (max a b) K
 | _::_,_,_=>False
def xU (lo s bytes:Nat) (x y:I) (H:List ar) (K:I→List ar→Prop):Prop:=match y with
 | .av new m _=>(new.length=m*s∧m*bytes≤140737488355328)∧match x with
   | .av cells n .full=>(m≠0∧(n+m)*bytes≤140737488355328∧cells.length=n*s)∧K (.cm H.length (H.length+1) (n+m) s) (H++[.grow (cells++new) (H.length+1) s,.dead])
   | .av cells n (.uniq z)=>(z=s∧m≠0∧(n+m)*bytes≤140737488355328)∧K (.cm H.length (H.length+1) (n+m) z) (H++[.grow (cells++new) (H.length+1) z,.dead])
   | .cm id gid n z=>match Nat.ble lo id with
     | true=>eJ H id fun o=>match o with
       | .grow l g cX=>((g=gid∧cX=z∧z=s∧l.length=n*z∧0<m∧(n+m)*bytes≤140737488355328)∧K (.cm H.length (H.length+1) (n+m) z) (H.set id .dead++[.grow (l++new) (H.length+1) z,.dead])) ∨
         ((g=gid∧cX=z∧z=s∧n*z<l.length∧0<m∧(n+m)*bytes≤140737488355328)∧K (.cm H.length (H.length+1) (n+m) z) (H.set id .dead++[.grow (l.take (n*z)++new) (H.length+1) z,.dead]))
       | _=>False
     | false=>False
   | _=>False
 | _=>False
def AL (z:List I) (s bytes:Nat) (a b:I) (H:List ar) (K:I→List ar→Prop):Prop:=match a,b with
 | .int _ n,.int _ c=>0≤n∧n≤c∧c.toNat*bytes≤140737488355328∧K (.ref H.length 0 n.toNat (some c.toNat) s) (H++[.cells (e_ c.toNat z)])
 | _,_=>False
def AK (z:List I) (s bytes:Nat) (a b:I) (H:List ar) (K:I→List ar→Prop):Prop:=match a,b with
 | .int _ n,.int _ c=>n=c∧0≤n∧c.toNat*bytes≤140737488355328∧K (.av (e_ c.toNat z) n.toNat (.uniq s)) H
 | _,_=>False
def AG (v:I) (H:List ar) (K:I→List ar→Prop):Prop:=match v with
 | .av _ n _=>K (.int .i64 n) H
 | .ref _ _ n _ _=>K (.int .i64 n) H
 | _=>False
def oE (s bytes:Nat) (x:I) (new:List I) (m:Nat) (H:List ar) (K:I→List ar→Prop):Prop:=new.length=m*s∧m*bytes≤140737488355328∧match x with
    | .av cells n .shared=>m=0∧K (.av cells n .shared) H
    | .av cells n .full=>m≠0∧(n+m)*bytes≤140737488355328∧cells.length=n*s∧K (.av (cells++new) (n+m) (.uniq s)) H
    | .av cells n (.own z)=>z=s∧(n+m)*bytes≤140737488355328∧K (.av (cells++new) (n+m) (.own z)) H
    | .av cells n (.uniq z)=>z=s∧(n+m)*bytes≤140737488355328∧K (.av (cells++new) (n+m) (.uniq z)) H
    | _=>False
def oD (s bytes:Nat) (x y:I) (H:List ar) (K:I→List ar→Prop):Prop:=match y with
 | .av new m _=>oE s bytes x new m H K
 | .ref id off m _ z=>eJ H id fun o=>match o with
   | .cells l=>off+m*z≤l.length∧oE s bytes x (((l.drop off).take (m*z)).map I.view) m H K
   | _=>False
 | _=>False
def xZ (s:Nat) (l h m:Bool) (x:I) (vs:List I) (H:List ar) (K:I→List ar→Prop):Prop:=match x with
 | .av cells n c=>match l,h,m,vs with
   | false,false,false,[]=>match c with
     | .uniq z=>K (.av (cells.take (n*z)) n (.uniq z)) H
     | .shared=>K (.av (cells.take (n*s)) n .shared) H
     | _=>False
   | true,false,false,[.int _ i]=>match c with
     | .own z=>(s=z∧0≤i∧i≤n)∧K (.av (cells.drop (i.toNat*z)) (n-i.toNat) (.own z)) H
     | .shared | .uniq _=>(0≤i∧i≤n)∧K (.av ((cells.drop (i.toNat*s)).take ((n-i.toNat)*s)) (n-i.toNat) .shared) H
     | _=>False
   | false,true,false,[.int _ j]=>match c with
     | .uniq z=>(0≤j∧j≤n)∧K (.av (cells.take (j.toNat*z)) j.toNat (.uniq z)) H
     | .shared | .own _=>(0≤j∧j≤n)∧K (.av (cells.take (j.toNat*s)) j.toNat .shared) H
     | _=>False
   | true,true,false,[.int _ i,.int _ j]=>match c with
     | .shared | .own _ | .uniq _=>(0≤i∧i≤j∧j≤n)∧K (.av ((cells.drop (i.toNat*s)).take ((j.toNat-i.toNat)*s)) (j.toNat-i.toNat) .shared) H
     | _=>False
   | false,true,true,[.int _ j,.int _ k]=>(j=k∧0≤j∧j≤n)∧K (.av (cells.take (j.toNat*s)) j.toNat .full) H
   | true,true,true,[.int _ i,.int _ j,.int _ k]=>(j=k∧0≤i∧i≤j∧j≤n)∧K (.av ((cells.drop (i.toNat*s)).take ((j.toNat-i.toNat)*s)) (j.toNat-i.toNat) .full) H
   | _,_,_,_=>False
 | .ref id off n cap bb=>match l,h,m,vs with
   | true,false,false,[.int _ i]=>bb=s∧(0≤i∧i≤n)∧(i<n→K (.ref id (off+i.toNat*s) (n-i.toNat) (cap.map (·-i.toNat)) bb) H)∧(i=n→K (.av [] 0 .shared) H)
   | false,true,false,[.int _ j]=>bb=s∧(0≤j∧j≤n∧0<n)∧K (.ref id off j.toNat cap bb) H
   | _,_,_,_=>False
 | .cm id gid n z=>match l,h,m,vs with
   | false,true,false,[.int _ j]=>(0≤j∧j≤n)∧K (.cm id gid j.toNat z) H
   | _,_,_,_=>False
 | _=>False
def AB (off:Nat) (v:I) (H:List ar) (K:I→List ar→Prop):Prop:=match v with
 | .ptr id o=>K (.ptr id (o+off)) H
 | .bS cells=>K (.bS (cells.drop off)) H
 | _=>False
def AD (s:Nat) (x i:I) (H:List ar) (K:I→List ar→Prop):Prop:=match i with
 | .int _ n=>match x with
   | .av cells len _=>(0≤n∧n<len)∧K (.bS (cells.drop (n.toNat*s))) H
   | .ref id off len _ _=>(0≤n∧n<len)∧K (.ptr id (off+n.toNat*s)) H
   | _=>False
 | _=>False
def AE (len s:Nat) (x i:I) (H:List ar) (K:I→List ar→Prop):Prop:=match i with
 | .int _ n=>match x with
   | .ptr id off=>(0≤n∧n<len)∧K (.ptr id (off+n.toNat*s)) H
   | .bS cells=>(0≤n∧n<len)∧K (.bS (cells.drop (n.toNat*s))) H
   | _=>False
 | _=>False
def k1 (fl:h1) (k:I):Prop:=match fl,k with
 | .int q,.int fW _=>q=fW
 | .str n,.agg cs=>cs.length=n
 | _,_=>False
def AJ (lo:Nat) (fl:h1) (m k v:I) (H:List ar) (K:I→List ar→Prop):Prop:=match m with
 | .map id=>match Nat.ble lo id with
   | true=>k1 fl k∧∃ es clock,H[id]?=some (.map es clock)∧∃ r,fH k es 0=some r∧(match r with
     | some i=>K .a0 (H.set id (.map (es.modify i fun e=>(e.1,k,v)) clock))
     | none=>K .a0 (H.set id (.map (es++[(clock,k,v)]) (clock+1))))
   | false=>False
 | _=>False
def AI (fl:h1) (ok:Bool) (zero:Option I) (m k:I) (H:List ar) (K:I→List ar→Prop):Prop:=match m with
 | .map id=>k1 fl k∧∃ es clock,H[id]?=some (.map es clock)∧∃ r,fH k es 0=some r∧(match r with
   | some i=>∃ e,es[i]?=some e∧(match ok with | true=>K (.tuple [e.2.2,.bool true]) H | false=>K e.2.2 H)
   | none=>∃ z,zero=some z∧(match ok with | true=>K (.tuple [z,.bool false]) H | false=>K z H))
 | _=>False
def AH (lo:Nat) (fl:h1) (m k:I) (H:List ar) (K:I→List ar→Prop):Prop:=match m with
 | .map id=>match Nat.ble lo id with
   | true=>k1 fl k∧∃ es clock,H[id]?=some (.map es clock)∧∃ r,fH k es 0=some r∧(match r with
     | some i=>K (.tuple []) (H.set id (.map (es.eraseIdx i) clock))
     | none=>K (.tuple []) H)
   | false=>False
 | _=>False
def AM (m:I) (H:List ar) (K:I→List ar→Prop):Prop:=match m with
 | .map id=>∃ es clock,H[id]?=some (.map es clock)∧K (.ptr H.length 0) (H++[.iter id clock [] clock])
 | _=>False
def AA (p:I) (H:List ar) (K:I→List ar→Prop):Prop:=match p with
 | .ptr r 0=>∃ m since seen clock gr es e,H[r]?=some (.iter m since seen clock)∧seen.getLast?=some gr∧H[m]?=some (.map es clock)∧es.find? (fun e=>e.1 == gr)=some e∧K (.tuple [e.2.1,e.2.2]) H
 | _=>False
def AF (m:I) (H:List ar) (K:I→List ar→Prop):Prop:=match m with
 | .map id=>∃ es clock,H[id]?=some (.map es clock)∧K (.int .i64 es.length) H
 | _=>False
def bO (P:Program) (lo:Nat) (k:jy) (vs:List I) (H:List ar) (K:I→List ar→Prop):Prop:=match k with
 | .mV=>match vs with | [v]=>K v H | _=>False
 | .nil z=>match vs with | [_]=>K (.av [] 0 (.uniq z)) H | _=>False
 | .Bs=>match vs with | [v]=>x5 v H K | _=>False
 | .zG a=>match vs with | [v]=>xY a v H K | _=>False
 | .zH a=>match vs with | [.bS cells]=>mO a cells 0 fun v=>K v H | _=>False
 | .take=>match vs with | [v]=>x3 lo v H K | _=>False
 | .Br=>match vs with | [v]=>x4 lo v H K | _=>False
 | .Bm=>match vs with | [p,v]=>x2 lo p v H K | _=>False
 | .Bl s=>match vs with | [p,v]=>x1 lo s p v H K | _=>False
 | .st s=>match vs with | [p,v]=>x0 lo s p v H K | _=>False
 | .box=>match vs with | [v]=>xV v H K | _=>False
 | .yA=>match vs with | [v]=>xW v H K | _=>False
 | .alloc z=>K (.ptr H.length 0) (H++[.cells z])
 | .z3 z s bytes=>match vs with | [a,b]=>AL z s bytes a b H K | _=>False
 | .z2 z s bytes=>match vs with | [a,b]=>AK z s bytes a b H K | _=>False
 | .zL=>match vs with | [v]=>AG v H K | _=>False
 | .zJ n=>match vs with | [.av _ _ _] | [.ref _ _ _ _ _] | [.map _]=>False | [_]=>K (.int .i64 n) H | _=>False
 | .min=>match vs with | .int k a::r=>xB r a fun n=>K (.int k n) H | _=>False
 | .max=>match vs with | .int k a::r=>xA r a fun n=>K (.int k n) H | _=>False
 | .app s bytes=>match vs with | [x,y]=>oD s bytes x y H K | _=>False
 | .yu s bytes=>match vs with | [x,y]=>xU lo s bytes x y H K | _=>False
 | .yv s bytes=>match vs with
   | [x,y]=>oD s bytes x y H fun v H'=>match v with
     | .av cells n (.uniq z)=>n≠0∧K (.ref H.length 0 n none z) (H++[.cells cells])
     | _=>False
   | _=>False
 | .call _=>False
 | .pick=>match vs with | [.bool c,a,b]=>(match c with | true=>K a H | false=>K b H) | _=>False
 | .build z bq=>gd bq vs z fun cs=>K (.agg cs) H
 | .yC k z bq=>xX k z bq vs H K
 | .yD len s z ix=>gd (ix.map fun i=>(i*s,s)) vs (e_ len z) fun cs=>K (.av cs len (.uniq s)) H
 | .yB len s z ix=>gd (ix.map fun i=>(i*s,s)) vs (e_ len z) fun cs=>K (.av cs len .full) H
 | .z6=>match vs with | [.ptr id off]=>K (.ptr id off) H | [.bS cells]=>K (.bS cells) H | _=>False
 | .bin op=>match vs with | [.int k a,.int k' b]=>(match decide (k=k') || Ba op with | true=>o3 op k a b fun v=>K v H | false=>False) | _=>False
 | .o4 neq=>match vs with | [.bool a,.bool b]=>(match neq with | true=>K (.bool (!(a == b))) H | false=>K (.bool (a == b)) H) | _=>False
 | .un op=>match vs with
   | [.bool b]=>(match op with | .not=>K (.bool !b) H | _=>False)
   | [.int k n]=>(match op with | .neg=>K (.int k (k.wrap (-n))) H | _=>False)
   | _=>False
 | .conv k=>match vs with | [.int _ n]=>K (.int k (k.wrap n)) H | _=>False
 | .z0 f n m=>(match Nat.beq vs.length (n+m) with | true=>K (.func f (vs.take n) (vs.drop n)) H | false=>False)
 | .Bj s l h m=>match vs with | x::vs=>xZ s l h m x vs H K | _=>False
 | .z1=>K (.map H.length) (H++[.map [] 0])
 | .zT fl=>match vs with | [m,k,v]=>AJ lo fl m k v H K | _=>False
 | .zS fl ok z=>match vs with | [m,k]=>AI fl ok z m k H K | _=>False
 | .zR fl=>match vs with | [m,k]=>AH lo fl m k H K | _=>False
 | .AP=>match vs with | [m]=>AM m H K | _=>False
 | .yJ=>match vs with | [m]=>AA m H K | _=>False
 | .zK=>match vs with | [m]=>AF m H K | _=>False
 | .yO off=>match vs with | [v]=>AB off v H K | _=>False
 | .yU off a=>match vs with | [.agg cs]=>Ai a cs off fun v=>K v H | _=>False
 | .kZ s=>match vs with | [x,i]=>AD s x i H K | _=>False
 | .zw len s=>match vs with | [x,i]=>AE len s x i H K | _=>False
 | .ext i=>match vs with | [.tuple ws]=>(eJ ws i fun v=>ko v fun v=>K v H) | _=>False
 | .other o mode=>∃ v H',(∀ C,a3 P C lo o mode vs H=some (v,H'))∧K v H'
def oA (P:Program) (o:Oper) (mode:Nat) (x:Operand):jy:=match mode with
 | 0=>match iZ x,P.underlying o.type with
   | true,some (.slice e)=>(match bF P e with | some z=>.nil z | none=>.other o mode)
   | _,_=>.mV
 | 1=>.Bs
 | _=>.other o mode
def mM (P:Program) (t:TypeId):Option (h1×TypeId):=match j7 P t with
 | some (k,e)=>(match P.underlying k with
   | some (.int q)=>some (.int q,e)
   | some (.struct fs)=>some (.str fs.size,e)
   | _=>none)
 | none=>none
def gZ (P:Program) (o:Oper) (mode:Nat):jy:=match o.op with
 | .move x | .assign x=>oA P o mode x
 | .load t _=>match mode with
   | 0=>(match iL P t with | some a=>.zG a | none=>.other o mode)
   | 2=>(match P.underlying t with | some (.slice _)=>.Br | _=>.other o mode)
   | 3=>(match iL P t with | some a=>.zH a | none=>.other o mode)
   | 1=>match P.underlying t with | some (.slice _)=>.take | _=>.other o mode
   | _=>.other o mode
 | .store t _ _=>match mode,bF P t with | 0,some s=>.st s | 2,some s=>.Bl s | 1,some 1=>.Bm | _,_=>.other o mode
 | .box _ _=>match mode with | 0=>.box | _=>.yA
 | .alloc t=>match mode with
   | 0=>(match zeroCells P t with | some z=>.alloc z | none=>.other o mode)
   | _=>(match zeroCells P t,P.underlying t with
     | some [.av [] 0 .full],some (.slice e)=>(match bF P e with | some s=>.alloc [.av [] 0 (.own s)] | none=>.other o mode)
     | _,_=>.other o mode)
 | .makeSlice t _ _=>match mode,P.underlying t with
   | 0,some (.slice e)=>(match bF P e,zeroCells P e,(P.info? e).map (·.bytes) with
     | some s,some z,some bytes=>(match Nat.beq z.length s && Nat.blt 0 s && Nat.ble 1 bytes with | true=>.z3 z s bytes | false=>.other o mode)
     | _,_,_=>.other o mode)
   | _+1,some (.slice e)=>(match bF P e,zeroCells P e,(P.info? e).map (·.bytes) with
     | some s,some z,some bytes=>(match Nat.beq z.length s && Nat.blt 0 s && Nat.ble 1 bytes with | true=>.z2 z s bytes | false=>.other o mode)
     | _,_,_=>.other o mode)
   | _,_=>.other o mode
 | .call c=>match c.callee with
   | .builtin b=>match b with
     | .len=>(match i_ P c.argTypes[0]? with
       | true=>.zL
       | false=>match (c.argTypes[0]?).bind P.underlying with | some (.array n _)=>.zJ n | some (.map _ _)=>.zK | _=>.other o mode)
     | .delete=>(match (c.argTypes[0]?).bind (mM P) with | some x=>.zR x.1 | none=>.other o mode)
     | .min=>.min
     | .max=>.max
     | .append=>(match c.argTypes.toList with
       | [t,dn]=>(match Nat.beq t dn,P.underlying t with
         | true,some (.slice e)=>(match bF P e,zeroCells P e,(P.info? e).map (·.bytes) with
           | some s,some z,some bytes=>(match Nat.beq z.length s && Nat.blt 0 s && Nat.ble 1 bytes,mode with | true,0=>.app s bytes | true,2=>.yv s bytes | true,_=>.yu s bytes | false,_=>.other o mode)
           | _,_,_=>.other o mode)
         | _,_=>.other o mode)
       | _=>.other o mode)
     | _=>.other o mode
   | .value _=>.call mode
   | .invoke _ _=>.other o mode
 | .makeMap t r=>match r,P.underlying t with | none,some (.map _ _)=>.z1 | _,_=>.other o mode
 | .mapUpdate t _ _ _=>match mM P t with | some x=>.zT x.1 | none=>.other o mode
 | .lookup t _ _ ok=>match mM P t with | some x=>.zS x.1 ok (oV P x.2) | none=>.other o mode
 | .range t _=>match P.underlying t with | some (.map _ _)=>.AP | _=>.other o mode
 | .entry _=>.yJ
 | .pick _ _ _=>.pick
 | .build t parts=>match zeroCells P t,P.underlying t with
   | some z,some (.struct fs)=>(match fs.toList.all (fun f=>(bF P f.type).isSome),mS (fun i=>(fs[i]?).bind fun f=>(bF P f.type).map fun s=>(f.offset,s)) (parts.toList.map (·.1)) with
     | true,some bq=>(match mode with | 0=>.build z bq | k+1=>.yC k z bq)
     | _,_=>.other o mode)
   | some z,some (.array _ e)=>(match bF P e,mode with | some s,0=>.build z (parts.toList.map fun p=>(p.1*s,s)) | _,_=>.other o mode)
   | _,_=>.other o mode
 | .buildSlice t len parts=>match P.underlying t with
   | some (.slice e)=>(match bF P e,zeroCells P e with
     | some s,some z=>(match Nat.beq z.length s && Nat.blt 0 s && Nat.ble (len*s) 16777216,mode with | true,0=>.yD len s z (parts.toList.map (·.1)) | true,_=>.yB len s z (parts.toList.map (·.1)) | false,_=>.other o mode)
     | _,_=>.other o mode)
   | _=>.other o mode
 | .nilCheck _=>.z6
 | .binOp op t _ y _=>match iZ y,P.underlying t with
   | false,some (.int _)=>.bin op
   | false,some .bool=>(match op with | .eql=>.o4 false | .neq=>.o4 true | _=>.other o mode)
   | _,_=>.other o mode
 | .unOp op _ _=>.un op
 | .convert src dst _=>match P.underlying src,P.underlying dst with
   | some _,some (.int k)=>.conv k
   | _,_=>.other o mode
 | .makeFunc fn first captured=>match fn with | .func f=>.z0 f first.size captured.size | _=>.other o mode
 | .slice t _ l h m=>match P.underlying t with
   | some (.slice e)=>(match bF P e with | some s=>.Bj s l.isSome h.isSome m.isSome | none=>.other o mode)
   | _=>.other o mode
 | .fieldAddr t _ f=>match P.underlying t with
   | some (.struct fs)=>(match (fs[f]?).bind fun g=>(bF P g.type).map fun s=>(s,g.offset) with
     | some (s+1,off)=>.yO off
     | _=>.other o mode)
   | _=>.other o mode
 | .field t _ f=>match P.underlying t with
   | some (.struct fs)=>(match (fs[f]?).bind fun g=>(iL P g.type).map fun a=>(a,g.offset) with
     | some (a,off)=>.yU off a
     | _=>.other o mode)
   | _=>.other o mode
 | .indexAddr t _ _=>match P.underlying t with
   | some (.slice e)=>(match bF P e with | some s=>.kZ s | none=>.other o mode)
   | some (.array len e)=>(match bF P e with | some s=>.zw len s | none=>.other o mode)
   | _=>.other o mode
 | .extract _ i=>.ext i
 | _=>.other o mode
where
 mS {α β:Type} (f:α→Option β):List α→Option (List β)
  | []=>some []
  | x::xs=>match f x with | some y=>(mS f xs).map (y::·) | none=>none
end
end Go.Proofs.Ytkoioidpbbbaiaa.Ab


namespace Go.Proofs.Ytkoioidpbbbaiaa.Ab
open Go
section
variable {P:Program} {H:List ar}
theorem gp {n bytes:Nat} (ab:n*bytes≤140737488355328) (ae:1≤bytes):fy n bytes=true:=by
 simp only [fy,sn,tD];exact ⟨ab,ae⟩
theorem E5 {lo:Nat} {t:TypeId} {a:g5} (cu:iL P t=some a) {v:I} {K:I→List ar→Prop} (h:xY a v H K):∃ r H',du P lo 0 t H [v]=some (r,H')∧K r H':=by
 unfold xY at h;split at h
 ·obtain ⟨x,ao,h⟩:=e8 h;split at h
  ·obtain ⟨r,ab,ae⟩:=n5 cu h;exact ⟨r,H,by simp [du,dz,ao,ab],ae⟩
  ·obtain ⟨r,ab,ae⟩:=n5 cu h;exact ⟨r,H,by simp [du,dz,ao,ab],ae⟩
  ·exact h.elim
 ·obtain ⟨r,ab,ae⟩:=n5 cu h;exact ⟨r,H,by simp [du,dz,ab],ae⟩
 ·exact h.elim
theorem E' {lo:Nat} {t e:TypeId} (ax:P.underlying t=some (.slice e)) {v:I} {K:I→List ar→Prop} (h:x3 lo v H K):∃ r H',du P lo 1 t H [v]=some (r,H')∧K r H':=by
 unfold x3 at h;split at h
 ·split at h
  ·rename_i bD;obtain ⟨x,ao,h⟩:=e8 h;have bD:=tr bD;split at h
   ·obtain ⟨v,ad,h⟩:=e8 h;split at h
    ·refine ⟨_,_,?_,h⟩;simp only [du,ax,bD,if_true,ao,ad]
    ·refine ⟨_,_,?_,h⟩;simp only [du,ax,bD,if_true,ao,ad];rfl
    ·refine ⟨_,_,?_,h⟩;simp only [du,ax,bD,if_true,ao,ad];rfl
    ·exact h.elim
   ·obtain ⟨v,ad,h⟩:=e8 h;split at h
    ·refine ⟨_,_,?_,h⟩;simp only [du,ax,bD,if_true,ao,ad]
    ·refine ⟨_,_,?_,h⟩;simp only [du,ax,bD,if_true,ao,ad]
    ·exact h.elim
   ·exact h.elim
  ·exact h.elim
 ·exact h.elim
theorem E_ {lo:Nat} {t e:TypeId} (ax:P.underlying t=some (.slice e)) {v:I} {K:I→List ar→Prop} (h:x4 lo v H K):∃ r H',du P lo 2 t H [v]=some (r,H')∧K r H':=by
 unfold x4 at h;split at h
 ·split at h
  ·rename_i bD;obtain ⟨x,ao,h⟩:=e8 h;have bD:=tr bD;split at h
   ·obtain ⟨v,ad,h⟩:=e8 h;split at h
    ·exact ⟨_,_,by simp only [du,ax,bD,if_true,ao,ad];rw [if_neg h.1],h.2⟩
    ·exact ⟨_,_,by simp only [du,ax,bD,if_true,ao,ad];rfl,h⟩
    ·exact h.elim
   ·exact h.elim
  ·exact h.elim
 ·exact h.elim
theorem E8 {lo:Nat} {t:TypeId} (ah:bF P t=some 1) {p v:I} {K:I→List ar→Prop} (h:x2 lo p v H K):∃ r H',gm P lo 1 t H [p,v]=some (r,H')∧K r H':=by
 unfold x2 at h;split at h
 ·split at h
  ·rename_i bD;have bD:=tr bD;obtain ⟨x,ao,h⟩:=e8 h;split at h
   ·split at h
    ·obtain ⟨ab,ae,h⟩:=h;obtain ⟨aF,h⟩:=lA h;refine ⟨.a0,_,?_,h⟩;simp only [gm,lO,ah];rw [if_pos ⟨ab,ae⟩];simp only [fS,bD,if_true,ao];rw [if_pos aF];rfl
    ·exact h.elim
   ·exact h.elim
  ·exact h.elim
 ·exact h.elim
theorem E7 {lo s:Nat} {t:TypeId} (ah:bF P t=some s) {p v:I} {K:I→List ar→Prop} (h:x1 lo s p v H K):∃ r H',gm P lo 2 t H [p,v]=some (r,H')∧K r H':=by
 unfold x1 at h;split at h
 ·split at h
  ·rename_i bD;have bD:=tr bD;obtain ⟨x,ao,h⟩:=e8 h;split at h
   ·split at h
    ·split at h
     ·rename_i af;have af:=sN af;obtain ⟨aF,h⟩:=ng h;refine ⟨.a0,_,?_,h⟩;have a_:∀ {a b:Nat},a+b≤a+b:=fun {a b}=>sc _;simp only [List.length_append,sK] at aF;simp only [gm,lN,ah];rw [if_pos af];simp only [fS,bD,if_true,ao];rw [if_pos (by rcases aF with aF | aF <;> first | omega | simp at aF)];rfl
     ·exact h.elim
    ·exact h.elim
   ·exact h.elim
  ·exact h.elim
 ·exact h.elim
theorem Aa {i:Nat} {c:List I} {n s:Nat} {q:hE} {r:List (Nat×I)} (a':q=.own s∨q=.uniq s):∀ (l pre:List (Nat×I)),(∀ x∈l,x.2.plain=true)→jf pre (l++(i,.av c n q)::r)=some (pre++l,i,c,n,s,r)
 | [],pre,_=>by rcases a' with rfl | rfl <;> simp [jf]
 | (j,u)::l,pre,h=>by
   have hu:u.plain=true:=h (j,u) (by simp);have a8:=Aa (i:=i) (c:=c) (n:=n) (r:=r) a' l (pre++[(j,u)]) fun x aj=>h x (by simp [aj]);rw [sx,List.singleton_append] at a8;rw [List.cons_append,←a8];cases u with
   | av c n k=>cases k <;> first | rfl | simp [I.plain] at hu
   | _=>rfl
theorem E4 {t:TypeId} {fs:Array Field} {z:List I} (bk:zeroCells P t=some z) (hu:P.underlying t=some (.struct fs)) (c1:fs.toList.all (fun f=>(bF P f.type).isSome)=true) {ix:List Nat} {bq:List (Nat×Nat)}
  (kS:ix.map (fun i=>(fs[i]?).bind fun f=>(bF P f.type).map fun s=>(f.offset,s))=bq.map some) {k:Nat} {vs:List I} {K:I→List ar→Prop} (h:xX k z bq vs H K):∃ r,ks P t (ix.zip vs)=some r∧K r H:=by
 have key:∀ {c:List I} {n s off:Nat} {q:hE} {post:List I} {dO:List (Nat×Nat)},vs.drop k=.av c n q::post→bq.drop k=(off,1)::dO→(q=.own s∨q=.uniq s) →
   ((vs.take k).all I.plain && post.all I.plain && dO.all fun p=>Nat.blt off p.1 || Nat.ble (p.1+p.2) off)=true →
   (gd (bq.take k) (vs.take k) z fun eR=>match Nat.blt off eR.length with
   | true=>gd dO post (eR.set off .a0) fun ed=>K (.c3 (ed.take off) c n s (ed.drop (off+1))) H
   | false=>False)→∃ r,ks P t (ix.zip vs)=some r∧K r H:=by
  intro c n s off q post dO ad aB a' mi h;simp only [sn,sq] at mi;obtain ⟨⟨a7,a9⟩,bt⟩:=mi;have GV:k<vs.length:=by
   have:=congrArg List.length ad;simp at this;omega
  have GU:k<bq.length:=by
   have:=congrArg List.length aB;simp at this;omega
  have GR:ix.length=bq.length:=by have:=congrArg List.length kS;simpa using this
  have iU:k<ix.length:=by omega
  have az:vs=vs.take k++.av c n q::post:=by rw [←ad,vv]
  have Cj:ix=ix.take k++ix[k]::ix.drop (k+1):=by rw [←s7 iU,vv]
  have bU:(ix.take k).map (fun i=>(fs[i]?).bind fun f=>(bF P f.type).map fun s=>(f.offset,s))=(bq.take k).map some:=by rw [tT,kS,tT]
  have b1:(ix.drop k).map (fun i=>(fs[i]?).bind fun f=>(bF P f.type).map fun s=>(f.offset,s))=(bq.drop k).map some:=by rw [tH,kS,tH]
  rw [s7 iU,aB,sE,sE,List.cons.injEq] at b1;obtain ⟨b1,eb⟩:=b1;obtain ⟨eR,f1,h⟩:=iO h bU;split at h
  ·rename_i aR;(have aR:off<eR.length:=by simpa [sR] using aR);obtain ⟨ed,f2,h⟩:=iO h eb;refine ⟨_,?_,h⟩;have Co:ix.zip vs=(ix.take k).zip (vs.take k)++(ix[k],.av c n q)::(ix.drop (k+1)).zip post:=by
    (conv=>lhs;rw [Cj,az]);rw [List.zip_append (by simp;omega),vr]
   have aC:jf [] (ix.zip vs)=some ((ix.take k).zip (vs.take k),ix[k],c,n,s,(ix.drop (k+1)).zip post):=by
    rw [Co,Aa a' _ _ (fun x aj=>a7 x.2 (uU (a:=x.1) (b:=x.2) aj).2),List.nil_append]
   have hM:(((ix.take k).zip (vs.take k)).all (fun x=>x.2.plain) && ((ix.drop (k+1)).zip post).all (fun x=>x.2.plain) && ((ix.drop (k+1)).zip post).all (fun x=>match (fs[x.1]?).bind fun f=>(bF P f.type).map fun s=>(f.offset,s) with | some (o,s)=>decide (off<o∨o+s≤off) | none=>false))=true:=by
    simp only [sn,sq];refine ⟨⟨fun x aj=>a7 x.2 (uU (a:=x.1) (b:=x.2) aj).2,fun x aj=>a9 x.2 (uU (a:=x.1) (b:=x.2) aj).2⟩,fun x aj=>?_⟩;have hm:=(uU (a:=x.1) (b:=x.2) aj).1;have nQ:(fs[x.1]?).bind (fun f=>(bF P f.type).map fun s=>(f.offset,s))∈dO.map some:=by
     rw [←eb];exact List.mem_map_of_mem hm
    obtain ⟨p,aB,e⟩:=sC.1 nQ;have:=bt p aB;rw [←e];simp only [tt,sR,tD] at this;exact decide_eq_true this
   unfold ks;rw [bk,hu,aC];dsimp only;rw [c1,b1];split
   ·rename_i e1 b';cases b';split
    ·rw [f1];simp only [sb];rw [if_pos aR,f2];rfl
    ·rename_i ak;exact absurd (ak.symm.trans hM) (by simp)
   ·rename_i ft;exact absurd rfl (ft off rfl)
  ·exact h.elim
 unfold xX at h;split at h
 ·rename_i ad aB;split at h
  ·rename_i ak;exact key ad aB (.inl rfl) ak h
  ·exact h.elim
 ·rename_i ad aB;split at h
  ·rename_i ak;exact key ad aB (.inr rfl) ak h
  ·exact h.elim
 ·exact h.elim
theorem E9 {lo s:Nat} {t:TypeId} (ah:bF P t=some s) {p v:I} {K:I→List ar→Prop} (h:x0 lo s p v H K):∃ r H',gm P lo 0 t H [p,v]=some (r,H')∧K r H':=by
 unfold x0 at h;split at h
 ·split at h
  ·rename_i bD;have bD:=tr bD;obtain ⟨x,ao,h⟩:=e8 h;split at h
   ·rcases lV h with ⟨ab,al⟩ | ⟨vc,ab,_,al⟩
    ·split at al
     ·rename_i ae;have ae:=sN ae;rw [ya] at al;obtain ⟨aF,al⟩:=lA al;clear h;subst ae;exact ⟨.a0,_,by simp only [gm,g8,ah,ab,gT,bD,if_true,ao];rw [if_pos ⟨rfl,by omega⟩];rfl,al⟩
     ·exact al.elim
    ·split at al
     ·rename_i ae a_;have ae:=sN ae;(have a_:0<s:=by simpa [sR] using a_);obtain ⟨aF,al⟩:=ng al;(have bP:=aF.resolve_right fun aF=>by simp only [List.map_eq_nil_iff] at aF;rw [aF] at ae;simp only [tK] at ae;omega);simp only [sX,ae] at bP;exact ⟨.a0,_,by simp only [gm,g8,ah,ab,gT,bD,if_true,ao];rw [if_pos ⟨ae,bP⟩];rfl,al⟩
     ·exact al.elim
   ·rcases lV h with ⟨ab,al⟩ | ⟨vc,ab,_,al⟩
    ·split at al
     ·rename_i ae;have ae:=sN ae;rw [ya] at al;obtain ⟨aF,al⟩:=lA al;clear h;subst ae;exact ⟨.a0,_,by simp only [gm,g8,ah,ab,gT,bD,if_true,ao];rw [if_pos ⟨rfl,by omega⟩];rfl,al⟩
     ·exact al.elim
    ·split at al
     ·rename_i ae a_;have ae:=sN ae;(have a_:0<s:=by simpa [sR] using a_);obtain ⟨aF,al⟩:=ng al;(have bP:=aF.resolve_right fun aF=>by simp only [List.map_eq_nil_iff] at aF;rw [aF] at ae;simp only [tK] at ae;omega);simp only [sX,ae] at bP;exact ⟨.a0,_,by simp only [gm,g8,ah,ab,gT,bD,if_true,ao];rw [if_pos ⟨ae,bP⟩];rfl,al⟩
     ·exact al.elim
   ·exact h.elim
  ·exact h.elim
 ·exact h.elim
theorem E3 {v:I} {K:I→List ar→Prop} (h:xV v H K):∃ r H',gW 0 H [v]=some (r,H')∧K r H':=by
 unfold xV at h;rcases lV h with ⟨ab,h⟩ | ⟨vc,ab,_,h⟩
 ·rw [ya] at h;exact ⟨_,_,by simp only [gW,ab,se,sE,List.map_nil],h⟩
 ·exact ⟨_,_,by simp only [gW,ab,se],h⟩
theorem E2 {mode:Nat} (hm:mode≠0) {v:I} {K:I→List ar→Prop} (h:xW v H K):∃ r H',gW mode H [v]=some (r,H')∧K r H':=by
 unfold xW at h;cases mode with
 | zero=>exact absurd rfl hm
 | succ m =>
 rcases lV h with ⟨ab,ae,h⟩ | ⟨vc,ab,_,ae,h⟩
 ·have aF:[v].all I.plain=true:=by simp [ae]
  exact ⟨_,_,by simp only [gW,ab,aF],h⟩
 ·exact ⟨_,_,by simp only [gW,ab,ae],h⟩
theorem zZ:∀ (l:List I) (a:Int) {K:Int→Prop},xB l a K→∃ n,k8 l a=some n∧K n
 | [],a,K,h=>⟨a,rfl,h⟩
 | .int k b::r,a,K,h=>by
   obtain ⟨n,ab,ae⟩:=zZ r _ h;(have e:min a b=if b<a then b else a:=by split <;> omega);rw [e] at ab;exact ⟨n,ab,ae⟩
 | .a0::_,_,_,h | .bool _::_,_,_,h | .eI::_,_,_,h | .ptr _ _::_,_,_,h | .bS _::_,_,_,h | .av _ _ _::_,_,_,h | .ref _ _ _ _ _::_,_,_,h | .func _ _ _::_,_,_,h | .yield _::_,_,_,h | .map _::_,_,_,h
 | .agg _::_,_,_,h | .tuple _::_,_,_,h | .str _::_,_,_,h | .raw _ _ _::_,_,_,h | .cm _ _ _ _::_,_,_,h=>h.elim
theorem zY:∀ (l:List I) (a:Int) {K:Int→Prop},xA l a K→∃ n,k7 l a=some n∧K n
 | [],a,K,h=>⟨a,rfl,h⟩
 | .int k b::r,a,K,h=>by
   obtain ⟨n,ab,ae⟩:=zY r _ h;(have e:max a b=if b > a then b else a:=by split <;> omega);rw [e] at ab;exact ⟨n,ab,ae⟩
 | .a0::_,_,_,h | .bool _::_,_,_,h | .eI::_,_,_,h | .ptr _ _::_,_,_,h | .bS _::_,_,_,h | .av _ _ _::_,_,_,h | .ref _ _ _ _ _::_,_,_,h | .func _ _ _::_,_,_,h | .yield _::_,_,_,h | .map _::_,_,_,h
 | .agg _::_,_,_,h | .tuple _::_,_,_,h | .str _::_,_,_,h | .raw _ _ _::_,_,_,h | .cm _ _ _ _::_,_,_,h=>h.elim
theorem Fa {lo:Nat} {t:TypeId} {x:Operand} {v:I} {K:I→List ar→Prop} (h:x5 v H K):∃ r H',eX P lo 1 t x H [v]=some (r,H')∧K r H':=by
 unfold x5 at h;split at h
 ·rcases h with h | h
  ·exact ⟨_,_,by simp only [eX];rw [if_neg h.1],h.2⟩
  ·exact ⟨_,_,by simp only [eX];rw [if_pos h.1],h.2⟩
 ·exact ⟨_,_,rfl,h⟩
 ·exact ⟨_,_,rfl,h⟩
 ·exact h.elim
theorem Ay {t e:TypeId} {s bytes:Nat} (ax:P.underlying t=some (.slice e)) (ah:bF P e=some s) {z:List I} (bk:zeroCells P e=some z) (af:(P.info? e).map (·.bytes)=some bytes)
  (ev:z.length=s) (aQ:0<s) (ab:1≤bytes) {x y:I} {new:List I} {m:Nat} (eT:appended H y=some (m,new)) {K:I→List ar→Prop} (h:oE s bytes x new m H K):∃ r H',hQ P #[t,t] H [x,y]=some (r,H')∧K r H':=by
 unfold oE at h;obtain ⟨aA,aG,h⟩:=h;have ak:new.length=m*s∧0<s∧z.length=s∧fy m bytes=true:=⟨aA,aQ,ev,gp aG ab⟩;have key:∀ {r:I},fe P H t t x y=some r→hQ P #[t,t] H [x,y]=some (r,H):=fun h=>by simp [hQ,h]
 have beq:Nat.beq t t=true:=uT t;split at h
 ·obtain ⟨bm,h⟩:=h;subst bm;refine ⟨_,_,key ?_,h⟩;simp only [fe,ax,ah,af,bk,beq,eT];rw [if_pos ak];rfl
 ·obtain ⟨bm,cw,e2,h⟩:=h;refine ⟨_,_,key ?_,h⟩;simp only [fe,ax,ah,af,bk,beq,eT];rw [if_pos ak];simp only [bm,if_false];rw [if_pos ⟨gp cw ab,e2⟩]
 ·obtain ⟨bm,cw,h⟩:=h;refine ⟨_,_,key ?_,h⟩;simp only [fe,ax,ah,af,bk,beq,eT];rw [if_pos ak];simp only [bm];rw [if_pos ⟨trivial,gp cw ab⟩]
 ·obtain ⟨bm,cw,h⟩:=h;refine ⟨_,_,key ?_,h⟩;simp only [fe,ax,ah,af,bk,beq,eT];rw [if_pos ak];simp only [bm];rw [if_pos ⟨trivial,gp cw ab⟩]
 ·exact h.elim
theorem Az {t e:TypeId} {s bytes:Nat} (ax:P.underlying t=some (.slice e)) (ah:bF P e=some s) {z:List I} (bk:zeroCells P e=some z) (af:(P.info? e).map (·.bytes)=some bytes)
  (ev:z.length=s) (aQ:0<s) (ab:1≤bytes) {x y:I} {K:I→List ar→Prop} (h:oD s bytes x y H K):∃ r H',hQ P #[t,t] H [x,y]=some (r,H')∧K r H':=by
 unfold oD at h;split at h
 ·rename_i new m c;exact Ay ax ah bk af ev aQ ab (y:=.av new m c) rfl h
 ·rename_i id off m c cX;obtain ⟨o,aq,h⟩:=e8 h;split at h
  ·rename_i l;obtain ⟨bm,h⟩:=h;refine Ay ax ah bk af ev aQ ab (y:=.ref id off m c cX) ?_ h;simp only [appended,lenOf,rowOf,aq,if_pos bm]
  ·exact h.elim
 ·exact h.elim
theorem Nat.B8 {a b:Nat} (h:b=a):Nat.blt a b=false:=by
 cases af:Nat.blt a b with
 | false=>rfl
 | true=>have:=tr af;omega
theorem E1 {lo:Nat} {t e:TypeId} {s bytes:Nat} (ax:P.underlying t=some (.slice e)) (ah:bF P e=some s) {z:List I} (bk:zeroCells P e=some z) (af:(P.info? e).map (·.bytes)=some bytes)
  (ev:z.length=s) (aQ:0<s) (ab:1≤bytes) {x y:I} {K:I→List ar→Prop} (h:xU lo s bytes x y H K):∃ r H',jc P lo #[t,t] H [x,y]=some (r,H')∧K r H':=by
 unfold xU at h;split at h
 ·rename_i new m c;obtain ⟨⟨aA,aG⟩,h⟩:=h;have eT:appended H (.av new m c)=some (m,new):=rfl;have ak:new.length=m*s∧0<s∧z.length=s∧fy m bytes=true:=⟨aA,aQ,ev,gp aG ab⟩;have beq:Nat.beq t t=true:=uT t;split at h
  ·rename_i cells n;obtain ⟨⟨bm,cw,e2⟩,h⟩:=h;refine ⟨_,_,?_,h⟩;have q:fe P H t t (.av cells n .full) (.av new m c)=some (.av (cells++new) (n+m) (.uniq s)):=by
    simp only [fe,ax,ah,af,bk,beq,eT];rw [if_pos ak];simp only [bm,if_false];rw [if_pos ⟨gp cw ab,e2⟩]
   simp only [jc,jo,iu,q];rw [if_neg (by omega)]
  ·rename_i cells n cX;obtain ⟨⟨rfl,bm,cw⟩,h⟩:=h;refine ⟨_,_,?_,h⟩;have q:fe P H t t (.av cells n (.uniq cX)) (.av new m c)=some (.av (cells++new) (n+m) (.uniq cX)):=by
    simp only [fe,ax,ah,af,bk,beq,eT];rw [if_pos ak];rw [if_pos ⟨trivial,gp cw ab⟩]
   simp only [jc,jo,iu,q];rw [if_neg (by omega)]
  ·rename_i id gid n z;split at h
   ·rename_i bD;have bD:=tr bD;obtain ⟨o,aE,h⟩:=e8 h;split at h
    ·rcases h with ⟨⟨cf,ca,eS,bm,cw,e2⟩,bP⟩ | ⟨⟨cf,ca,eS,bm,cw,e2⟩,bP⟩
     ·subst cf ca eS;refine ⟨_,_,?_,bP⟩;have iS:=Nat.B8 bm;simp only [jc,jo,aE,iS,Bool.false_and];simp only [iu,bD,if_true,ax,aE,ah,af,bk,eT];rw [if_pos ⟨trivial,trivial,trivial,trivial,bm,aA,aQ,cw,ev,gp aG ab,gp e2 ab⟩]
     ·rename_i l g cX;subst cf ca eS;refine ⟨_,_,?_,bP⟩;have iS:Nat.blt (n*cX) l.length=true:=tn bm;have gN:Nat.ble lo id=true:=tn bD;have C8:=(sa.1 aE).1;(have pL:(H.set id (.grow (l.take (n*cX)) g cX))[id]?=some (.grow (l.take (n*cX)) g cX):=by rw [sk C8]);simp only [jc,jo,aE,iS,gN,Bool.and_self];simp only [iu,bD,if_true,ax,pL,ah,af,bk];have CH:appended (H.set id (.grow (l.take (n*cX)) g cX)) (.av new m c)=some (m,new):=rfl;simp only [CH];rw [if_pos ⟨trivial,trivial,trivial,trivial,by rw [List.length_take];omega,aA,aQ,cw,ev,gp aG ab,gp e2 ab⟩,List.set_set,s6]
    ·exact h.elim
   ·exact h.elim
  ·exact h.elim
 ·exact h.elim
theorem E6 {t e:TypeId} {s:Nat} (ax:P.underlying t=some (.slice e)) (ah:bF P e=some s) {l h m:Option Operand} {x:I} {vs:List I} {K:I→List ar→Prop}
  (al:xZ s l.isSome h.isSome m.isSome x vs H K):∃ r,ej P t l h m (x::vs)=some r∧K r H:=by
 unfold xZ at al;split at al
 ·rename_i cells n c;split at al
  ·rename_i e1 b' dB;obtain rfl:=s8.1 e1 |> s9.1;obtain rfl:=s8.1 b' |> s9.1;obtain rfl:=s8.1 dB |> s9.1;split at al
   ·exact ⟨_,by simp [ej,ax,ah,cN,dv],al⟩
   ·exact ⟨_,by simp [ej,I.view,e0,ax,ah,cN,dv],al⟩
   ·exact al.elim
  ·rename_i k i e1 b' dB;obtain ⟨l,rfl⟩:=tb.1 e1;obtain rfl:=s8.1 b' |> s9.1;obtain rfl:=s8.1 dB |> s9.1;split at al
   ·obtain ⟨⟨rfl,af⟩,al⟩:=al;exact ⟨_,by simp [ej,ax,ah,cN,dv,af],al⟩
   ·obtain ⟨af,al⟩:=al;exact ⟨_,by simp [ej,I.view,e0,ax,ah,cN,dv,af],al⟩
   ·obtain ⟨af,al⟩:=al;exact ⟨_,by simp [ej,I.view,e0,ax,ah,cN,dv,af],al⟩
   ·exact al.elim
  ·rename_i k j e1 b' dB;obtain rfl:=s8.1 e1 |> s9.1;obtain ⟨h,rfl⟩:=tb.1 b';obtain rfl:=s8.1 dB |> s9.1;split at al
   ·obtain ⟨af,al⟩:=al;exact ⟨_,by simp [ej,ax,ah,cN,dv,af],al⟩
   ·obtain ⟨af,al⟩:=al;exact ⟨_,by simp [ej,I.view,e0,ax,ah,cN,dv,af],al⟩
   ·obtain ⟨af,al⟩:=al;exact ⟨_,by simp [ej,I.view,e0,ax,ah,cN,dv,af],al⟩
   ·exact al.elim
  ·rename_i k i k' j e1 b' dB;obtain ⟨l,rfl⟩:=tb.1 e1;obtain ⟨h,rfl⟩:=tb.1 b';obtain rfl:=s8.1 dB |> s9.1;have aw:0≤i∧i≤j∧j≤n→(0≤j∧j≤n)∧i≤max j 0:=fun af=>⟨⟨by omega,af.2.2⟩,by omega⟩;split at al
   ·obtain ⟨af,al⟩:=al;obtain ⟨q1,aW⟩:=aw af;exact ⟨_,by simp [ej,I.view,e0,ax,ah,cN,dv,q1,aW,af.1],al⟩
   ·obtain ⟨af,al⟩:=al;obtain ⟨q1,aW⟩:=aw af;exact ⟨_,by simp [ej,I.view,e0,ax,ah,cN,dv,q1,aW,af.1],al⟩
   ·obtain ⟨af,al⟩:=al;obtain ⟨q1,aW⟩:=aw af;exact ⟨_,by simp [ej,I.view,e0,ax,ah,cN,dv,q1,aW,af.1],al⟩
   ·exact al.elim
  ·rename_i k j k' zA e1 b' dB;obtain rfl:=s8.1 e1 |> s9.1;obtain ⟨h,rfl⟩:=tb.1 b';obtain ⟨m,rfl⟩:=tb.1 dB;obtain ⟨⟨rfl,af⟩,al⟩:=al;(have q:j≤max j 0:=by omega);refine ⟨_,?_,al⟩;cases c <;> simp [ej,I.view,e0,ax,ah,cN,dv,af,q]
  ·rename_i k i k' j G6 zA e1 b' dB;obtain ⟨l,rfl⟩:=tb.1 e1;obtain ⟨h,rfl⟩:=tb.1 b';obtain ⟨m,rfl⟩:=tb.1 dB;obtain ⟨⟨rfl,af⟩,al⟩:=al;(have q:j≤max j 0:=by omega);(have aW:i≤max j 0:=by omega);(have cF:0≤j:=by omega);refine ⟨_,?_,al⟩;cases c <;> simp [ej,I.view,e0,ax,ah,cN,dv,af,q,aW,cF]
  ·exact al.elim
 ·rename_i id off n cap bb;split at al
  ·rename_i k i e1 b' dB;obtain ⟨l,rfl⟩:=tb.1 e1;obtain rfl:=s8.1 b' |> s9.1;obtain rfl:=s8.1 dB |> s9.1;obtain ⟨rfl,af,aJ,aN⟩:=al;by_cases hi:i<n
   ·(have hi':i.toNat<n:=by omega);exact ⟨_,by simp [ej,I.view,e0,ax,ah,cN,dv,af,hi'],aJ hi⟩
   ·(have hi':¬ i.toNat<n:=by omega);exact ⟨_,by simp [ej,I.view,e0,ax,ah,cN,dv,af,hi'],aN (by omega)⟩
  ·rename_i k j e1 b' dB;obtain rfl:=s8.1 e1 |> s9.1;obtain ⟨h,rfl⟩:=tb.1 b';obtain rfl:=s8.1 dB |> s9.1;obtain ⟨rfl,⟨bm,cw,e2⟩,al⟩:=al;(have ak:cap.map (·-0)=cap:=by cases cap <;> rfl);exact ⟨_,by simp [ej,I.view,e0,ax,ah,cN,dv,bm,cw,e2],al⟩
  ·exact al.elim
 ·rename_i id gid n z;split at al
  ·rename_i k j e1 b' dB;obtain rfl:=s8.1 e1 |> s9.1;obtain ⟨h,rfl⟩:=tb.1 b';obtain rfl:=s8.1 dB |> s9.1;obtain ⟨af,al⟩:=al;exact ⟨_,by simp [ej,ax,ah,cN,dv,af],al⟩
  ·exact al.elim
 ·exact al.elim
end
end Go.Proofs.Ytkoioidpbbbaiaa.Ab


namespace Go.Proofs.Ytkoioidpbbbaiaa.Ab
open Go
section
variable {P:Program} {H:List ar}
theorem xy {α β:Type} {f:α→Option β}:∀ {l:List α} {r:List β},gZ.mS f l=some r→l.map f=r.map some
 | [],r,h=>by simp [gZ.mS] at h;subst h;rfl
 | x::xs,r,h=>by
   simp only [gZ.mS] at h;split at h
   ·rename_i y aY;simp only [r_] at h;obtain ⟨ys,h,rfl⟩:=h;simp [aY,xy h]
   ·simp at h
theorem xq {t:TypeId} {x:h1×TypeId} (h:mM P t=some x):∃ d_,j7 P t=some (d_,x.2)∧∀ k,k1 x.1 k→isKey P d_ k=true:=by
 unfold mM at h;split at h
 ·rename_i d_ e hm;split at h
  ·rename_i q a';cases h;refine ⟨d_,hm,fun k al=>?_⟩;cases k <;> simp only [k1] at al;subst al;simp [isKey,a']
  ·rename_i fs ah;cases h;refine ⟨d_,hm,fun k al=>?_⟩;cases k <;> simp only [k1] at al;simp [isKey,ah,al]
  ·cases h
 ·cases h
theorem oz {lo:Nat} {o:Oper} {mode:Nat} {vs:List I} {K:I→List ar→Prop} (h:bO P lo (gZ P o mode) vs H K):∃ v H',(∀ C,a3 P C lo o mode vs H=some (v,H'))∧K v H':=by
 have G_:∀ {x:jy},x=.other o mode→bO P lo x vs H K→∃ v H',(∀ C,a3 P C lo o mode vs H=some (v,H'))∧K v H':=fun e h=>by subst e;exact h
 have pure:∀ {r:I},(∀ C,a3 P C lo o mode vs H=(cB P o vs).map (·,H))→cB P o vs=some r→K r H→∃ v H',(∀ C,a3 P C lo o mode vs H=some (v,H'))∧K v H':=fun ab ae aF=>⟨_,H,fun C=>by rw [ab C,ae];rfl,aF⟩;have mV:∀ x,(o.op=.move x∨o.op=.assign x)→(∀ C,a3 P C lo o mode vs H=eX P lo mode o.type x H vs)→bO P lo (oA P o mode x) vs H K→∃ v H',(∀ C,a3 P C lo o mode vs H=some (v,H'))∧K v H':=fun x _ hm h=>by
  unfold oA at h;split at h
  ·split at h
   ·rename_i e aI hu;split at h
    ·rename_i z bk;simp only [bO] at h;split at h
     ·exact ⟨_,_,fun C=>by rw [hm C];simp only [eX,aI,hu,bk,se],h⟩
     ·exact h.elim
    ·exact h
   ·rename_i ft;simp only [bO] at h;split at h
    ·refine ⟨_,H,fun C=>?_,h⟩;rw [hm C];simp only [eX]
     try (split
          ·rename_i e ab ae;exact absurd ae (ft e ab)
          ·rfl)
    ·exact h.elim
  ·simp only [bO] at h;split at h
   ·obtain ⟨r,H',ab,ae⟩:=Fa (P:=P) (lo:=lo) (t:=o.type) (x:=x) h;exact ⟨r,H',fun C=>by rw [hm C];exact ab,ae⟩
   ·exact h.elim
  ·exact h
 unfold gZ at h;cases aC:o.op <;> simp only [aC] at h <;> (try exact h)
 case move x=>exact mV x (.inl aC) (fun C=>by simp [a3,aC]) h
 case assign x=>exact mV x (.inr aC) (fun C=>by simp [a3,aC]) h
 case load t a =>
  split at h
  ·split at h
   ·rename_i BV cu;simp only [bO] at h;split at h
    ·obtain ⟨r,H',ab,ae⟩:=E5 (P:=P) (lo:=lo) cu h;exact ⟨r,H',fun C=>by simp only [a3,aC];exact ab,ae⟩
    ·exact h.elim
   ·exact h
  ·split at h
   ·rename_i e hu;simp only [bO] at h;split at h
    ·obtain ⟨r,H',ab,ae⟩:=E_ (P:=P) (lo:=lo) hu h;exact ⟨r,H',fun C=>by simp only [a3,aC];exact ab,ae⟩
    ·exact h.elim
   ·exact h
  ·split at h
   ·rename_i BV cu;simp only [bO] at h;split at h
    ·obtain ⟨r,ab,ae⟩:=n5 cu h;exact ⟨r,H,fun C=>by simp only [a3,aC,du,ab,se],ae⟩
    ·exact h.elim
   ·exact h
  ·split at h
   ·rename_i e hu;simp only [bO] at h;split at h
    ·obtain ⟨r,H',ab,ae⟩:=E' (P:=P) (lo:=lo) hu h;exact ⟨r,H',fun C=>by simp only [a3,aC];exact ab,ae⟩
    ·exact h.elim
   ·exact h
  ·exact h
 case store t a x =>
  split at h
  ·rename_i s ah;simp only [bO] at h;split at h
   ·obtain ⟨r,H',ab,ae⟩:=E9 (P:=P) (lo:=lo) ah h;exact ⟨r,H',fun C=>by simp only [a3,aC];exact ab,ae⟩
   ·exact h.elim
  ·rename_i s ah;simp only [bO] at h;split at h
   ·obtain ⟨r,H',ab,ae⟩:=E7 (P:=P) (lo:=lo) ah h;exact ⟨r,H',fun C=>by simp only [a3,aC];exact ab,ae⟩
   ·exact h.elim
  ·rename_i ah;simp only [bO] at h;split at h
   ·obtain ⟨r,H',ab,ae⟩:=E8 (P:=P) (lo:=lo) ah h;exact ⟨r,H',fun C=>by simp only [a3,aC];exact ab,ae⟩
   ·exact h.elim
  ·exact h
 case box e x =>
  split at h
  ·simp only [bO] at h;split at h
   ·obtain ⟨r,H',ab,ae⟩:=E3 h;exact ⟨r,H',fun C=>by simp only [a3,aC];exact ab,ae⟩
   ·exact h.elim
  ·rename_i hm;simp only [bO] at h;split at h
   ·obtain ⟨r,H',ab,ae⟩:=E2 (mode:=mode) (fun e=>hm e) h;exact ⟨r,H',fun C=>by simp only [a3,aC];exact ab,ae⟩
   ·exact h.elim
 case alloc t =>
  split at h
  ·split at h
   ·rename_i z bk;exact ⟨_,_,fun C=>by simp only [a3,aC,la,bk,se],h⟩
   ·exact h
  ·rename_i hm;split at h
   ·rename_i e bk hu;split at h
    ·rename_i s ah;refine ⟨_,_,fun C=>?_,h⟩;simp only [a3,aC];unfold la;split
     ·exact absurd rfl hm
     ·simp only [bk,hu,ah,se]
    ·exact h
   ·exact h
 case makeSlice t a b =>
  split at h
  ·rename_i Ey e hu;split at h
   ·rename_i s z bytes ah bk af;split at h
    ·rename_i ak;simp only [sn,tY,sR,tD] at ak;obtain ⟨⟨a7,a9⟩,bt⟩:=ak;simp only [bO] at h;split at h
     ·unfold AL at h;split at h
      ·obtain ⟨d1,d2,d3,h⟩:=h;refine ⟨_,_,fun C=>?_,h⟩;simp only [a3,aC,ka];rw [if_pos ⟨d1,d2⟩];simp only [jv,hu,ah,bk,af];rw [if_pos ⟨a7,a9,gp d3 bt⟩];rfl
      ·exact h.elim
     ·exact h.elim
    ·exact h
   ·exact h
  ·rename_i Ey m e hu;split at h
   ·rename_i s z bytes ah bk af;split at h
    ·rename_i ak;simp only [sn,tY,sR,tD] at ak;obtain ⟨⟨a7,a9⟩,bt⟩:=ak;simp only [bO] at h;split at h
     ·unfold AK at h;split at h
      ·obtain ⟨d1,d2,d3,h⟩:=h;refine ⟨_,_,fun C=>?_,h⟩;simp only [a3,aC,ka];rw [if_pos ⟨by omega,by omega⟩,if_pos ⟨d1,d2⟩];simp only [jv,hu,ah,bk,af];rw [if_pos ⟨a7,a9,gp d3 bt⟩];rfl
      ·exact h.elim
     ·exact h.elim
    ·exact h
   ·exact h
  ·exact h
 case call c =>
  split at h
  ·rename_i b af;split at h
   ·split at h
    ·rename_i ah;simp only [bO] at h;split at h
     ·unfold AG at h;split at h
      ·exact ⟨_,_,fun C=>by simp only [a3,aC,af,ei,hx,ah],h⟩
      ·exact ⟨_,_,fun C=>by simp only [a3,aC,af,ei,hx,ah],h⟩
      ·exact h.elim
     ·exact h.elim
    ·split at h
     ·rename_i n e hu;simp only [bO] at h;split at h
      ·exact h.elim
      ·exact h.elim
      ·exact h.elim
      ·rename_i x b7 cj Et;refine ⟨_,_,fun C=>?_,h⟩;simp only [a3,aC,af,ei,hx,hu]
       try (cases x <;> first | rfl | exact absurd rfl (b7 _ _ _) | exact absurd rfl (cj _ _ _ _ _) | exact absurd rfl (Et _))
      ·exact h.elim
     ·rename_i _ _ hu;simp only [bO] at h;split at h
      ·unfold AF at h;split at h
       ·obtain ⟨es,clock,ab,h⟩:=h;exact ⟨_,_,fun C=>by simp only [a3,aC,af,ei,hx,hu,ab],h⟩
       ·exact h.elim
      ·exact h.elim
     ·exact h
   ·split at h
    ·rename_i x aj;simp only [sf] at aj;obtain ⟨t,ax,aj⟩:=aj;obtain ⟨d_,hm,hP⟩:=xq aj;simp only [bO] at h;split at h
     ·unfold AH at h;split at h
      ·split at h
       ·rename_i bD;have bD:=tr bD;obtain ⟨ab,es,clock,ae,r,aF,h⟩:=h;split at h
        ·exact ⟨_,_,fun C=>by simp only [a3,aC,af,ei,hR,ax,sb,hm,hP _ ab,bD,if_true,ae,aF],h⟩
        ·exact ⟨_,_,fun C=>by simp only [a3,aC,af,ei,hR,ax,sb,hm,hP _ ab,bD,if_true,ae,aF],h⟩
       ·exact h.elim
      ·exact h.elim
     ·exact h.elim
    ·exact h
   ·simp only [bO] at h;split at h
    ·obtain ⟨n,ab,ae⟩:=zZ _ _ h;exact ⟨_,_,fun C=>by simp only [a3,aC,af,ei,n',ab,se],ae⟩
    ·exact h.elim
   ·simp only [bO] at h;split at h
    ·obtain ⟨n,ab,ae⟩:=zY _ _ h;exact ⟨_,_,fun C=>by simp only [a3,aC,af,ei,n_,ab,se],ae⟩
    ·exact h.elim
   ·split at h
    ·rename_i t dn gQ;split at h
     ·rename_i e mg hu;split at h
      ·rename_i s z bytes ah bk pt;split at h
       ·rename_i ak;simp only [sn,tY,sR,tD] at ak;obtain ⟨⟨a7,a9⟩,bt⟩:=ak;obtain rfl:t=dn:=sN mg;(have mf:c.argTypes=#[t,t]:=by rw [←tF (xs:=c.argTypes),gQ]);simp only [bO] at h;split at h
        ·obtain ⟨r,H',ab,ae⟩:=Az hu ah bk pt a7 a9 bt h;exact ⟨r,H',fun C=>by simp only [a3,aC,af,ei,mf];exact ab,ae⟩
        ·exact h.elim
       ·rename_i ak;simp only [sn,tY,sR,tD] at ak;obtain ⟨⟨a7,a9⟩,bt⟩:=ak;obtain rfl:t=dn:=sN mg;(have mf:c.argTypes=#[t,t]:=by rw [←tF (xs:=c.argTypes),gQ]);simp only [bO] at h;split at h
        ·obtain ⟨r,H',ab,ae⟩:=Az hu ah bk pt a7 a9 bt h;split at ae
         ·exact ⟨_,_,fun C=>by simp only [a3,aC,af,mf,oh,ab];rw [if_neg ae.1],ae.2⟩
         ·exact ae.elim
        ·exact h.elim
       ·rename_i ak hm nQ;simp only [sn,tY,sR,tD] at ak;obtain ⟨⟨a7,a9⟩,bt⟩:=ak;obtain rfl:t=dn:=sN mg;(have mf:c.argTypes=#[t,t]:=by rw [←tF (xs:=c.argTypes),gQ]);simp only [bO] at h;split at h
        ·obtain ⟨r,H',ab,ae⟩:=E1 (lo:=lo) hu ah bk pt a7 a9 bt h;refine ⟨r,H',fun C=>?_,ae⟩;simp only [a3,aC,af,mf]
         first
         | exact ab
         | (split
            ·exact absurd rfl hm
            ·exact absurd rfl nQ
            ·exact ab)
         | (split
            ·exact absurd rfl nQ
            ·exact absurd rfl hm
            ·exact ab)
        ·exact h.elim
       ·exact h
      ·exact h
     ·exact h
    ·exact h
   ·exact h
  ·exact h.elim
  ·exact h
 case makeMap t r =>
  split at h
  ·rename_i _ _ hu;simp only [bO] at h;exact ⟨_,_,fun C=>by simp only [a3,aC,lf,hu],h⟩
  ·exact h
 case mapUpdate t m k v =>
  split at h
  ·rename_i x aj;obtain ⟨d_,hm,hP⟩:=xq aj;simp only [bO] at h;split at h
   ·unfold AJ at h;split at h
    ·split at h
     ·rename_i bD;have bD:=tr bD;obtain ⟨ab,es,clock,ae,r,aF,h⟩:=h;split at h
      ·exact ⟨_,_,fun C=>by simp only [a3,aC,je,hm,hP _ ab,bD,if_true,ae,aF],h⟩
      ·exact ⟨_,_,fun C=>by simp only [a3,aC,je,hm,hP _ ab,bD,if_true,ae,aF],h⟩
     ·exact h.elim
    ·exact h.elim
   ·exact h.elim
  ·exact h
 case lookup t m k ok =>
  split at h
  ·rename_i x aj;obtain ⟨d_,hm,hP⟩:=xq aj;simp only [bO] at h;split at h
   ·unfold AI at h;split at h
    ·obtain ⟨ab,es,clock,ae,r,aF,h⟩:=h;split at h
     ·obtain ⟨e,he,h⟩:=h;cases ok
      ·exact ⟨_,_,fun C=>by simp only [a3,aC,iv,hm,hP _ ab,ae,aF,sb,he,se];rfl,h⟩
      ·exact ⟨_,_,fun C=>by simp only [a3,aC,iv,hm,hP _ ab,ae,aF,sb,he,se];rfl,h⟩
     ·obtain ⟨z,bk,h⟩:=h;cases ok
      ·exact ⟨_,_,fun C=>by simp only [a3,aC,iv,hm,hP _ ab,ae,aF,Option.bind_none,bk,se];rfl,h⟩
      ·exact ⟨_,_,fun C=>by simp only [a3,aC,iv,hm,hP _ ab,ae,aF,Option.bind_none,bk,se];rfl,h⟩
    ·exact h.elim
   ·exact h.elim
  ·exact h
 case range t m =>
  split at h
  ·rename_i _ _ hu;simp only [bO] at h;split at h
   ·unfold AM at h;split at h
    ·obtain ⟨es,clock,ab,h⟩:=h;exact ⟨_,_,fun C=>by simp only [a3,aC,lg,hu,ab],h⟩
    ·exact h.elim
   ·exact h.elim
  ·exact h
 case entry m =>
  simp only [bO] at h;split at h
  ·unfold AA at h;split at h
   ·obtain ⟨m,since,seen,clock,gr,es,e,ab,ae,aF,a_,h⟩:=h;exact ⟨_,_,fun C=>by simp only [a3,aC,ld,ab,ae,aF,a_,if_true],h⟩
   ·exact h.elim
  ·exact h.elim
 case pick c a b =>
  simp only [bO] at h;split at h
  ·rename_i c a b;refine pure (fun C=>by simp only [a3,aC]) (r:=match c with | true=>a | false=>b) (by cases c <;> simp [cB,aC,xD]) ?_;cases c <;> exact h
  ·exact h.elim
 case build t parts =>
  split at h
  ·rename_i z fs bk hu;split at h
   ·rename_i bq c1 kS;split at h
    ·simp only [bO] at h;obtain ⟨c_,q1,aW⟩:=iO h (xy kS);refine pure (fun C=>by simp only [a3,aC]) (r:=.agg c_) ?_ aW;simp only [cB,aC,lL,bk,hu,c1,eN,q1,se]
    ·simp only [bO] at h;obtain ⟨r,q1,aW⟩:=E4 bk hu c1 (xy kS) h;exact ⟨r,H,fun C=>by simp only [a3,aC,eN,q1,se],aW⟩
   ·exact h
  ·rename_i z len e bk hu;split at h
   ·rename_i s ah;(have aq:∀ C,a3 P C lo o 0 vs H=(cB P o vs).map (·,H):=fun C=>by simp only [a3,aC]);simp only [bO] at h;obtain ⟨c_,q1,aW⟩:=iO (place:=fun i=>some (i*s,s)) (ix:=parts.toList.map (·.1)) h (by simp);refine pure aq (r:=.agg c_) ?_ aW;simp only [cB,aC,lL,bk,hu,ah,eN,sb,q1,se]
   ·exact h
  ·exact h
 case buildSlice t len parts =>
  split at h
  ·rename_i e hu;split at h
   ·rename_i s z ah bk;split at h
    ·rename_i ak;simp only [sn,tY,sR,tD] at ak;obtain ⟨⟨a7,a9⟩,bt⟩:=ak;simp only [bO] at h;obtain ⟨c_,q1,aW⟩:=iO (place:=fun i=>some (i*s,s)) (ix:=parts.toList.map (·.1)) h (by simp);refine pure (fun C=>by simp only [a3,aC]) (r:=.av c_ len (.uniq s)) ?_ aW;simp only [cB,aC,iJ,hu,ah,bk,eN];rw [if_pos ⟨a9,a7,bt⟩,q1];rfl
    ·rename_i ak hm;simp only [sn,tY,sR,tD] at ak;obtain ⟨⟨a7,a9⟩,bt⟩:=ak;simp only [bO] at h;obtain ⟨c_,q1,aW⟩:=iO (place:=fun i=>some (i*s,s)) (ix:=parts.toList.map (·.1)) h (by simp);refine ⟨_,_,fun C=>?_,aW⟩;have q:iJ P t len (eN parts.toList vs)=some (c_,s):=by
      simp only [iJ,hu,ah,bk,eN];rw [if_pos ⟨a9,a7,bt⟩,q1];rfl
     simp only [a3,aC]
     first
     | (rw [q];rfl)
     | (split
        ·exact absurd rfl hm
        ·rw [q];rfl)
    ·exact h
   ·exact h
  ·exact h
 case nilCheck x =>
  simp only [bO] at h;split at h
  ·exact pure (fun C=>by simp only [a3,aC]) (by simp only [cB,aC,oi]) h
  ·exact pure (fun C=>by simp only [a3,aC]) (by simp only [cB,aC,oi]) h
  ·exact h.elim
 case binOp op t x y iF =>
  have aq:∀ C,a3 P C lo o mode vs H=(cB P o vs).map (·,H):=fun C=>by simp only [a3,aC]
  split at h
  ·rename_i aI hu;simp only [bO] at h;split at h
   ·split at h
    ·rename_i al;obtain ⟨v,ab,ae⟩:=B4 (P:=P) (t:=t) (FD al) h;exact pure aq (by simp only [cB,aC,aI,gl,ab]) ae
    ·exact h.elim
   ·exact h.elim
  ·rename_i aI hu;split at h
   ·simp only [bO] at h;split at h
    ·exact pure aq (by simp only [cB,aC,aI,gl,fo,hu]) h
    ·exact h.elim
   ·simp only [bO] at h;split at h
    ·exact pure aq (by simp only [cB,aC,aI,gl,fo,hu]) h
    ·exact h.elim
   ·exact h
  ·exact h
 case unOp op t x =>
  have aq:∀ C,a3 P C lo o mode vs H=(cB P o vs).map (·,H):=fun C=>by simp only [a3,aC]
  simp only [bO] at h;split at h
  ·split at h
   ·exact pure aq (by simp only [cB,aC,e9,kt]) h
   ·exact h.elim
  ·split at h
   ·exact pure aq (by simp only [cB,aC,e9,kt]) h
   ·exact h.elim
  ·exact h.elim
 case convert s d x =>
  have aq:∀ C,a3 P C lo o mode vs H=(cB P o vs).map (·,H):=fun C=>by simp only [a3,aC]
  split at h
  ·rename_i ab ae;simp only [bO] at h;split at h
   ·exact pure aq (by simp only [cB,aC,e9,lM,ab,ae]) h
   ·exact h.elim
  ·exact h
 case makeFunc fn first captured =>
  have aq:∀ C,a3 P C lo o mode vs H=(cB P o vs).map (·,H):=fun C=>by simp only [a3,aC]
  split at h
  ·simp only [bO] at h;split at h
   ·rename_i ab;exact pure aq (by simp only [cB,aC,m0];rw [if_pos (sN ab)]) h
   ·exact h.elim
  ·exact h
 case slice t x l bE m =>
  have aq:∀ C,a3 P C lo o mode vs H=(cB P o vs).map (·,H):=fun C=>by simp only [a3,aC]
  split at h
  ·rename_i e hu;split at h
   ·rename_i s ah;simp only [bO] at h;split at h
    ·obtain ⟨r,ab,ae⟩:=E6 hu ah h;exact pure aq (by simp only [cB,aC,ab]) ae
    ·exact h.elim
   ·exact h
  ·exact h
 case fieldAddr t x f =>
  have aq:∀ C,a3 P C lo o mode vs H=(cB P o vs).map (·,H):=fun C=>by simp only [a3,aC]
  split at h
  ·rename_i fs hu;split at h
   ·rename_i s off aP;simp only [sf,r_,Prod.mk.injEq] at aP;obtain ⟨g,aO,aD,ah,rfl,rfl⟩:=aP;simp only [bO] at h;split at h
    ·unfold AB at h;split at h
     ·exact pure aq (by simp [cB,aC,e9,jC,hu,aO,ah]) h
     ·exact pure aq (by simp [cB,aC,e9,jC,hu,aO,ah]) h
     ·exact h.elim
    ·exact h.elim
   ·exact h
  ·exact h
 case field t x f =>
  have aq:∀ C,a3 P C lo o mode vs H=(cB P o vs).map (·,H):=fun C=>by simp only [a3,aC]
  split at h
  ·rename_i fs hu;split at h
   ·rename_i a off aP;simp only [sf,r_,Prod.mk.injEq] at aP;obtain ⟨g,aO,aM,cu,rfl,rfl⟩:=aP;simp only [bO] at h;split at h
    ·obtain ⟨v,ab,ae⟩:=EM cu h;exact pure aq (by simp only [cB,aC,e9,ns,hu,aO,sb,ab,se]) ae
    ·exact h.elim
   ·exact h
  ·exact h
 case indexAddr t x i =>
  have aq:∀ C,a3 P C lo o mode vs H=(cB P o vs).map (·,H):=fun C=>by simp only [a3,aC]
  split at h
  ·rename_i e hu;split at h
   ·rename_i s ah;simp only [bO] at h;split at h
    ·unfold AD at h;split at h
     ·split at h
      ·exact pure aq (by simp [cB,aC,gl,h4,hu,ah,g_,h.1]) h.2
      ·exact pure aq (by simp [cB,aC,gl,h4,hu,ah,g_,h.1]) h.2
      ·exact h.elim
     ·exact h.elim
    ·exact h.elim
   ·exact h
  ·rename_i len e hu;split at h
   ·rename_i s ah;simp only [bO] at h;split at h
    ·unfold AE at h;split at h
     ·split at h
      ·exact pure aq (by simp [cB,aC,gl,h4,hu,ah,g_,h.1]) h.2
      ·exact pure aq (by simp [cB,aC,gl,h4,hu,ah,g_,h.1]) h.2
      ·exact h.elim
     ·exact h.elim
    ·exact h.elim
   ·exact h
  ·exact h
 case extract x i =>
  have aq:∀ C,a3 P C lo o mode vs H=(cB P o vs).map (·,H):=fun C=>by simp only [a3,aC]
  simp only [bO] at h;split at h
  ·obtain ⟨v,ad,h⟩:=e8 h;rw [kp] at h;exact pure aq (by simp only [cB,aC,e9,nr,ad,se]) h
  ·exact h.elim
end
end Go.Proofs.Ytkoioidpbbbaiaa.Ab


namespace Go.Proofs.Ytkoioidpbbbaiaa.Ab
open Go
noncomputable section
def oW (P:Program) (mode lo:Nat) (bY:fc) (args:List I) (H:List ar) (v:I) (H':List ar):Prop:=∃ C,c6 P C∧eQ C lo mode bY args H=some (v,H')
def lU:List I→List I→(List I→Prop)→Prop
 | [],l,K=>K l
 | h::t,l,K=>lU t l fun r=>K (h::r)
theorem jE:∀ (a b:List I) (K:List I→Prop),lU a b K=K (a++b)
 | [],b,K=>rfl
 | h::t,b,K=>by rw [lU,jE t b];rfl
def yI (v:I) (K:I→Prop):Prop:=match v with
 | .av c n .full=>K (.av c n .shared)
 | .agg cs=>K (.agg (cs.map I.ha))
 | .tuple cs=>K (.tuple (cs.map I.ha))
 | v=>K v
theorem Ch (v:I) (K:I→Prop):yI v K=K v.cc:=by
 cases v with
 | av c n k=>cases k <;> rfl
 | _=>rfl
def nz:List I→(List I→Prop)→Prop
 | [],K=>K []
 | h::t,K=>yI h fun aX=>nz t fun iE=>K (aX::iE)
theorem nA:∀ (l:List I) (K:List I→Prop),nz l K=K (l.map I.cc)
 | [],K=>rfl
 | h::t,K=>by rw [nz,Ch,nA t];rfl
def lT (P:Program) (lo:Nat) (draw:Bool) (mode:Nat) (acc:c7) (vs:List I) (H:List ar) (K:c7→I→List ar→Prop):Prop:=match vs with
 | f::args=>match f with
   | .func k first cap=>lU args cap fun r=>lU first r fun as=>match mode with
     | 3=>as.all (cr 8)=true∧nz as fun gH=>∃ v,np P k gH v∧(match draw with
       | true=>(∀ p∈acc,p.1=k→p.2.1=gH→p.2.2=v)∧K ((k,gH,v)::acc) v.cc H
       | false=>K acc v.cc H)
     | 6=>match draw with
       | true=>(as.map (iD H)).all (cr 8)=true∧∃ gH,(as.map (iD H)).map I.cc=gH∧∃ v,fz v=true∧np P k gH v∧(∀ p∈acc,p.1=k→p.2.1=gH→p.2.2=v)∧K ((k,gH,v)::acc) v.cc H
       | false=>∃ v H',oW P 6 lo (.fn k) as H v H'∧K acc v H'
     | mode=>match draw with
       | true=>False
       | false=>∃ v H',oW P mode lo (.fn k) as H v H'∧K acc v H'
   | .yield l=>match draw with
     | true=>False
     | false=>∃ v H',oW P mode lo (.yield l) args H v H'∧K acc v H'
   | _=>False
 | []=>False
def lu (P:Program) (lo:Nat) (draw:Bool) (k:jy) (acc:c7) (vs:List I) (H:List ar) (K:c7→I→List ar→Prop):Prop:=match k with
 | .call mode=>lT P lo draw mode acc vs H K
 | k=>bO P lo k vs H (K acc)
def n3 (ip:Option Nat) (T:List I) (v:I) (K:List I→Prop):Prop:=match ip with
 | none=>K T
 | some t=>ko v fun v=>jn T t v K
def ph (g:Option (Nat×Bool)) (T:List I) (skip run:Prop):Prop:=match g with
 | none=>run
 | some (t,want)=>hI T t fun v=>match v with
   | .bool b=>(match want with
     | true=>(match b with | true=>run | false=>skip)
     | false=>(match b with | true=>skip | false=>run))
   | .tuple []=>skip
   | _=>False
def hC (P:Program) (lo:Nat) (draw:Bool) (cl:dP) (acc:c7) (T:List I) (H:List ar) (K:c7→List I→List ar→Prop):Prop :=
 ph cl.guard T (m5 T cl.dst (.tuple []) fun bf=>K acc bf H) (gq cl.Ge T fun vs g6=>lu P lo draw cl.k acc vs H fun eP v H'=>ml v fun v=>n3 cl.ip g6 v fun en=>m5 en cl.dst v fun dH=>K eP dH H')
def gY (P:Program) (lo:Nat) (draw:Bool):List dP→c7→List I→List ar→(List I→List ar→Prop)→Prop
 | [],_,T,H,K=>K T H
 | cl::r,acc,T,H,K=>hC P lo draw cl acc T H fun eP bf H'=>match draw with
   | true=>gY P lo draw r eP bf H' K
   | false=>gY P lo draw r [] bf H' K
def z9 (it:Nat) (dst:Option Nat) (T:List I) (H:List ar) (K:List I→List ar→Prop):Prop:=hI T it fun v=>match v with
 | .ptr r 0=>∃ m since seen clock es,H[r]?=some (.iter m since seen clock)∧H[m]?=some (.map es clock)∧since≤clock∧(∀ e∈es,e.1<since) ∧
   ((∀ e∈es,e.1∈seen)→m5 T dst (.tuple [.bool false]) fun bf=>K bf H) ∧
   ∀ e∈es,e.1 ∉ seen→m5 T dst (.tuple [.bool true,e.2.1,e.2.2]) fun bf=>K bf (H.set r (.iter m since (seen++[e.1]) clock))
 | _=>False
inductive BJ (f:List I→List ar→(cQ→List I→List ar→Prop)→Prop) (T:List I) (H:List ar) (Q:cQ→List I→List ar→Prop):Prop where
 | intro (h0:Nat→List I→List ar→Prop) (m:Nat) (aQ:h0 m T H) (step:∀ m T H,h0 m T H→f T H fun e bf H'=>match e with
   | .normal=>∃ hr,hr<m∧h0 hr bf H'
   | e=>Q e bf H')
def xp (k:Option (List Bool)) (T:List I) (K:List I→Prop):Prop:=match k with
 | some k=>k0 k T K
 | none=>K T
theorem DT (k:Option (List Bool)) (T:List I) (K:List I→Prop):xp k T K=K (match k with | some k=>eZ k T | none=>T):=by
 cases k with
 | none=>rfl
 | some k=>exact zC k T K
def oc:List I→(List I→Prop)→Prop
 | [],K=>K []
 | h::t,K=>oc t fun iE=>K (h::iE)
theorem z5:∀ (T:List I) (K:List I→Prop),oc T K=K T
 | [],K=>rfl
 | h::t,K=>by rw [oc,z5 t]
def oF (P:Program) (A:dx) (fn:FuncId) (lo:Nat) (rl:Option Nat) (f:I) (bq:List Nat) (as ct:Code) (T:List I) (H:List ar) (Q:cQ→List I→List ar→Prop):Prop:=match f with
 | .func k first cap=>inLoop H rl=true∧∃ r H' st cL fn' bf Ah gH yz iM,Sem P (.fn k) (first++[.yield H.length]++cap) (H++[.loop .ready none fn (T.map I.view) bq as ct A]) lo r H' ∧
   H'[H.length]?=some (.loop st cL fn' bf Ah gH yz iM)∧st≠.busy∧(match cL with
    | none=>Q .normal (T.map I.settle) (H'.set H.length .dead)
    | some .ret=>Q .ret (T.map I.settle) (H'.set H.length .dead)
    | some (.exit id)=>Q (.exit id) (T.map I.settle) (H'.set H.length .dead)
    | _=>False)
 | _=>False
def dQ (P:Program) (A:dx) (fn:FuncId) (lo:Nat) (rl:Option Nat):gE→List I→List ar→(cQ→List I→List ar→Prop)→Prop
 | .skip,T,H,Q=>Q .normal T H
 | .ow draw l,T,H,Q=>gY P lo draw l [] T H (Q .normal)
 | .seq a b,T,H,Q=>dQ P A fn lo rl a T H fun e bf H'=>match e with
   | .normal=>dQ P A fn lo rl b bf H' Q
   | e=>Q e bf H'
 | .cond c a b,T,H,Q=>match c with
   | .nd t=>hI T t fun v=>(match v with
     | .bool x=>(match x with | true=>dQ P A fn lo rl a T H Q | false=>dQ P A fn lo rl b T H Q)
     | .dA=>dQ P A fn lo rl a T H Q∧dQ P A fn lo rl b T H Q
     | _=>False)
   | .cv v=>(match v with
     | .bool x=>(match x with | true=>dQ P A fn lo rl a T H Q | false=>dQ P A fn lo rl b T H Q)
     | .dA=>dQ P A fn lo rl a T H Q∧dQ P A fn lo rl b T H Q
     | _=>False)
   | _=>False
 | .block id c,T,H,Q=>dQ P A fn lo rl c T H fun e bf H'=>match e with
   | .exit bC=>(match Nat.beq bC id with | true=>Q .normal bf H' | false=>Q (.exit bC) bf H')
   | e=>Q e bf H'
 | .loop cE c,T,H,Q=>xp cE T fun T=>BJ (fun T H Q=>oc T fun T=>dQ P A fn lo rl c T H fun e bf H'=>match e with
   | .normal=>xp cE bf fun bf=>Q .normal bf H'
   | e=>Q e bf H') T H Q
 | .exit id,T,H,Q=>Q (.exit id) T H
 | .ret,T,H,Q=>Q .ret T H
 | .AO f bq as ct,T,H,Q=>match f with
   | .nd t=>hI T t fun v=>oF P A fn lo rl v bq as ct T H Q
   | .cv v=>oF P A fn lo rl v bq as ct T H Q
   | _=>False
 | .z8 it dst l,T,H,Q=>z9 it dst T H fun bf H'=>gY P lo false l [] bf H' (Q .normal)
 | .two l1 l2,T,H,Q=>gY P lo true l1 [] T H (Q .normal)∧gY P lo true l2 [] T H (Q .normal)
def mI (o:Oper) (mode:Nat):Option Nat:=match mode with
 | 0=>none
 | 4=>none
 | _=>match o.op with
   | .move (.tmp t) | .assign (.tmp t)=>some t
   | _=>none
def iz (P:Program) (ops:Array Oper) (o:Oper) (an:bZ):Option dP:=match o.guard with
 | none=>some ⟨o.dst,hU (dF o an.mode) an.cC (opsOf o),none,mI o an.mode,gZ P o an.mode⟩
 | some (j,want)=>match (ops[j]?).bind (·.dst) with
   | some d=>some ⟨o.dst,hU (dF o an.mode) an.cC (opsOf o),some (d,want),mI o an.mode,gZ P o an.mode⟩
   | none=>none
def e7 (P:Program) (ops:Array Oper):List Oper→List bZ→Option (List dP)
 | [],_=>some []
 | o::r,as=>match iz P ops o (as.headD {}),e7 P ops r as.tail with
   | some cl,some l=>some (cl::l)
   | _,_=>none
def Ez (cl:dP):Bool:=match cl.k with | .call m=>!(Nat.beq m 3 || Nat.beq m 6) | _=>false
def ik (cl:dP):Bool:=match cl.k with | .call _=>true | _=>false
def oL (l:List dP):Bool:=l.any Ez && Nat.ble (l.countP ik) 1
def xt (P:Program) (ops:Array Oper) (draw:Bool) (as:List bZ):Option gE:=match draw,ops.toList with
 | false,o::rest=>(match o.op,o.guard with
   | .next (.tmp it) false,none=>(e7 P ops rest as.tail).map (.z8 it o.dst)
   | _,_=>(e7 P ops (o::rest) as).map (.ow false))
 | d,l=>(e7 P ops l as).map fun l'=>.ow (d && !oL l') l'
def k5 (P:Program) (ops:Array Oper) (an:List bZ):List Nat→Option (List dP)
 | []=>some []
 | i::r=>match ops[i]? with
   | some o=>match iz P ops o (an.getD i {}),k5 P ops an r with
     | some cl,some l=>some (cl::l)
     | _,_=>none
   | none=>none
def mW (cl:dP):Bool:=match cl.k with | .call _=>false | _=>true
def xu (P:Program) (ops:Array Oper) (an:List bZ) (x:List Nat×Nat×Nat):Option gE :=
 match k5 P ops an (List.range ops.size),k5 P ops an x.1 with
 | some l1,some l2=>match l1.all mW && l2.all mW with
   | true=>some (.two l1 l2)
   | false=>none
 | _,_=>none
def oy (x:Operand):kr:=match x with
 | .tmp t=>.nd t
 | x=>.cv (az [] x)
def ey (P:Program) (A:dx):Code→Nat→Option gE
 | .skip,_=>some .skip
 | .region id ops draw,_=>match A.im with
   | []=>match kk A id draw with
     | some p=>xu P ops (A.ops.getD id []) p
     | none=>xt P ops draw (A.ops.getD id [])
   | _=>none
 | .seq a b,a2=>match ey P A a a2,ey P A b a2 with
   | some x,some y=>some (.seq x y)
   | _,_=>none
 | .cond c a b,a2=>match ey P A a a2,ey P A b a2 with
   | some x,some y=>some (.cond (oy c) x y)
   | _,_=>none
 | .block id c,_=>(ey P A c id).map (.block id)
 | .loop c,a2=>(ey P A c a2).map (.loop (l8 a2 A.il))
 | .exit id,_=>some (.exit id)
 | .ret,_=>some .ret
 | .scope c,a2=>ey P A c a2
 | .label _,_=>some .skip
 | .rangeFunc f bq as ct,_=>some (.AO (oy f) bq.toList as ct)
 | _,_=>none
end
section
variable {P:Program}
theorem zy (o:Oper) (mode:Nat) (T:List I) (v:I) (K:List I→Prop):n3 (mI o mode) T v K=K (inPlace o mode T v):=by
 by_cases aQ:mode=0
 ·subst aQ;rfl
 by_cases a_:mode=4
 ·subst a_;rfl
 have e1:mI o mode=(match o.op with | .move (.tmp t) | .assign (.tmp t)=>some t | _=>none):=by
  unfold mI;split
  ·exact absurd rfl aQ
  ·exact absurd rfl a_
  ·rfl
 have b':inPlace o mode T v=(match o.op with | .move (.tmp t) | .assign (.tmp t)=>g2 T t v.view | _=>T):=by
  unfold inPlace;split
  ·exact absurd rfl aQ
  ·exact absurd rfl a_
  ·rfl
 rw [e1,b'];cases o.op <;> try rfl
 case move x=>cases x <;> first | rfl | (simp only [n3,kp,kg])
 case assign x=>cases x <;> first | rfl | (simp only [n3,kp,kg])
theorem oT {lo:Nat} {draw:Bool} {ops:Array Oper} {o:Oper} {an:bZ} {cl:dP} (ai:iz P ops o an=some cl) {acc:c7} {T:List I} {H:List ar} {K:c7→List I→List ar→Prop}
  (h:hC P lo draw cl acc T H K) :
  (eB ops o T=some false∧K acc (put T o.dst (.tuple [])) H) ∨
  (eB ops o T=some true∧lu P lo draw (gZ P o an.mode) acc (fm (dF o an.mode) (rd T an.cC (opsOf o)).1) H fun eP v H'=>K eP (put (inPlace o an.mode (rd T an.cC (opsOf o)).2 v) o.dst v) H'):=by
 unfold iz at ai;split at ai
 ·rename_i aO;cases ai;simp only [hC,ph,ji,nJ,zy,xL] at h;exact .inr ⟨by simp [eB,aO],h⟩
 ·rename_i j want aO;split at ai
  ·rename_i d a1;cases ai;simp only [hC,ph,ji,nJ,zy,xL,iQ] at h;(have hw:∀ b,df T d=.bool b→eB ops o T=some (b == want):=fun b af=>by simp [eB,aO,a1,af]);split at h
   ·rename_i b af;have hw:=hw b af;cases want <;> cases b <;> simp only at h
    ·exact .inr ⟨hw,h⟩
    ·exact .inl ⟨hw,h⟩
    ·exact .inl ⟨hw,h⟩
    ·exact .inr ⟨hw,h⟩
   ·rename_i af;exact .inl ⟨by simp [eB,aO,a1,af],h⟩
   ·exact h.elim
  ·cases ai
theorem fY {C:b8} {lo:Nat} {ops:Array Oper} {o:Oper} {an:bZ} {T:List I} {H:List ar} {v:I} {H':List ar} (hw:eB ops o T=some true)
  (h:a3 P C lo o an.mode (fm (dF o an.mode) (rd T an.cC (opsOf o)).1) H=some (v,H')):dw P C lo ops o an ⟨T,H⟩=some ⟨put (inPlace o an.mode (rd T an.cC (opsOf o)).2 v) o.dst v,H'⟩:=by
 simp only [dw,hw,Ab.execOp];unfold fm at h;cases ao:dF o an.mode <;> rw [ao] at h <;> simp only at h ⊢ <;> rw [h] <;> rfl
theorem oN {C:b8} {lo:Nat} {ops:Array Oper} {o:Oper} {an:bZ} {T:List I} {H:List ar} (hw:eB ops o T=some false):dw P C lo ops o an ⟨T,H⟩=some ⟨put T o.dst (.tuple []),H⟩:=by
 simp only [dw,hw]
theorem xR {o:Oper} {mode z4:Nat} (h:gZ P o mode=.call z4):z4=mode∧∃ c f,o.op=.call c∧c.callee=.value f:=by
 cases aC:o.op
 case call c =>
  simp only [gZ,aC] at h;cases ak:c.callee with
  | value f=>simp only [ak] at h;cases h;exact ⟨rfl,c,f,rfl,ak⟩
  | invoke x n=>simp only [ak] at h;cases h
  | builtin b =>
    simp only [ak] at h;repeat' (first | contradiction | split at h)
 all_goals simp only [gZ,aC] at h
 all_goals (try unfold oA at h)
 all_goals (repeat' (first | contradiction | split at h))
theorem oC {lo:Nat} {draw:Bool} {k:jy} {acc:c7} {vs:List I} {H:List ar} {K:c7→I→List ar→Prop} (h:lu P lo draw k acc vs H K) :
  (∃ mode,k=.call mode∧lT P lo draw mode acc vs H K)∨bO P lo k vs H (K acc):=by
 unfold lu at h;split at h
 ·exact .inl ⟨_,rfl,h⟩
 ·exact .inr h
theorem jd {C:b8} {lo mode:Nat} {k:FuncId} {first cap args:List I} {H:List ar}:hv C lo mode H (.func k first cap::args)=eQ C lo mode (.fn k) (first++args++cap) H:=rfl
theorem xK {C:b8} {acc:c7} (cq:iG C acc) {lo:Nat} {k:FuncId} {as:List I} {v:I} (aB:as.all (cr 8)=true) (hm:(k,as.map I.cc,v)∈acc) (H:List ar) :
  eQ C lo 3 (.fn k) as H=some (v.cc,H):=by
 obtain ⟨r,H2,ab,ae⟩:=cq _ hm;simp only [eQ,aB,ab,sb,ae,se]
theorem EN {C:b8} {acc:c7} (cq:iG C acc) {lo:Nat} {k:FuncId} {as:List I} {v:I} (H:List ar) (aB:(as.map (iD H)).all (cr 8)=true) (ah:fz v=true) (hm:(k,(as.map (iD H)).map I.cc,v)∈acc) :
  eQ C lo 6 (.fn k) as H=some (v.cc,H):=by
 obtain ⟨r,H2,ab,ae⟩:=cq _ hm;simp only [eQ,aB,ab,sb,ae,ah]
theorem BB {lo:Nat} {ops:Array Oper} {o:Oper} {an:bZ} {cl:dP} (ai:iz P ops o an=some cl) {acc:c7} (hK:h2 P acc) {T:List I} {H:List ar} {K:c7→List I→List ar→Prop}
  (h:hC P lo true cl acc T H K):∃ eP bf H',h2 P eP∧(∀ p∈acc,p∈eP)∧(∀ C,iG C eP→dw P C lo ops o an ⟨T,H⟩=some ⟨bf,H'⟩)∧K eP bf H':=by
 rcases oT ai h with ⟨hw,al⟩ | ⟨hw,al⟩
 ·exact ⟨acc,_,_,hK,fun _ h=>h,fun C _=>oN hw,al⟩
 ·rcases oC al with ⟨mode,hm,al⟩ | al
  ·obtain ⟨rfl,c,f,aC,ak⟩:=xR hm;generalize fv:fm (dF o an.mode) (rd T an.cC (opsOf o)).1=vs at al;(have aq:∀ C,a3 P C lo o an.mode vs H=hv C lo an.mode H vs:=fun C=>by simp only [a3,aC,ak]);unfold lT at al;split at al
   ·split at al
    ·(rename_i args _ k first cap);rw [jE,jE] at al;split at al
     ·rename_i hh;obtain ⟨aB,al⟩:=al;rw [nA] at al;obtain ⟨v,j1,mj,al⟩:=al;refine ⟨_,_,_,⟨fun p aB=>?_,fun p aB q a' ab ae=>?_⟩,fun p aB=>tU _ aB,fun C cq=>fY hw ?_,al⟩
      ·rcases sA.1 aB with rfl | aB
       ·exact j1
       ·exact hK.1 p aB
      ·rcases sA.1 aB with rfl | aB <;> rcases sA.1 a' with rfl | a'
       ·rfl
       ·exact (mj q a' ab.symm ae.symm).symm
       ·exact mj p aB ab ae
       ·exact hK.2 p aB q a' ab ae
      ·rw [fv,aq C,hh,jd,sx];exact xK cq aB (tZ) H
     ·rename_i hh;obtain ⟨aB,gH,rfl,v,ah,j1,mj,al⟩:=al;refine ⟨_,_,_,⟨fun p aB=>?_,fun p aB q a' ab ae=>?_⟩,fun p aB=>tU _ aB,fun C cq=>fY hw ?_,al⟩
      ·rcases sA.1 aB with rfl | aB
       ·exact j1
       ·exact hK.1 p aB
      ·rcases sA.1 aB with rfl | aB <;> rcases sA.1 a' with rfl | a'
       ·rfl
       ·exact (mj q a' ab.symm ae.symm).symm
       ·exact mj p aB ab ae
       ·exact hK.2 p aB q a' ab ae
      ·rw [fv,aq C,hh,jd,sx];exact EN cq H aB ah (tZ)
     ·exact al.elim
    ·exact al.elim
    ·exact al.elim
   ·exact al.elim
  ·obtain ⟨v,H',ab,ae⟩:=oz al;exact ⟨acc,_,_,hK,fun _ h=>h,fun C _=>fY hw (ab C),ae⟩
theorem Gu {lo:Nat} {ops:Array Oper} {o:Oper} {an:bZ} {cl:dP} (ai:iz P ops o an=some cl) {acc:c7} {T:List I} {H:List ar} {K:c7→List I→List ar→Prop}
  (h:hC P lo false cl acc T H K):iI P lo ops o an ⟨T,H⟩ fun aD=>K acc aD.T aD.H:=by
 rcases oT ai h with ⟨hw,al⟩ | ⟨hw,al⟩
 ·exact .inl ⟨_,_,lY,oN hw,al⟩
 ·rcases oC al with ⟨mode,hm,al⟩ | al
  ·obtain ⟨rfl,c,f,aC,ak⟩:=xR hm;generalize fv:fm (dF o an.mode) (rd T an.cC (opsOf o)).1=vs at al;(have aq:∀ C,a3 P C lo o an.mode vs H=hv C lo an.mode H vs:=fun C=>by simp only [a3,aC,ak]);unfold lT at al;split at al
   ·split at al
    ·(rename_i args _ k first cap);rw [jE,jE] at al;split at al
     ·rename_i hh;obtain ⟨aB,al⟩:=al;rw [nA] at al;obtain ⟨v,j1,al⟩:=al
      obtain ⟨C,bn,cq⟩:=nu (acc:=[(k,(first++(args++cap)).map I.cc,v)]) (P:=P) ⟨fun p aB=>by simp only [sS] at aB;subst aB;exact j1,fun p aB q a' _ _=>by
       simp only [sS] at aB a';subst aB;subst a';rfl⟩
      refine .inl ⟨C,_,bn,fY hw (v:=v.cc) (H':=H) ?_,al⟩;rw [fv,aq C,hh,jd,sx];exact xK cq aB (tZ) H
     ·rename_i hh;obtain ⟨v,H',⟨C,bn,dW⟩,al⟩:=al;refine .inl ⟨C,_,bn,fY hw (v:=v) (H':=H') ?_,al⟩;rw [fv,aq C,hh,jd,sx];exact dW
     ·obtain ⟨v,H',⟨C,bn,dW⟩,al⟩:=al;refine .inl ⟨C,_,bn,fY hw (v:=v) (H':=H') ?_,al⟩;rw [fv,aq C,jd,sx];exact dW
    ·obtain ⟨v,H',⟨C,bn,dW⟩,al⟩:=al;refine .inl ⟨C,_,bn,fY hw (v:=v) (H':=H') ?_,al⟩;rw [fv,aq C];exact dW
    ·exact al.elim
   ·exact al.elim
  ·obtain ⟨v,H',ab,ae⟩:=oz al;exact .inl ⟨_,_,lY,fY hw (ab _),ae⟩
end
end Go.Proofs.Ytkoioidpbbbaiaa.Ab


namespace Go.Proofs.Ytkoioidpbbbaiaa.Ab
open Go
section
variable {P:Program}
theorem iI.mono {lo:Nat} {ops:Array Oper} {o:Oper} {an:bZ} {s:a6} {K K':a6→Prop} (h:iI P lo ops o an s K) (al:∀ s,K s→K' s):iI P lo ops o an s K':=by
 rcases h with ⟨C,aD,ab,ae,aF⟩ | ⟨it,r,m,since,seen,es,clock,aA,aG,aT,br,bg,bd,dd,dy,dS⟩
 ·exact .inl ⟨C,aD,ab,ae,al _ aF⟩
 ·exact .inr ⟨it,r,m,since,seen,es,clock,aA,aG,aT,br,bg,bd,dd,fun h=>al _ (dy h),fun e ab ae=>al _ (dS e ab ae)⟩
theorem AR {lo:Nat} {ops:Array Oper} {K K':a6→Prop} (al:∀ s,K s→K' s):∀ {l:List Oper} {as:List bZ} {s:a6},runN P lo ops l as s K→runN P lo ops l as s K'
 | [],_,s,h=>al s h
 | _::_,_,_,h=>iI.mono h fun _ aX=>AR al aX
theorem zN {f g:a6→(cQ→a6→Prop)→Prop} (nL:∀ s Q cM,(∀ e s,Q e s→cM e s)→f s Q→g s cM) {Q cM:cQ→a6→Prop} (a':∀ e s,Q e s→cM e s):∀ {n:Nat} {s:a6},fB f n s Q→fB g n s cM
 | 0,s,h=>h
 | n+1,s,h=>nL s _ _ (fun e aD aX=>by
   cases e with
   | normal=>exact zN nL a' aX
   | ret=>exact a' _ _ aX
   | exit id=>exact a' _ _ aX) h
theorem oS {A:dx} {fn:FuncId} {lo:Nat} {rl:Option Nat}:∀ {c:Code} {a2:Nat} {s:a6} {Q cM:cQ→a6→Prop},(∀ e s,Q e s→cM e s)→dc P A fn lo rl c a2 s Q→dc P A fn lo rl c a2 s cM:=by
 intro c
 induction c with
 | skip=>intro a2 s Q cM a' h;exact a' _ _ h
 | label l=>intro a2 s Q cM a' h;exact a' _ _ h
 | ret=>intro a2 s Q cM a' h;exact a' _ _ h
 | exit id=>intro a2 s Q cM a' h;exact a' _ _ h
 | goto l=>intro a2 s Q cM a' h;exact h
 | refuse y=>intro a2 s Q cM a' h;exact h
 | region id ops draw =>
   intro a2 s Q cM a' h;simp only [dc] at h ⊢;split at h
   ·obtain ⟨acc,s1,s2,ab,ae,aF,a_⟩:=h;exact ⟨acc,s1,s2,ab,ae,a' _ _ aF,a' _ _ a_⟩
   cases draw with
   | true =>
     rcases h with ⟨acc,aD,ab,ae,aF⟩ | ⟨C,aD,ab,ae,aF⟩
     ·exact .inl ⟨acc,aD,ab,ae,a' _ _ aF⟩
     ·exact .inr ⟨C,aD,ab,ae,a' _ _ aF⟩
   | false=>exact AR (fun s h=>a' _ _ h) h
 | seq a b fk fw =>
   intro a2 s Q cM a' h;refine fk (fun e aD aX=>?_) h;cases e with
   | normal=>exact fw a' aX
   | ret=>exact a' _ _ aX
   | exit id=>exact a' _ _ aX
 | cond c a b fk fw =>
   intro a2 s Q cM a' h;rcases h with ⟨t,ax,h⟩ | ⟨ax,ab,ae⟩
   ·refine .inl ⟨t,ax,?_⟩;cases t with
    | true=>exact fk a' h
    | false=>exact fw a' h
   ·exact .inr ⟨ax,fk a' ab,fw a' ae⟩
 | block id c a8 =>
   intro a2 s Q cM a' h;refine a8 (fun e aD aX=>?_) h;cases e with
   | normal=>exact a' _ _ aX
   | ret=>exact a' _ _ aX
   | exit bC =>
     simp only at aX ⊢;by_cases aE:bC=id
     ·simp only [aE,if_true] at aX ⊢;exact a' _ _ aX
     ·simp only [aE,if_false] at aX ⊢;exact a' _ _ aX
 | loop c a8 =>
   intro a2 s Q cM a' h;obtain ⟨n,h⟩:=h;refine ⟨n,?_⟩;refine zN ?_ a' h;intro s Q cM a' h;exact a8 a' h
 | scope c a8=>intro a2 s Q cM a' h;exact a8 a' h
 | rangeFunc f bq as ct _ _ =>
   intro a2 s Q cM a' h;obtain ⟨C,e,aD,ab,ae,aF⟩:=h;exact ⟨C,e,aD,ab,ae,a' _ _ aF⟩
theorem ox {lo:Nat} {ops:Array Oper}:∀ {l:List Oper} {as:List bZ} {rl:List dP} {acc:c7} {T:List I} {H:List ar} {K:List I→List ar→Prop},e7 P ops l as=some rl→gY P lo false rl acc T H K →
  runN P lo ops l as ⟨T,H⟩ fun aD=>K aD.T aD.H
 | [],as,rl,acc,T,H,K,ao,h=>by simp only [e7,Option.some.injEq] at ao;subst ao;exact h
 | o::r,as,rl,acc,T,H,K,ao,h=>by
   simp only [e7] at ao;split at ao
   ·rename_i cl l' ab ae;simp only [Option.some.injEq] at ao;subst ao;exact iI.mono (Gu ab h) fun aD aX=>ox ae aX
   ·cases ao
theorem nF {C:b8} {lo:Nat} {ops:Array Oper} {o:Oper} {r:List Oper} {as:List bZ} {s:a6}:ee P C lo ops (o::r) as s=(dw P C lo ops o (as.headD {}) s).bind (ee P C lo ops r as.tail):=by
 rw [ee];unfold dw;cases hw:eB ops o s.T with
 | none=>rfl
 | some b=>cases b <;> rfl
theorem Aq {lo:Nat} {ops:Array Oper}:∀ {l:List Oper} {as:List bZ} {rl:List dP} {acc:c7} {T:List I} {H:List ar} {K:List I→List ar→Prop},e7 P ops l as=some rl→h2 P acc→gY P lo true rl acc T H K →
  ∃ eP bf H',h2 P eP∧(∀ p∈acc,p∈eP)∧(∀ C,iG C eP→ee P C lo ops l as ⟨T,H⟩=some ⟨bf,H'⟩)∧K bf H'
 | [],as,rl,acc,T,H,K,ao,cu,h=>by simp only [e7,Option.some.injEq] at ao;subst ao;exact ⟨acc,T,H,cu,fun _ h=>h,fun _ _=>rfl,h⟩
 | o::r,as,rl,acc,T,H,K,ao,cu,h=>by
   simp only [e7] at ao;split at ao
   ·rename_i cl l' ab ae;simp only [Option.some.injEq] at ao;subst ao;obtain ⟨BT,g6,H1,aA,aG,aT,br⟩:=BB ab cu h;obtain ⟨BU,en,H2,bm,cw,e2,lR⟩:=Aq ae aA br;refine ⟨BU,en,H2,bm,fun p aB=>cw p (aG p aB),fun C cq=>?_,lR⟩;rw [nF,aT C (fun p aB=>cq p (cw p aB)),sb];exact e2 C cq
   ·cases ao
theorem Gv {lo:Nat} {ops:Array Oper} {o:Oper} {an:bZ} {cl:dP} (ai:iz P ops o an=some cl) {acc:c7} {T:List I} {H:List ar} {K:c7→List I→List ar→Prop}
  (h:hC P lo false cl acc T H K):∃ C aD,c6 P C∧dw P C lo ops o an ⟨T,H⟩=some aD∧K acc aD.T aD.H:=by
 rcases oT ai h with ⟨hw,al⟩ | ⟨hw,al⟩
 ·exact ⟨_,_,lY,oN hw,al⟩
 ·rcases oC al with ⟨mode,hm,al⟩ | al
  ·obtain ⟨rfl,c,f,aC,ak⟩:=xR hm;generalize fv:fm (dF o an.mode) (rd T an.cC (opsOf o)).1=vs at al;(have aq:∀ C,a3 P C lo o an.mode vs H=hv C lo an.mode H vs:=fun C=>by simp only [a3,aC,ak]);unfold lT at al;split at al
   ·split at al
    ·(rename_i args _ k first cap);rw [jE,jE] at al;split at al
     ·rename_i hh;obtain ⟨aB,al⟩:=al;rw [nA] at al;obtain ⟨v,j1,al⟩:=al
      obtain ⟨C,bn,cq⟩:=nu (acc:=[(k,(first++(args++cap)).map I.cc,v)]) (P:=P) ⟨fun p aB=>by simp only [sS] at aB;subst aB;exact j1,fun p aB q a' _ _=>by
       simp only [sS] at aB a';subst aB;subst a';rfl⟩
      refine ⟨C,_,bn,fY hw (v:=v.cc) (H':=H) ?_,al⟩;rw [fv,aq C,hh,jd,sx];exact xK cq aB (tZ) H
     ·rename_i hh;obtain ⟨v,H',⟨C,bn,dW⟩,al⟩:=al;refine ⟨C,_,bn,fY hw (v:=v) (H':=H') ?_,al⟩;rw [fv,aq C,hh,jd,sx];exact dW
     ·obtain ⟨v,H',⟨C,bn,dW⟩,al⟩:=al;refine ⟨C,_,bn,fY hw (v:=v) (H':=H') ?_,al⟩;rw [fv,aq C,jd,sx];exact dW
    ·obtain ⟨v,H',⟨C,bn,dW⟩,al⟩:=al;refine ⟨C,_,bn,fY hw (v:=v) (H':=H') ?_,al⟩;rw [fv,aq C];exact dW
    ·exact al.elim
   ·exact al.elim
  ·obtain ⟨v,H',ab,ae⟩:=oz al;exact ⟨_,_,lY,fY hw (ab _),ae⟩
theorem BA {lo:Nat} {ops:Array Oper} {o:Oper} {an:bZ} {cl:dP} (ai:iz P ops o an=some cl) (aI:ik cl=false) {acc:c7} {T:List I} {H:List ar} {K:c7→List I→List ar→Prop}
  (h:hC P lo false cl acc T H K):∃ aD,(∀ C,dw P C lo ops o an ⟨T,H⟩=some aD)∧K acc aD.T aD.H:=by
 have Da:cl.k=gZ P o an.mode:=by
  unfold iz at ai;split at ai
  ·cases ai;rfl
  ·split at ai
   ·cases ai;rfl
   ·cases ai
 rcases oT ai h with ⟨hw,al⟩ | ⟨hw,al⟩
 ·exact ⟨_,fun C=>oN hw,al⟩
 ·rcases oC al with ⟨mode,hm,al⟩ | al
  ·unfold ik at aI;rw [Da,hm] at aI;cases aI
  ·obtain ⟨v,H',ab,ae⟩:=oz al;exact ⟨_,fun C=>fY hw (ab C),ae⟩
theorem Ap {lo:Nat} {ops:Array Oper}:∀ {l:List Oper} {as:List bZ} {rl:List dP} {acc:c7} {T:List I} {H:List ar} {K:List I→List ar→Prop},e7 P ops l as=some rl→rl.countP ik=0→gY P lo false rl acc T H K →
  ∃ aD,(∀ C,ee P C lo ops l as ⟨T,H⟩=some aD)∧K aD.T aD.H
 | [],as,rl,acc,T,H,K,ao,_,h=>by simp only [e7,Option.some.injEq] at ao;subst ao;exact ⟨⟨T,H⟩,fun _=>rfl,h⟩
 | o::r,as,rl,acc,T,H,K,ao,aI,h=>by
   simp only [e7] at ao;split at ao
   ·rename_i cl l' ab ae;simp only [Option.some.injEq] at ao;subst ao;rw [List.countP_cons] at aI;have zc:ik cl=false:=by
     cases aj:ik cl with
     | true=>rw [aj] at aI;simp at aI
     | false=>rfl
    rw [zc] at aI;obtain ⟨s1,aA,aG⟩:=BA ab zc h;obtain ⟨s2,bm,cw⟩:=Ap ae (by simpa using aI) aG;refine ⟨s2,fun C=>?_,cw⟩;rw [nF,aA C,sb];exact bm C
   ·cases ao
theorem Ar {lo:Nat} {ops:Array Oper}:∀ {l:List Oper} {as:List bZ} {rl:List dP} {acc:c7} {T:List I} {H:List ar} {K:List I→List ar→Prop},e7 P ops l as=some rl→rl.countP ik≤1→gY P lo false rl acc T H K →
  ∃ C aD,c6 P C∧ee P C lo ops l as ⟨T,H⟩=some aD∧K aD.T aD.H
 | [],as,rl,acc,T,H,K,ao,_,h=>by simp only [e7,Option.some.injEq] at ao;subst ao;exact ⟨_,⟨T,H⟩,lY,rfl,h⟩
 | o::r,as,rl,acc,T,H,K,ao,aI,h=>by
   simp only [e7] at ao;split at ao
   ·rename_i cl l' ab ae;simp only [Option.some.injEq] at ao;subst ao;rw [List.countP_cons] at aI;cases aj:ik cl with
    | true =>
      rw [aj] at aI;obtain ⟨C,s1,h3,aA,aG⟩:=Gv ab h;have aI:l'.countP ik+1≤1:=aI;obtain ⟨s2,bm,cw⟩:=Ap ae (by omega) aG;refine ⟨C,s2,h3,?_,cw⟩;rw [nF,aA,sb];exact bm C
    | false =>
      rw [aj] at aI;obtain ⟨s1,aA,aG⟩:=BA ab aj h;obtain ⟨C,s2,de,bm,cw⟩:=Ar ae (by simpa using aI) aG;refine ⟨C,s2,de,?_,cw⟩;rw [nF,aA C,sb];exact bm
   ·cases ao
theorem Gw {lo:Nat} {cl:dP} (aI:mW cl=true) {acc:c7} {T:List I} {H:List ar} {K K':c7→List I→List ar→Prop} (fJ:K acc=K' acc) (h:hC P lo true cl acc T H K):hC P lo true cl acc T H K':=by
 have e:∀ (vs:List I) (H:List ar) (F:c7→I→List ar→Prop),lu P lo true cl.k acc vs H F=bO P lo cl.k vs H (F acc):=fun vs H F=>by
  unfold mW at aI;unfold lu;split
  ·rename_i m al;rw [al] at aI;cases aI
  ·rfl
 unfold hC at h ⊢;simp only [e,fJ] at h ⊢;exact h
theorem xN {lo:Nat} {ops:Array Oper} {an:List bZ}:∀ {O:List Nat} {rl:List dP} {acc:c7} {T:List I} {H:List ar} {K:List I→List ar→Prop},k5 P ops an O=some rl→rl.all mW=true→h2 P acc→gY P lo true rl acc T H K →
  ∃ bf H',(∀ C,iG C acc→cU P C lo ops an O ⟨T,H⟩=some ⟨bf,H'⟩)∧K bf H'
 | [],rl,acc,T,H,K,ao,_,cu,h=>by simp only [k5,Option.some.injEq] at ao;subst ao;exact ⟨T,H,fun _ _=>rfl,h⟩
 | i::r,rl,acc,T,H,K,ao,aI,cu,h=>by
   simp only [k5] at ao;split at ao
   ·rename_i o hi;split at ao
    ·rename_i cl l' ab ae;simp only [Option.some.injEq] at ao;subst ao;simp only [List.all_cons,sn] at aI;have aX:=Gw aI.1 (K':=fun eP bf H'=>eP=acc∧gY P lo true l' acc bf H' K) (by funext bf H';simp) h;obtain ⟨BT,g6,H1,_,_,aT,rfl,br⟩:=BB ab cu aX;obtain ⟨en,H2,e2,lR⟩:=xN ae aI.2 cu br;refine ⟨en,H2,fun C cq=>?_,lR⟩;simp only [cU,hi];rw [aT C cq,sb];exact e2 C cq
    ·cases ao
   ·cases ao
theorem DX {A:dx} {fn:FuncId} {lo:Nat} {rl:Option Nat} {id:Nat} {ops:Array Oper} {draw:Bool} {a2:Nat} {x:List Nat×Nat×Nat} {rc:gE} (aL:A.im=[]) (ax:kk A id draw=some x) (ao:xu P ops (A.ops.getD id []) x=some rc)
  {T:List I} {H:List ar} {Q:cQ→List I→List ar→Prop} (h:dQ P A fn lo rl rc T H Q):dc P A fn lo rl (.region id ops draw) a2 ⟨T,H⟩ fun e s=>Q e s.T s.H:=by
 have al:e5 A.im id ⟨T,H⟩=⟨T,H⟩:=by rw [aL];rfl
 unfold xu at ao;split at ao
 ·rename_i l1 l2 ab ae;split at ao
  ·rename_i aI;simp only [Option.some.injEq] at ao;subst ao;rw [sn] at aI;have aQ:h2 P []:=⟨fun p aB=>by simp at aB,fun p aB=>by simp at aB⟩;obtain ⟨en,H2,bm,cw⟩:=xN ab aI.1 aQ h.1;obtain ⟨dH,hF,a7,a9⟩:=xN ae aI.2 aQ h.2;simp only [dc,ax,al];exact ⟨[],⟨en,H2⟩,⟨dH,hF⟩,aQ,fun C _ cq=>⟨bm C cq,a7 C cq⟩,cw,a9⟩
  ·cases ao
 ·cases ao
theorem DW {A:dx} {fn:FuncId} {lo:Nat} {rl:Option Nat} {id:Nat} {ops:Array Oper} {draw:Bool} {a2:Nat} {rc:gE} (aL:A.im=[]) (ax:kk A id draw=none) (ao:xt P ops draw (A.ops.getD id [])=some rc)
  {T:List I} {H:List ar} {Q:cQ→List I→List ar→Prop} (h:dQ P A fn lo rl rc T H Q):dc P A fn lo rl (.region id ops draw) a2 ⟨T,H⟩ fun e s=>Q e s.T s.H:=by
 have al:e5 A.im id ⟨T,H⟩=⟨T,H⟩:=by rw [aL];rfl
 have gen:∀ {d:Bool} {l:List Oper},ops.toList=l→draw=d→((e7 P ops l (A.ops.getD id [])).map fun l'=>gE.ow (d && !oL l') l')=some rc→dc P A fn lo rl (.region id ops draw) a2 ⟨T,H⟩ fun e s=>Q e s.T s.H:=fun {d l} kQ a1 eF=>by
  clear ao;simp only [r_] at eF;obtain ⟨AN,eF,rfl⟩:=eF;subst a1;cases draw with
  | true =>
    simp only [dc,ax];cases ah:oL AN with
    | false =>
      rw [ah] at h;obtain ⟨eP,bf,H',aA,_,aT,br⟩:=Aq eF ⟨fun p aB=>by simp at aB,fun p aB=>by simp at aB⟩ h;exact .inl ⟨eP,⟨bf,H'⟩,aA,fun C _ cq=>by rw [al,kQ];exact aT C cq,br⟩
    | true =>
      rw [ah] at h;simp only [oL,sn] at ah;obtain ⟨C,aD,de,bm,cw⟩:=Ar eF (by simpa using ah.2) h;exact .inr ⟨C,aD,de,by rw [al,kQ];exact bm,cw⟩
  | false =>
    simp only [dc,ax];rw [al,kQ];exact ox eF h
 unfold xt at ao;split at ao
 ·rename_i o rest kQ;split at ao
  ·rename_i it aC aO;simp only [r_] at ao;obtain ⟨AN,ao,rfl⟩:=ao;simp only [dc,ax];rw [al,kQ];refine .inr ?_;simp only [dQ,z9,iQ] at h;split at h
   ·rename_i r ai;obtain ⟨m,since,seen,clock,es,aA,aG,aT,br,bg,bd⟩:=h;simp only [xL] at bg bd;exact ⟨.tmp it,r,m,since,seen,es,clock,aC,aO,ai,aA,aG,aT,br,fun h=>ox ao (bg h),fun e ab ae=>ox ao (bd e ab ae)⟩
   ·exact h.elim
  ·exact gen kQ rfl ao
 ·exact gen rfl rfl ao
theorem fB.more {f:a6→(cQ→a6→Prop)→Prop} {Q:cQ→a6→Prop} (aP:∀ s Q cM,(∀ e s,Q e s→cM e s)→f s Q→f s cM):∀ {n:Nat} {s:a6},fB f n s Q→fB f (n+1) s Q
 | 0,s,h=>h.elim
 | n+1,s,h=>aP _ _ _ (fun e aD aX=>by
    cases e with
    | normal=>exact fB.more aP aX
    | ret=>exact aX
    | exit id=>exact aX) h
theorem D2 {f:a6→(cQ→a6→Prop)→Prop} {Q:cQ→a6→Prop} (h0:Nat→a6→Prop) (step:∀ m s,h0 m s→f s fun e aD=>match e with | .normal=>∃ hr,hr<m∧h0 hr aD | e=>Q e aD)
  (aP:∀ s Q cM,(∀ e s,Q e s→cM e s)→f s Q→f s cM):∀ (m:Nat) (s:a6),h0 m s→fB f (m+1) s Q:=by
 intro m
 induction m using Nat.strongRecOn with
 | _ m a8 =>
   intro s h;refine aP _ _ _ (fun e aD aX=>?_) (step m s h);cases e with
   | normal =>
     obtain ⟨hr,hm,aX⟩:=aX
     have:∀ k,fB f (hr+1+k) aD Q:=fun k=>by
      induction k with
      | zero=>exact a8 hr hm aD aX
      | succ k DO=>exact fB.more aP DO
     (have e:m=hr+1+(m-(hr+1)):=by omega);rw [e];exact this _
   | ret=>exact aX
   | exit id=>exact aX
theorem G7 {A:dx} {fn:FuncId} {lo:Nat} {rl:Option Nat}:∀ {c:Code} {a2:Nat} {rc:gE} {T:List I} {H:List ar} {Q:cQ→List I→List ar→Prop},ey P A c a2=some rc→dQ P A fn lo rl rc T H Q →
  dc P A fn lo rl c a2 ⟨T,H⟩ fun e s=>Q e s.T s.H:=by
 intro c
 induction c with
 | skip=>intro a2 rc T H Q ao h;simp only [ey,Option.some.injEq] at ao;subst ao;exact h
 | label l=>intro a2 rc T H Q ao h;simp only [ey,Option.some.injEq] at ao;subst ao;exact h
 | ret=>intro a2 rc T H Q ao h;simp only [ey,Option.some.injEq] at ao;subst ao;exact h
 | exit id=>intro a2 rc T H Q ao h;simp only [ey,Option.some.injEq] at ao;subst ao;exact h
 | goto l=>intro a2 rc T H Q ao h;simp [ey] at ao
 | refuse y=>intro a2 rc T H Q ao h;simp [ey] at ao
 | region id ops draw =>
   intro a2 rc T H Q ao h;simp only [ey] at ao;split at ao
   ·rename_i aL;split at ao
    ·rename_i p ax;exact DX aL ax ao h
    ·rename_i ax;exact DW aL ax ao h
   ·cases ao
 | seq a b fk fw =>
   intro a2 rc T H Q ao h;simp only [ey] at ao;split at ao
   ·rename_i x y aj aY;simp only [Option.some.injEq] at ao;subst ao;show dc P A fn lo rl a a2 ⟨T,H⟩ _;refine oS (fun e s aX=>?_) (fk aj h);cases e with
    | normal=>exact fw aY aX
    | ret=>exact aX
    | exit id=>exact aX
   ·cases ao
 | cond c a b fk fw =>
   intro a2 rc T H Q ao h;simp only [ey] at ao;split at ao
   ·rename_i x y aj aY;simp only [Option.some.injEq] at ao;subst ao
    have key:∀ v,az T c=v→(match v with
      | .bool t=>(match t with | true=>dQ P A fn lo rl x T H Q | false=>dQ P A fn lo rl y T H Q)
      | .dA=>dQ P A fn lo rl x T H Q∧dQ P A fn lo rl y T H Q
      | _=>False)→dc P A fn lo rl (.cond c a b) a2 ⟨T,H⟩ fun e s=>Q e s.T s.H:=fun v ad h=>by
     cases v with
     | bool t =>
       refine .inl ⟨t,ad,?_⟩;cases t with
       | true=>exact fk aj h
       | false=>exact fw aY h
     | dA=>exact .inr ⟨ad,fk aj h.1,fw aY h.2⟩
     | _=>exact h.elim
    cases c with
    | tmp t=>simp only [oy,dQ,iQ] at h;exact key _ rfl h
    | const v=>exact key (az [] (.const v)) rfl h
    | func f=>exact key (az [] (.func f)) rfl h
    | global g=>exact key (az [] (.global g)) rfl h
   ·cases ao
 | block id c a8 =>
   intro a2 rc T H Q ao h;simp only [ey,r_] at ao;obtain ⟨x,aj,rfl⟩:=ao;show dc P A fn lo rl c id ⟨T,H⟩ _;refine oS (fun e s aX=>?_) (a8 aj h);cases e with
   | normal=>exact aX
   | ret=>exact aX
   | exit bC =>
     simp only at aX ⊢;by_cases aE:bC=id
     ·subst aE;simp only [if_true];rw [uT] at aX;exact aX
     ·simp only [aE,if_false]
      have:Nat.beq bC id=false:=by
       cases af:Nat.beq bC id with
       | false=>rfl
       | true=>exact absurd (sN af) aE
      rw [this] at aX;exact aX
 | loop c a8 =>
   intro a2 rc T H Q ao h;simp only [ey,r_] at ao;obtain ⟨x,aj,rfl⟩:=ao;simp only [dQ,DT,z5] at h;obtain ⟨h0,m,hm,DJ⟩:=h;have kK:∀ s:a6,e5 A.il a2 s=⟨match l8 a2 A.il with | some k=>eZ k s.T | none=>s.T,s.H⟩:=fun s=>by
    unfold e5;cases l8 a2 A.il <;> rfl
   refine ⟨m+1,D2 (f:=fun aD=>dc P A fn lo rl c a2 (e5 A.il a2 aD)) (fun m s=>h0 m (e5 A.il a2 s).T s.H) ?_ (fun s Q cM a' h=>oS a' h) m ⟨T,H⟩ (by rw [kK];exact hm)⟩;intro m s kF;rw [kK] at kF;have h:=a8 aj (DJ m _ s.H kF);show dc P A fn lo rl c a2 (e5 A.il a2 s) _;rw [kK];refine oS (fun e aD aX=>?_) h;cases e with
   | normal=>simp only at aX ⊢;rw [kK];exact aX
   | ret=>exact aX
   | exit id=>exact aX
 | scope c a8=>intro a2 rc T H Q ao h;exact a8 ao h
 | rangeFunc f bq as ct _ _ =>
   intro a2 rc T H Q ao h;simp only [ey,Option.some.injEq] at ao;subst ao;have key:∀ v,az T f=v→oF P A fn lo rl v bq.toList as ct T H Q→dc P A fn lo rl (.rangeFunc f bq as ct) a2 ⟨T,H⟩ fun e s=>Q e s.T s.H:=fun v ad h=>by
    unfold oF at h;split at h
    ·(rename_i k first cap);obtain ⟨hg,r,H',st,cL,fn',bf,Ah,gH,yz,iM,ah,ao,cJ,a'⟩:=h;have fin:∀ (e:cQ) (H2:List ar),exec P A (k_ (.fn k) (first++[.yield H.length]++cap) (H++[.loop .ready none fn (T.map I.view) bq.toList as ct A]) lo r H') fn lo 0 rl (.rangeFunc f bq as ct) a2 ⟨T,H⟩=some (e,⟨T.map I.settle,H2⟩)→Q e (T.map I.settle) H2 →
       dc P A fn lo rl (.rangeFunc f bq as ct) a2 ⟨T,H⟩ fun e s=>Q e s.T s.H:=fun e H2 he a'=>⟨_,e,_,EC ah,he,a'⟩
     have hex:∀ (e:cQ),(match cL with | none=>some cQ.normal | some .ret=>some .ret | some (.exit id)=>some (.exit id) | _=>none)=some e →
       exec P A (k_ (.fn k) (first++[.yield H.length]++cap) (H++[.loop .ready none fn (T.map I.view) bq.toList as ct A]) lo r H') fn lo 0 rl (.rangeFunc f bq as ct) a2 ⟨T,H⟩=some (e,⟨T.map I.settle,H'.set H.length .dead⟩):=fun e he=>by
      simp only [exec,ad,hg,EB,ao,cJ,if_false];split at he <;> simp_all
     split at a'
     ·exact fin _ _ (hex .normal rfl) a'
     ·exact fin _ _ (hex .ret rfl) a'
     ·exact fin _ _ (hex (.exit _) rfl) a'
     ·exact a'.elim
    ·exact h.elim
   cases f with
   | tmp t=>simp only [oy,dQ,iQ] at h;exact key _ rfl h
   | const v=>exact key (az [] (.const v)) rfl h
   | func g=>exact key (az [] (.func g)) rfl h
   | global g=>exact key (az [] (.global g)) rfl h
end
end Go.Proofs.Ytkoioidpbbbaiaa.Ab
