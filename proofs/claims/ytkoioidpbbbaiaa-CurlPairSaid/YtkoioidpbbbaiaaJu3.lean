
import Derived.Test.YtkoioidpbbbaiaaJu2
import Derived.Maps.RangeRun
set_option linter.unusedSimpArgs false
set_option linter.unusedVariables false
set_option linter.unusedSectionVars false

open Array renaming getD_eq_getD_getElem?→sw,getElem?_eq_getElem→su,getElem?_eq_some_iff→sO,getElem?_setIfInBounds_ne→uO,length_toList→s7,toArray_toList→tJ
open Bool renaming and_eq_true→sn,false_eq_true→tS,or_eq_true→tC
open Classical renaming choose_spec→uC
open List renaming all_eq_true→sr,append_assoc→sx,drop_eq_getElem_cons→s9,eq_nil_iff_forall_not_mem→uB,filter_eq_self→tF,filter_filter→uU,foldl_cons→uN,getD_eq_getElem?_getD→sA,getElem?_append_left→sj,getElem?_append_right→sv,getElem?_cons_zero→tK,getElem?_eq_getElem→sk,getElem?_eq_some_iff→sd,getElem?_map→sq,getElem?_set_ne→sf,getElem?_set_self→sm,length_cons→sM,length_eq_zero_iff→sP,length_erase_of_mem→tE,length_map→s6,length_nil→tW,length_set→s8,mapM_cons→vv,map_cons→sI,map_drop→tL,map_take→tU,mem_cons→sB,mem_cons_of_mem→tV,mem_cons_self→tZ,mem_filter→sW,mem_iff_getElem?→sZ,mem_map→sD,mem_of_getElem?→sy,mem_range→sJ,mem_singleton→sS,nodup_range→uj,of_mem_zip→uW,pairwise_cons→tD,take_append_drop→vD,zip_cons_cons→vz
open Nat renaming beq_eq→tY,beq_refl→uV,ble_eq→tH,ble_eq_true_of_le→tq,blt_eq→sV,eq_of_beq_eq_true→sR,le_of_ble_eq_true→tu,le_refl→se,lt_or_ge→sQ
open Option renaming bind_eq_some_iff→si,bind_some→sc,isNone_iff_eq_none→ta,isSome_eq_false_iff→s_,isSome_iff_exists→tc,map_eq_some_iff→sb,map_some→sg
namespace Go.Proofs.Ytkoioidpbbbaiaa.Ab
open Go
section
variable {P:Program}
theorem mQ (ms:List Nat) (j:Nat):∀ (l:List Edge) (n6:Nat),(l.foldl (fun m e=>if Region.binds .any e then m ||| (ms.getD e.on 0 ||| 1 <<< e.on) else m) n6).testBit j=true →
  n6.testBit j=true∨∃ e∈l,Region.binds .any e=true∧((ms.getD e.on 0).testBit j=true∨j=e.on)
 | [],n6,h=>.inl h
 | e::l,n6,h=>by
   simp only [uN] at h;rcases mQ ms j l _ h with ab | ⟨cS,jM,af,ab⟩
   ·by_cases af:Region.binds .any e=true
    ·simp only [af,if_true,Nat.testBit_or,tC] at ab;rcases ab with ab | ab | ab
     ·exact .inl ab
     ·exact .inr ⟨e,by simp,af,.inl ab⟩
     ·refine .inr ⟨e,by simp,af,.inr ?_⟩;rw [Nat.one_shiftLeft,Nat.testBit_two_pow] at ab;simpa using (of_decide_eq_true ab).symm
    ·simp only [af] at ab;exact .inl ab
   ·exact .inr ⟨cS,by simp [jM],af,ab⟩
def lT (ops:Array Oper) (listed:Array Bool):Prop :=
 ∀ k o,ops[k]?=some o→listed.getD k true=true→∀ e∈o.after,Region.binds .any e=true→listed.getD e.on false=true
noncomputable def cR (P:Program) (C:b6) (lo:Nat) (ops:Array Oper) (as:List bY):List Nat→a6→Option a6
 | [],s=>some s
 | i::r,s=>match ops[i]? with
   | none=>cR P C lo ops as r s
   | some o=>(ds P C lo ops o (as.getD i {}) s).bind (cR P C lo ops as r)
theorem yO {C:b6} {lo:Nat} {ops:Array Oper} {as:List bY}:∀ (l:List Oper) (k:Nat) (s:a6),(∀ j,l[j]?=ops[k+j]?)→eb P C lo ops l (as.drop k) s=cR P C lo ops as (List.range' k l.length) s
 | [],k,s,_=>by simp [eb,cR]
 | o::l,k,s,h=>by
   (have aQ:ops[k]?=some o:=by simpa using (h 0).symm);have a8:=fun s=>yO (C:=C) (lo:=lo) (as:=as) l (k+1) s (fun j=>by have:=h (j+1);simpa [Nat.add_assoc,Nat.add_comm 1 j] using this);(have a1:(as.drop k).headD {}=as.getD k {}:=by rw [List.headD_eq_head?_getD,List.head?_drop,sA]);(have ax:(as.drop k).tail=as.drop (k+1):=by rw [List.tail_drop]);simp only [eb,sM,List.range'_succ,cR,aQ,a1,ax];unfold ds;split
   ·rename_i hw;simp only [hw];congr 1;funext aD;exact a8 aD
   ·rename_i hw;simp only [hw];exact a8 _
   ·rename_i hw;simp only [hw];rfl
def eI (n:Nat) (listed:Array Bool):List Nat:=(List.range n).filter fun i=>!listed.getD i true
theorem Aw {n i:Nat} {listed:Array Bool}:eI n (listed.setIfInBounds i true)=(eI n listed).erase i:=by
 have jS:(eI n listed).Nodup:=uj.filter _;rw [jS.erase_eq_filter];simp only [eI,uU];congr 1;funext j;by_cases h7:j=i
 ·subst h7;rcases sQ j listed.size with h | h
  ·simp [sw,h]
  ·simp [sw,h]
 ·have:(listed.setIfInBounds i true).getD j true=listed.getD j true:=by
   simp only [sw];rw [uO (Ne.symm h7)]
  rw [this];simp [h7]
theorem x' {C:b6} {lo:Nat} {ops:Array Oper} {as:List bY} {i:Nat} {cP:Oper} (hi:ops[i]?=some cP) {aD:a6}:∀ (l:List Nat) (s:a6),l.Pairwise (·<·)→i∈l →
  (∀ j∈l,j<i→∀ cQ,ops[j]?=some cQ→indep ops cQ (as.getD j {}) cP (as.getD i {})=true)→cR P C lo ops as l s=some aD →
  ∃ s1,ds P C lo ops cP (as.getD i {}) s=some s1∧cR P C lo ops as (l.erase i) s1=some aD
 | [],s,_,h,_,_=>by simp at h
 | j::r,s,aB,hm,jO,h=>by
   by_cases gf:j=i
   ·subst gf;simp only [cR,hi,si] at h;obtain ⟨s1,ab,ae⟩:=h;exact ⟨s1,ab,by simpa using ae⟩
   ·have ai:i∈r:=by
     rcases sB.1 hm with h | h
     ·exact absurd h.symm gf
     ·exact h
    have aR:j<i:=(tD.1 aB).1 i ai;have he:(j::r).erase i=j::r.erase i:=by
     rw [List.erase_cons];simp [gf]
    rw [he];simp only [cR] at h ⊢;cases aw:ops[j]? with
    | none =>
      simp only [aw] at h;exact x' hi r s (tD.1 aB).2 ai (fun k al=>jO k (by simp [al])) h
    | some cQ =>
      simp only [aw,si] at h;obtain ⟨s1,ab,ae⟩:=h;obtain ⟨s2,aJ,aN⟩:=x' hi r s1 (tD.1 aB).2 ai (fun k al=>jO k (by simp [al])) ae;obtain ⟨dh,q1,aW⟩:=Bo (jO j (by simp) aR cQ aw) ab aJ;exact ⟨dh,q1,by dsimp only;rw [aW];exact aN⟩
variable {B N:Nat} {J:List Nat} {w:World} {aa:Nat→Option aH} {S:Nat→Nat→Prop}
theorem Bq {F:Fence} (bF:eh F) {C:b6} (bm:c3 P C) {lo:Nat} {ops:Array Oper} {Q:Exit→Act→World→Prop} {i:Nat} {o:Oper} (hi:ops[i]?=some o) {an:bY} {s aD:a6}
  (h:ds P C lo ops o an s=some aD) {a:Act} (aL:cx B N aa J S w s a) {K:Act→World→Prop} (fG:∀ aM w',Step B N aa J S w aD aM w'→K aM w'):wpOpIn F 0 P ops Q i K a w:=by
 unfold wpOpIn;simp only [hi];unfold ds at h;split at h
 ·rename_i hw;rw [lz aL hw];simp only [if_true];exact yh bF bm h aL fG
 ·rename_i hw;rw [lz aL hw];simp only [tS,if_false];simp only [Option.some.injEq] at h;subst h;exact ⟨fun f _=>bF.fn f,fG _ _ (Step.here (aL.skip o.dst))⟩
 ·simp at h
theorem BZ {F:Fence} (bF:eh F) {C:b6} (bm:c3 P C) {lo:Nat} {ops:Array Oper} {as:List bY} (a1:nx ops as=true) {Q:Exit→Act→World→Prop} {aD:a6} :
  ∀ (fuel:Nat) (listed:Array Bool) (s:a6) (a:Act) (w:World) (aa:Nat→Option aH) (J:List Nat) (S:Nat→Nat→Prop),(eI ops.size listed).length≤fuel→lT ops listed →
    cR P C lo ops as (eI ops.size listed) s=some aD→cx B N aa J S w s a→(∀ aM w',Step B N aa J S w aD aM w'→Q .normal aM w')→wpAnyIn F 0 P .any ops Q fuel listed a w:=by
 have cY:∀ j cQ,ops[j]?=some cQ→((fO ops.toList []).getD j 0=mP (fO ops.toList []) cQ)∧(∀ e∈cQ.after,Region.binds .any e=true→e.on<j) ∧
   ∀ i cP,i<j→ops[i]?=some cP→((fO ops.toList []).getD j 0).testBit i=true∨indep ops cP (as.getD i {}) cQ (as.getD j {})=true:=fun j cQ aw=>by
  have aR:j<ops.size:=(sO.1 aw).1;simp only [nx,Ae,sr,sJ] at a1;have h:=a1 j aR;rw [aw] at h;simp only [sn,beq_iff_eq,sr,sJ] at h;obtain ⟨⟨ab,ae⟩,aF⟩:=h;refine ⟨ab,fun e he af=>?_,fun i cP h7 hi=>?_⟩
  ·have:=ae e (by simpa using he);simp only [af,Bool.not_true,Bool.false_or] at this;simpa [sV] using this
  ·have:=aF i h7;rw [hi] at this;simpa using this
 have xU:∀ (listed:Array Bool),lT ops listed→∀ (n k:Nat) ok,k≤n→ops[k]?=some ok→(∀ e∈ok.after,Region.binds .any e=true→listed.getD e.on false=true) →
   ∀ j,((fO ops.toList []).getD k 0).testBit j=true→listed.getD j false=true:=by
  intro listed cE n
  induction n with
  | zero =>
    intro k ok al aq eR j aw;rw [(cY k ok aq).1] at aw;rcases mQ _ j _ _ aw with h | ⟨e,he,af,h⟩
    ·simp at h
    ·have:=(cY k ok aq).2.1 e (by simpa using he) af;omega
  | succ n a8 =>
    intro k ok al aq eR j aw;rw [(cY k ok aq).1] at aw;rcases mQ _ j _ _ aw with h | ⟨e,he,af,h⟩
    ·simp at h
    ·(have jM:e∈ok.after:=by simpa using he);have aR:=(cY k ok aq).2.1 e jM af;have h':=eR e jM af;rcases h with h | rfl
     ·have kG:=(sO.1 aq).1;have mu:ops[e.on]?=some ops[e.on]:=su (by omega);have pX:listed.getD e.on true=true:=by
       rcases sQ e.on listed.size with aX | aX
       ·simp [sw,aX] at h' ⊢;exact h'
       ·simp [sw,aX] at h'
      exact a8 e.on _ (by omega) mu (cE e.on _ mu pX) j h
     ·exact h'
 intro fuel
 induction fuel with
 | zero =>
   intro listed s a w aa J S pG cE dJ aL bo;have h_:eI ops.size listed=[]:=sP.1 (by omega);rw [h_] at dJ;simp only [cR,Option.some.injEq] at dJ;subst dJ;refine ⟨?_,bo a w (Step.here aL)⟩;rw [uB];intro i hi;obtain ⟨ab,o,aq,_⟩:=mem_ready.1 hi
   have:i∈eI ops.size listed:=by
    simp only [eI,sW,sJ];exact ⟨(sO.1 aq).1,by simp [ab]⟩
   rw [h_] at this;simp at this
 | succ fuel a8 =>
   intro listed s a w aa J S pG cE dJ aL bo;refine ⟨fun ai=>?_,fun i hi=>?_⟩
   ·
    have h_:eI ops.size listed=[]:=by
     rw [uB];intro i
     induction i using Nat.strongRecOn with
     | _ i xo =>
       intro hi;simp only [eI,sW,sJ] at hi;obtain ⟨aR,dU⟩:=hi;have aq:ops[i]?=some ops[i]:=su aR
       have:i∈Region.ready .any ops listed:=mem_ready.2 ⟨by simpa using dU,_,aq,fun e he af=>by
        have h9:=(cY i _ aq).2.1 e he af;have kK:=xo e.on h9;simp only [eI,sW,sJ,not_and] at kK;have ao:=kK (by omega);rcases sQ e.on listed.size with aX | aX
        ·simp [sw,aX] at ao ⊢;exact ao
        ·rcases sQ i listed.size with l6 | l6
         ·omega
         ·simp [sw,l6] at dU⟩
       rw [ai] at this;simp at this
    rw [h_] at dJ;simp only [cR,Option.some.injEq] at dJ;subst dJ;exact bo a w (Step.here aL)
   ·obtain ⟨ab,cP,ed,eR⟩:=mem_ready.1 hi;have aR:=(sO.1 ed).1;have kI:i∈eI ops.size listed:=by
     simp only [eI,sW,sJ];exact ⟨aR,by simp [ab]⟩
    have DK:(eI ops.size listed).Pairwise (·<·):=List.pairwise_lt_range.filter _
    obtain ⟨s1,q1,aW⟩:=x' ed (eI ops.size listed) s DK kI (fun j aw gf cQ pW=>by
     rcases (cY i cP ed).2.2 j cQ gf pW with h | h
     ·have:=xU listed cE i i cP (se _) ed eR j h;simp only [eI,sW,sJ] at aw;have dU:=aw.2;rcases sQ j listed.size with aX | aX
      ·simp [sw,aX] at dU this;rw [this] at dU;simp at dU
      ·simp [sw,aX] at dU
     ·exact h) dJ
    refine Bq bF bm ed q1 aL fun aM w' ah=>?_;obtain ⟨b4,cW,a4,aJ,aN,cd⟩:=ah;refine a8 (listed.setIfInBounds i true) s1 aM w' b4 cW a4 ?_ ?_ (by rw [Aw];exact aW) cd fun g4 hy dK=>bo g4 hy (dK.trans aJ aN)
    ·rw [Aw,tE kI];omega
    ·intro k ok al ao e he af;by_cases iR:k=i
     ·subst iR;rw [ed] at al;cases al;exact getD_set_true (eR e he af)
     ·have:listed.getD k true=true:=by rw [getD_set_ne true (Ne.symm iR)] at ao;exact ao
      exact getD_set_true (cE k ok al this e he af)
theorem xR {F:Fence} (bF:eh F) (hm:P.follows .mixedOrders=true) {C:b6} (bm:c3 P C) {lo id:Nat} {ops:Array Oper} {draw:Bool} {as:List bY} (a1:draw=true→nx ops as=true) {Q:Exit→Act→World→Prop} {s aD:a6} {a:Act}
  (h:eb P C lo ops ops.toList as s=some aD) (aL:cx B N aa J S w s a) (bo:∀ aM w',Step B N aa J S w aD aM w'→Q .normal aM w'):(Code.region id ops draw).wpIn F 0 P Q a w:=by
 cases draw with
 | false=>exact wpIn_region_list (xx bF bm ops.toList as s a w aa J S h aL bo)
 | true =>
   refine wpIn_region_any hm ?_;have hw:aK B aa J S w.drew s.H:=mw aL.H;have az:=ku aa S w;have gd:cx B N aa J S w.drew s a:=⟨⟨aL.T.len,fun i u v hu ad=>(aL.T.rel i u v hu ad).mono (Ext.refl J) az.set,fun i u v hu ad=>(aL.T.own i u v hu ad).mono (Ext.refl J) az.set fun b af=>⟨af,rfl,fun _ h=>h⟩⟩,hw,aL.M.az az⟩;have ai:=yO (P:=P) (C:=C) (lo:=lo) (as:=as) (ops:=ops) ops.toList 0 s (by simp);rw [List.drop_zero,h] at ai;have kP:eI ops.size (Array.replicate ops.size false)=List.range ops.size:=by
    simp only [eI];rw [tF];intro i hi;have hi:=sJ.1 hi;simp [sw,hi]
   refine BZ bF bm (a1 rfl) ops.size (Array.replicate ops.size false) s a w.drew aa J S (by rw [kP];simp) ?_ (by rw [kP,List.range_eq_range',←s7];exact ai.symm) gd fun aM w' ah=>bo aM w' (ah.trans (Ext.refl J) az);intro k o aq ao;have aR:=(sO.1 aq).1;simp [sw,aR] at ao
end
end Go.Proofs.Ytkoioidpbbbaiaa.Ab


namespace Go.Proofs.Ytkoioidpbbbaiaa.Ab
open Go
section
variable {P:Program} {C:b6}
theorem Cp (bm:c3 P C) {lo:Nat} {o:Oper} {an:bY} {s aD:a6} (h:Ab.execOp P C lo o an s=some aD):a' lo s.H aD.H:=by
 obtain ⟨r,H',aC,rfl⟩:=o_ h;exact EF bm aC
theorem o' (bm:c3 P C) {lo:Nat} {ops:Array Oper}:∀ (l:List Oper) (as:List bY) (s aD:a6),eb P C lo ops l as s=some aD→a' lo s.H aD.H
 | [],as,s,aD,h=>by simp only [eb,Option.some.injEq] at h;subst h;exact a'.refl _ _
 | o::l,as,s,aD,h=>by
   simp only [eb] at h;split at h
   ·simp only [si] at h;obtain ⟨s1,ab,ae⟩:=h;exact (Cp bm ab).trans (o' bm l _ _ _ ae)
   ·have:=o' bm l _ _ _ h;exact this
   ·simp at h
theorem zE (mJ:List (Nat×List Bool)) (id:Nat) (s:a6):(e2 mJ id s).H=s.H:=by
 unfold e2;split <;> rfl
theorem zN {lo:Nat} {f:a6→Option (cN×a6)} (aP:∀ s e aD,f s=some (e,aD)→a' lo s.H aD.H):∀ (n:Nat) (s:a6) (e:cN) (aD:a6),ik f n s=some (e,aD)→a' lo s.H aD.H
 | 0,s,e,aD,h=>by simp [ik] at h
 | n+1,s,e,aD,h=>by
   simp only [ik] at h;split at h
   ·rename_i s1 ab;exact (aP _ _ _ ab).trans (zN aP n _ _ _ h)
   ·exact aP _ _ _ h
theorem pa (bm:c3 P C) {A:dt} {fn:FuncId} {lo d:Nat} {rl:Option Nat}:∀ (c:Code) (a2:Nat) (s:a6) (e:cN) (aD:a6),exec P A C fn lo d rl c a2 s=some (e,aD)→a' lo s.H aD.H:=by
 intro c
 induction c with
 | skip=>intro a2 s e aD h;simp only [exec,Option.some.injEq,Prod.mk.injEq] at h;obtain ⟨_,rfl⟩:=h;exact a'.refl _ _
 | region id ops draw =>
   intro a2 s e aD h;simp only [exec] at h;split at h
   ·cases h
   simp only [sb,Prod.mk.injEq] at h;obtain ⟨s1,h,_,rfl⟩:=h;have:=o' bm _ _ _ _ h
   rwa [zE] at this
 | seq a b fh ft =>
   intro a2 s e aD h;simp only [exec] at h;split at h
   ·rename_i s1 ab;exact (fh _ _ _ _ ab).trans (ft _ _ _ _ h)
   ·exact fh _ _ _ _ h
 | cond c a b fh ft =>
   intro a2 s e aD h;simp only [exec] at h;split at h
   ·exact fh _ _ _ _ h
   ·exact ft _ _ _ _ h
   ·simp at h
 | block id c a8 =>
   intro a2 s e aD h;simp only [exec] at h;split at h
   ·rename_i bB s1 ab;split at h <;> simp only [Option.some.injEq,Prod.mk.injEq] at h <;> obtain ⟨_,rfl⟩:=h <;> exact a8 _ _ _ _ ab
   ·exact a8 _ _ _ _ h
 | loop c a8 =>
   intro a2 s e aD h;simp only [exec] at h;exact zN (fun s e aD h=>by have:=a8 _ _ _ _ h;rwa [zE] at this) _ _ _ _ h
 | exit id=>intro a2 s e aD h;simp only [exec,Option.some.injEq,Prod.mk.injEq] at h;obtain ⟨_,rfl⟩:=h;exact a'.refl _ _
 | ret=>intro a2 s e aD h;simp only [exec,Option.some.injEq,Prod.mk.injEq] at h;obtain ⟨_,rfl⟩:=h;exact a'.refl _ _
 | scope c a8=>intro a2 s e aD h;simp only [exec] at h;exact a8 _ _ _ _ h
 | label l=>intro a2 s e aD h;simp only [exec,Option.some.injEq,Prod.mk.injEq] at h;obtain ⟨_,rfl⟩:=h;exact a'.refl _ _
 | goto l=>intro a2 s e aD h;simp [exec] at h
 | refuse y=>intro a2 s e aD h;simp [exec] at h
 | rangeFunc g bp a b fh ft =>
   intro a2 s e aD h;simp only [exec] at h;have key:∀ {H':List ar} {r:I} {bX:e'} {args:List I} {x:ar},C bX args (s.H++[x]) lo=some (r,H')→a' lo s.H (H'.set s.H.length .dead):=fun {H' r bX args x} ak=>by
    have ao:=bm.low ak;refine ⟨?_,fun id ab ae=>?_⟩
    ·have:=ao.1;simp at this ⊢;omega
    ·rw [sf (by omega),ao.2 id ab (by simp;omega),sj ae]
   split at h
   ·split at h
    ·rename_i r H' ak;split at h
     ·split at h
      ·simp at h
      ·split at h
       ·simp only [Option.some.injEq,Prod.mk.injEq] at h;obtain ⟨_,rfl⟩:=h;exact key ak
       ·simp only [Option.some.injEq,Prod.mk.injEq] at h;obtain ⟨_,rfl⟩:=h;exact key ak
       ·simp only [Option.some.injEq,Prod.mk.injEq] at h;obtain ⟨_,rfl⟩:=h;exact key ak
       ·simp at h
     ·simp at h
    ·simp at h
   ·simp at h
end
section
variable {P:Program} {F:Fence} {n:Nat} {b:Frame} {a:Act} {k:List Item} {cs:List Frame} {w:World} {Q:Exit→Act→World→Prop}
theorem lu {c:Code}:step P (lone (b.atR a (.code (.scope c)::k)) cs w)=.next (lone (b.atR a (.code c::.inScope c::k)) cs w) :=
 step_lone_go (by simp [stepG,stepG.exec,Frame.atR])
theorem Gi {c:Code}:step P (lone (b.atR a (.inScope c::k)) cs w)=.next (lone (b.atR a k) cs w) :=
 step_lone_go (by simp [stepG,stepG.exec,Frame.atR])
theorem BD {c:Code} (h:c.wpIn F n P Q a w) (aO:∀ l a w,¬ Q (.goto l) a w):(Code.scope c).wpIn F n P Q a w:=by
 intro b k cs DE af ai;have aQ:(lone (b.atR a (.code (.scope c)::k)) cs w).fenced P F:=fenced_calm af ai rfl;obtain ⟨e,kr,lA,a_,hI⟩:=h b (.inScope c::k) cs DE af ai;have aj:∀ id,exitTo id (.inScope c::k)=exitTo id k:=fun id=>by simp [exitTo]
 cases e with
 | normal=>exact ⟨.normal,kr,lA,a_,.head aQ lu (StepsIn.trans hI (.one (fenced_calm af ai rfl) Gi))⟩
 | exit id =>
   exact ⟨.exit id,kr,lA,a_,fun k' al=>.head aQ lu (hI.1 k' (by rw [aj];exact al)),
    fun nP al=>let ⟨k₁,ab,ae⟩:=hI.2 nP (by rw [aj];exact al);⟨k₁,ab,.head aQ lu ae⟩⟩
 | goto l=>exact absurd a_ (aO l kr lA)
 | ret=>exact ⟨_,kr,lA,a_,.of_steps (.one aQ lu) hI⟩
 | panic GL=>exact ⟨_,kr,lA,a_,.of_steps (.one aQ lu) hI⟩
 | outgrown=>exact ⟨_,kr,lA,a_,.of_steps (.one aQ lu) hI⟩
end
end Go.Proofs.Ytkoioidpbbbaiaa.Ab


namespace Go.Proofs.Ytkoioidpbbbaiaa.Ab
open Go
section
variable {P:Program} {B N:Nat} {J:List Nat} {w:World} {H:List ar} {aa:Nat→Option aH} {S:Nat→Nat→Prop}
theorem Ba:∀ (T:List I) (bb:List Value) (bz:Nat→aH) (S:Nat→Nat→Prop),(∀ i j,bz i=bz j→i=j)→(∀ i id,bz i≠.obj id)→(∀ i id j,bz i≠.cell id j) →
  a5 bz aa J S w T bb→aK B aa J S w H →
  ∃ S':Nat→Nat→Prop,(∀ b o,S b o→S' b o)∧(∀ b o,S' b o→S b o∨∃ i,aa b=some (bz i))∧aK B aa J S' w H∧a5 bz aa J S' w (T.map I.settle) bb∧a5 bz aa J S' w (T.map I.view) bb:=by
 intro T
 induction T with
 | nil=>intro bb bz S _ _ _ ad ag;exact ⟨S,fun _ _ h=>h,fun _ _ h=>.inl h,ag,by simpa using ad,by simpa using ad⟩
 | cons u T a8 =>
   intro bb bz S aw n1 n2 ad ag;obtain ⟨v,hU,rfl,ai,aq,ax⟩:=ad.g1;have first:∃ a4:Nat→Nat→Prop,(∀ b o,S b o→a4 b o)∧(∀ b o,a4 b o→S b o∨aa b=some (bz 0))∧aK B aa J a4 w H∧Rel J a4 w u.view v∧Rel J a4 w u.settle v∧aU aa J a4 w (bz 0) u.settle v:=by
    by_cases hu:u.cT=true
    ·have ah:u.settle=u:=by
      (cases u <;> try rfl);rename_i c n k;cases k <;> first | rfl | simp [I.cT] at hu
     exact ⟨S,fun _ _ h=>h,fun _ _ h=>.inl h,ag,ai.view hu,by rw [ah];exact ai,by rw [ah];exact aq⟩
    ·obtain ⟨cells,len,z,rfl⟩:∃ cells len z,u=.av cells len (.uniq z):=by
      unfold I.cT at hu;split at hu
      ·exact ⟨_,_,_,rfl⟩
      ·simp at hu
     obtain ⟨a4,aJ,aN,b',aS,bh,eH⟩:=kc ag ai aq;exact ⟨a4,aJ,aN,ag.settle aJ (fun b o h=>(aN b o h).imp id fun h=>⟨_,h,n1 0,n2 0⟩) b',aS,bh,eH⟩
   (obtain ⟨a4,aJ,aN,bV,dz,Dw,pV⟩:=first);have xd:a5 (fun i=>bz (i+1)) aa J a4 w T hU:=by
    refine ⟨ax.len,fun i bG bn hu ad=>(ax.rel i bG bn hu ad).mono (Ext.refl J) fun b o ah=>⟨aJ b o ah,rfl⟩,fun i bG bn hu ad=>?_⟩;refine (ax.own i bG bn hu ad).mono (Ext.refl J) (fun b o ah=>⟨aJ b o ah,rfl⟩) fun b af=>⟨af,rfl,fun o ah=>?_⟩;rcases aN b o ah with h | h
    ·exact h
    ·rw [af] at h;injection h with h;exact absurd (aw _ _ h) (by omega)
   obtain ⟨S',dA,dq,b7,dV,dd⟩:=a8 hU (fun i=>bz (i+1)) a4 (fun i j h=>by have:=aw _ _ h;omega) (fun i=>n1 (i+1)) (fun i=>n2 (i+1)) xd bV;have cl:∀ b o,a4 b o→S' b o∧w.cell? ⟨b,o,none⟩=w.cell? ⟨b,o,none⟩:=fun b o ah=>⟨dA b o ah,rfl⟩;refine ⟨S',fun b o h=>dA b o (aJ b o h),fun b o h=>?_,b7,?_,?_⟩
   ·rcases dq b o h with h | ⟨i,h⟩
    ·exact (aN b o h).imp id fun h=>⟨0,h⟩
    ·exact .inr ⟨i+1,h⟩
   ·refine a5.cons (Dw.mono (Ext.refl J) cl) (pV.mono (Ext.refl J) cl fun b af=>⟨af,rfl,fun o h=>?_⟩) dV;rcases dq b o h with h | ⟨i,h⟩
    ·exact h
    ·rw [af] at h;injection h with h;exact absurd (aw _ _ h) (by omega)
   ·exact a5.cons (dz.mono (Ext.refl J) cl) (aU.b3 (I.di _)) dd
theorem yM (ag:aK B aa J S w H) (o:Obj):bk aa S w aa S (w.alloc o) :=
 ⟨rfl,rfl,rfl,by simp,fun b af _=>heap_alloc_old w o b af,fun b cw ah=>⟨ah,by obtain ⟨v,ad⟩:=ag.cb b cw ah;exact o4 o (mN ad)⟩,fun _ _ ah=>.inl ah,fun _ af=>.inl af⟩
theorem Dz (ag:aK B aa J S w H) (o:Obj):aK B aa J S (w.alloc o) H:=by
 have az:=yM ag o;refine ag.frame az (fun b l af _=>⟨af,heap_alloc_old w o b (ag.base b l af).2,fun _ h=>h⟩) (fun b cw ah=>?_) fun b l af=>?_
 ·obtain ⟨v,ad⟩:=ag.cb b cw ah;exact ⟨v,((az.set b cw ah).2).trans ad⟩
 ·have:=ag.base b l af;exact ⟨this.1,by simp;omega⟩
theorem zP (ag:aK B aa J S w H) {id b:Nat} {L:Loop} (fg:aa b=some (.obj id)) (fm:w.heap[b]?=some (.loop L)) (iE:Loop) :
  bk aa S w aa S (w.putObj b (.loop iE))∧aK B aa J S (w.putObj b (.loop iE)) (H.set id .dead)∧(w.putObj b (.loop iE)).heap[b]?=some (.loop iE):=by
 have af:b<w.heap.size:=(sO.1 fm).1;have bQ:(w.putObj b (.loop iE)).heap.size=w.heap.size:=by simp [World.putObj]
 have ia:∀ au,au≠b→(w.putObj b (.loop iE)).heap[au]?=w.heap[au]?:=fun au h=>World.putObj_heap_other h;have bI:∀ au o,S au o→au≠b:=fun au o ah e=>by
  subst e;obtain ⟨v,ad⟩:=ag.cb au o ah;simp [World.cell?,fm] at ad
 have bx:∀ au o,au≠b→(w.putObj b (.loop iE)).cell? ⟨au,o,none⟩=w.cell? ⟨au,o,none⟩:=fun au o h=>by
  simp only [World.cell?,ia au h]
 have az:bk aa S w aa S (w.putObj b (.loop iE)):=by
  refine ⟨rfl,rfl,rfl,by omega,fun au bu aI=>ia au (fun e=>by subst e;rw [fg] at aI;cases aI),fun au o ah=>⟨ah,bx au o (bI au o ah)⟩,fun _ _ h=>.inl h,fun _ h=>.inl h⟩
 refine ⟨az,⟨by simpa using ag.cH,fun bB o aq=>?_,fun au o ah=>?_,fun au l bu=>?_,by rw [bQ];exact ag.cX⟩,World.putObj_heap_same af⟩
 ·by_cases ct:bB=id
  ·subst ct;(have aR:bB<H.length:=by have:=(sd.1 aq).1;simpa using this);rw [sm aR] at aq;cases aq;trivial
  ·rw [sf (Ne.symm ct)] at aq;refine (ag.obj bB o aq).frame (Ext.refl J) az.set fun au l bu ao=>⟨bu,ia au (fun e=>?_),fun _ h=>h⟩;subst e;rw [fg] at bu;cases bu;rcases ao with h | ⟨j,h⟩
   ·cases h;exact ct rfl
   ·cases h
 ·obtain ⟨v,ad⟩:=ag.cb au o ah;exact ⟨v,(bx au o (bI au o ah)).trans ad⟩
 ·rw [bQ];exact ag.base au l bu
theorem D7 (ag:aK B aa J S w H) {id b:Nat} {L:Loop} {st:LoopState} {cI:Option Code} {fn:FuncId} {T:List I} {bp:List Nat} {as cp:Code} {an:dt}
  (aE:H[id]?=some (.loop st cI fn T bp as cp an)) (af:J[id]?=some b) (fm:w.heap[b]?=some (.loop L)) (hx:LoopState) (ht:Option Code) :
  bk aa S w aa S (w.putObj b (.loop { L with state:=hx,pending:=ht }))∧aK B aa J S (w.putObj b (.loop { L with state:=hx,pending:=ht })) (H.set id (.loop hx ht fn T bp as cp an)) ∧
   (w.putObj b (.loop { L with state:=hx,pending:=ht })).heap[b]?=some (.loop { L with state:=hx,pending:=ht }):=by
 obtain ⟨lB,lC,au,oV,aA,aG,aT,bq,bf,bc,da,du,dP⟩:=ag.obj id _ aE;rw [af] at aA;cases aA;rw [fm] at aT;cases aT;obtain ⟨az,b7,jN⟩:=zP ag aG fm { L with state:=hx,pending:=ht };refine ⟨az,⟨by simpa using b7.cH,fun bB o aq=>?_,b7.cb,b7.base,b7.cX⟩,jN⟩;by_cases ct:bB=id
 ·subst ct;rw [sm (sd.1 aE).1] at aq;cases aq;exact ⟨lB,lC,b,_,af,aG,jN,rfl,rfl,trivial,da,fun i u v hu ad=>⟨(du i u v hu ad).1,(du i u v hu ad).2.mono (Ext.refl J) az.set⟩,dP⟩
 ·refine b7.obj bB o ?_;rw [sf (Ne.symm ct)] at aq ⊢;exact aq
end
end Go.Proofs.Ytkoioidpbbbaiaa.Ab


namespace Go.Proofs.Ytkoioidpbbbaiaa.Ab
open Go
section
variable {P:Program} {B N:Nat} {J:List Nat} {w:World} {H:List ar} {aa:Nat→Option aH} {S:Nat→Nat→Prop}
theorem Gu {bz:Nat→aH} {us:List I} {xs:List Value} (ao:us.length=xs.length) (h:∀ (j:Nat) (u:I) (v:Value),us[j]?=some u→xs[j]?=some v→Rel J S w u v∧u.plain=true):a5 bz aa J S w us xs :=
 ⟨ao,fun j u v hu ad=>(h j u v hu ad).1,fun j u v hu ad=>aU.b3 (h j u v hu ad).2⟩
def xq (F:Fence) (P:Program) (Q:Exit→Act→World→Prop) (cI:Option Code) (aM:Act) (w':World):Prop:=match cI with
 | none=>Q .normal aM w'
 | some c=>c.wpIn F 0 P Q aM w'
theorem Am {F:Fence} (bF:eh F) {C:b6} (bm:c3 P C) {T:List I} {a:Act} (aL:cx B N aa J S w ⟨T,H⟩ a) (my:a5 .slot aa J S w (T.map I.view) a.tmps.toList)
  {lo k:Nat} {first cap:List I} {vs ws:Array Value} (aP:Rel J S w (.func k first cap) (.func (.func k) vs ws))
  {as cp:Code} {an:dt} {fn fn':FuncId} {bp:Array Tmp} (a7:codeOk an as=true) (a9:codeOk an cp=true) {r:I} {H':List ar}
  (h:C (.fn k) (first++[.yield H.length]++cap) (H++[.loop .ready none fn (T.map I.view) bp.toList as cp an]) lo=some (r,H'))
  {st:LoopState} {cI:Option Code} {ga:FuncId} {ei:List I} {dL:List Nat} {gF gG:Code} {gD:dt} (ao:H'[H.length]?=some (.loop st cI ga ei dL gF gG gD)) (cG:st≠.busy)
  {bH:World} (nA:bk (dn aa) S w (dn aa) S bH) (bV:aK B (dn aa) J S bH H) {mark:List Deferred} {dfr:Nat} (hm:Marks N (dn aa) bH mark) (zc:∀ d∈mark,∀ r,d.target=.collected r→aa r=none∧w.heap.size≤r) {Q:Exit→Act→World→Prop}
  (bo:∀ aM w',Step B N aa J S w ⟨T,H'.set H.length .dead⟩ aM w'→xq F P Q cI aM w') :
  CallsIn F 0 P k (vs++#[Value.func (.yield bH.heap.size) #[] #[]]++ws) (bH.alloc (.loop { state:=.ready,pending:=none,fn:=fn',tmps:=a.tmps,params:=bp,assign:=as,body:=cp,defers:=dfr }))
   (rangePost F 0 P bH.heap.size Q { a with defers:=mark++a.defers }):=by
 generalize fm:({ state:=.ready,pending:=none,fn:=fn',tmps:=a.tmps,params:=bp,assign:=as,body:=cp,defers:=dfr }:Loop)=L;have yN:=kv bV (.loop L) (.obj H.length);have Dx:=nR bV (.loop L) (.obj H.length);have mC:Ext J (J++[bH.heap.size]):=Ext.append J _;have pk:∀ b o,S b o→S b o∧(bH.alloc (.loop L)).cell? ⟨b,o,none⟩=w.cell? ⟨b,o,none⟩:=(nA.trans yN).set;have CC:=Dx.push bH.heap.size (o:=.loop .ready none fn (T.map I.view) bp.toList as cp an)
  ⟨a7,a9,bH.heap.size,L,Ext.last bV _,by simp [lay],World.alloc_heap_new bH _,by rw [←fm],by rw [←fm],trivial,by rw [←fm];simpa using my.len.symm,
   fun i u v hu ad=>by
    rw [←fm] at ad;refine ⟨?_,((my.rel i u v hu (by simpa using ad)).mono mC pk)⟩;simp only [sq,sb] at hu;obtain ⟨x,_,rfl⟩:=hu
    exact I.di x,by rw [←fm],by rw [←fm],by rw [←fm]⟩
 have fp:ni (lay (dn aa) bH.heap.size (.obj H.length)):=fun b i af=>by
  unfold lay at af;split at af
  ·simp at af
  ·exact C9 b i af
 have CK:a5 (fun i=>.arg i) (lay (dn aa) bH.heap.size (.obj H.length)) (J++[bH.heap.size]) S (bH.alloc (.loop L)) (first++[.yield H.length]++cap) (vs.toList++[Value.func (.yield bH.heap.size) #[] #[]]++ws.toList):=by
  cases aP with
  | func _ _ _ _ _ aJ aN bT b0 aS bh =>
    refine Gu (by simp [aJ,aN]) fun j u v hu ad=>?_;rcases sQ j first.length with ab | ab
    ·rw [sx,sj ab] at hu;rw [sx,sj (by simp;omega)] at ad;exact ⟨(aS j u v hu (by simpa using ad)).mono mC pk,bT u (sy hu)⟩
    ·rw [sx,sv ab] at hu;rw [sx,sv (by simp;omega)] at ad;(have bQ:vs.toList.length=first.length:=by simp [aJ]);rw [bQ] at ad;rcases sQ (j-first.length) 1 with ae | ae
     ·(have aQ:j-first.length=0:=by omega);rw [aQ] at hu ad;simp at hu ad;subst hu ad;exact ⟨.yield _ _ (Ext.last bV _),rfl⟩
     ·rw [sv (by simpa using ae)] at hu ad;exact ⟨(bh _ u v hu (by simpa using ad)).mono mC pk,b0 u (sy hu)⟩
 have dT:=(bm.ok h).2 B _ _ S _ _ CC fp CK;have hI:(vs.toList++[Value.func (.yield bH.heap.size) #[] #[]]++ws.toList).toArray=vs++#[Value.func (.yield bH.heap.size) #[] #[]]++ws:=by
  apply Array.ext';simp
 rw [hI] at dT;refine bF.calls (CallsIn.mono dT fun e bW he=>?_);cases e with
 | panicked c=>exact he.elim
 | outgrown=>exact he.elim
 | returned x =>
   obtain ⟨bt,cg,bK,xl,ek,cf,_,_⟩:=he;obtain ⟨_,_,au,ju,aA,aG,aT,bq,bf,_⟩:=cf.obj _ _ ao;have dF:cg[H.length]?=some bH.heap.size:=xl _ _ (Ext.last bV _);rw [dF] at aA;cases aA;obtain ⟨Cn,CB,_⟩:=zP cf aG aT { ju with state:=.exhausted };have l0:bk (dn aa) S bH bt bK (bW.putObj bH.heap.size (.loop { ju with state:=.exhausted })):=(yN.trans ek).trans Cn;obtain ⟨q1,aW⟩:=z' none aL (mC.trans xl) (nA.trans l0) CB (.a0 undef) (aU.b3 rfl);refine ⟨ju.pending,_,run_endLoop aT (by rw [bq];exact cG),?_⟩;rw [←bf] at bo;refine bo _ _ ⟨_,cg,bK,mC.trans xl,q1,⟨aW.T,aW.H,aW.M.1,fun d a1=>?_,List.pairwise_append.2 ⟨hm.2.2,aW.M.2.2,fun d a1 g8 jL e=>?_⟩⟩⟩
   rotate_left
   ·obtain ⟨hQ,c9,_⟩:=hm.2.1 d a1;obtain ⟨aS,n1,_,_,Ew⟩:=aL.M.2.1 g8 jL;have:=(zc d a1 hQ c9).2;have:=(sO.1 Ew).1;rw [c9,n1] at e;cases e;omega
   rcases List.mem_append.1 a1 with a1 | a1
   ·obtain ⟨hQ,c9,c_,j1,k2⟩:=hm.2.1 d a1;have dz:hQ<bH.heap.size:=(sO.1 k2).1;refine ⟨hQ,c9,c_,?_,(l0.cB hQ dz j1).trans k2⟩;have aQ:=(zc d a1 hQ c9).1;have ae:bt hQ=none:=by
     cases bO:bt hQ with
     | none=>rfl
     | some l =>
       rcases l0.own hQ (by simp [bO]) with bP | bP
       ·exact absurd j1 bP
       ·omega
    simp [back,aQ,ae]
   ·exact aW.M.2.1 d a1
end
end Go.Proofs.Ytkoioidpbbbaiaa.Ab


namespace Go.Proofs.Ytkoioidpbbbaiaa.Ab
open Go
def toExit:cN→Exit
 | .normal=>.normal
 | .ret=>.ret
 | .exit id=>.exit id
def jt (F:Fence) (rl:Option Nat) (J:List Nat):Prop:=(rl=none∧F=Fence.wide)∨∃ l b,rl=some l∧J[l]?=some b∧F=Fence.wide.inRound b
theorem jt.ky {F:Fence} {rl:Option Nat} {J:List Nat} (h:jt F rl J):eh F:=by
 rcases h with ⟨_,rfl⟩ | ⟨l,b,_,_,rfl⟩
 ·exact .inl rfl
 ·exact .inr ⟨b,rfl⟩
theorem jt.ext {F:Fence} {rl:Option Nat} {J bU:List Nat} (h:jt F rl J) (bM:Ext J bU):jt F rl bU:=by
 rcases h with h | ⟨l,b,ab,ae,aF⟩
 ·exact .inl h
 ·exact .inr ⟨l,b,ab,bM _ _ ae,aF⟩
theorem kx {p:Nat→Prop} (h:∃ n,p n):∃ n,p n∧∀ m,p m→n≤m:=by
 obtain ⟨n,aI⟩:=h
 induction n using Nat.strongRecOn with
 | _ n a8 =>
   by_cases ao:∃ m,m<n∧p m
   ·obtain ⟨m,hm,aB⟩:=ao;exact a8 m hm aB
   ·exact ⟨n,aI,fun m hm=>Nat.le_of_not_lt fun aR=>ao ⟨m,aR,hm⟩⟩
section
variable {P:Program}
theorem D6 {F:Fence} {c:Code} {f:a6→Option (cN×a6)} {e:cN} {aD:a6} {Q:Exit→Act→World→Prop} {B N:Nat} {J:List Nat} {w:World} {aa:Nat→Option aH} {S:Nat→Nat→Prop} {s:a6} {a:Act} {n:Nat}
  (h:ik f n s=some (e,aD)) (aL:cx B N aa J S w s a) (bo:∀ aM w',Step B N aa J S w aD aM w'→Q (toExit e) aM w')
  (kD:∀ (s1:a6) (e1:cN) (s2:a6),f s1=some (e1,s2)→∀ (cJ:Exit→Act→World→Prop) (aA:Act) (bH:World),(∀ l a w,cJ (.goto l) a w→Q (.goto l) a w)→Step B N aa J S w s1 aA bH →
   (∀ aM w',Step B N aa J S w s2 aM w'→cJ (toExit e1) aM w')→c.wpIn F 0 P cJ aA bH):(Code.loop c).wpIn F 0 P Q a w:=by
 classical
 let Inv:Nat→Act→World→Prop:=fun n aM w'=>∃ s1,ik f n s1=some (e,aD)∧Step B N aa J S w s1 aM w'
 let gw:Act→World→Nat:=fun aM w'=>if h:∃ n,Inv n aM w' then Classical.choose (kx h) else 0
 have mD:∀ aM w',(∃ n,Inv n aM w')→Inv (gw aM w') aM w'∧∀ m,Inv m aM w'→gw aM w'≤m:=fun aM w' h=>by
  have:gw aM w'=Classical.choose (kx h):=by simp only [gw,dif_pos h]
  rw [this];exact uC (kx h)
 refine wpIn_loop (fun aM w'=>∃ n,Inv n aM w') gw ⟨n,s,h,Step.here aL⟩ fun aA bH kB=>?_;obtain ⟨⟨s1,ab,gM⟩,_⟩:=mD aA bH kB;cases aI:gw aA bH with
 | zero=>rw [aI] at ab;simp [ik] at ab
 | succ m =>
   rw [aI] at ab;simp only [ik] at ab;split at ab
   ·rename_i s2 pA;refine kD s1 .normal s2 pA _ aA bH (fun l a w h=>h) gM fun aM w' dK=>?_;have hinv:Inv m aM w':=⟨s2,ab,dK⟩;exact ⟨⟨m,hinv⟩,Nat.lt_succ_of_le ((mD aM w' ⟨m,hinv⟩).2 m hinv)⟩
   ·rename_i fp;refine kD s1 e aD ab _ aA bH (fun l a w h=>h) gM fun aM w' dK=>?_;cases e with
    | normal=>exact absurd ab (fp aD)
    | ret=>exact bo aM w' dK
    | exit id=>exact bo aM w' dK
theorem nC {C:b6} (bm:c3 P C) (eD:P.follows .mixedOrders=true) {A:dt} {fn:FuncId} {lo d:Nat} {rl:Option Nat} :
  ∀ (c:Code) (a2:Nat) (s:a6) (e:cN) (aD:a6),exec P A C fn lo d rl c a2 s=some (e,aD)→codeOk A c=true →
    ∀ (F:Fence) (Q:Exit→Act→World→Prop) (B N:Nat) (J:List Nat) (w:World) (aa:Nat→Option aH) (S:Nat→Nat→Prop) (a:Act),jt F rl J→(∀ l a w,¬ Q (.goto l) a w) →
      cx B N aa J S w s a→(∀ aM w',Step B N aa J S w aD aM w'→Q (toExit e) aM w')→c.wpIn F 0 P Q a w:=by
 intro c
 induction c with
 | skip =>
   intro a2 s e aD h _ F Q B N J w aa S a bF aO aL bo;simp only [exec,Option.some.injEq,Prod.mk.injEq] at h;obtain ⟨rfl,rfl⟩:=h;exact wpIn_skip (bo a w (Step.here aL))
 | label l =>
   intro a2 s e aD h _ F Q B N J w aa S a bF aO aL bo;simp only [exec,Option.some.injEq,Prod.mk.injEq] at h;obtain ⟨rfl,rfl⟩:=h;exact wpIn_label (bo a w (Step.here aL))
 | ret =>
   intro a2 s e aD h _ F Q B N J w aa S a bF aO aL bo;simp only [exec,Option.some.injEq,Prod.mk.injEq] at h;obtain ⟨rfl,rfl⟩:=h;exact wpIn_ret (bo a w (Step.here aL))
 | exit id =>
   intro a2 s e aD h _ F Q B N J w aa S a bF aO aL bo;simp only [exec,Option.some.injEq,Prod.mk.injEq] at h;obtain ⟨rfl,rfl⟩:=h;exact wpIn_exit (bo a w (Step.here aL))
 | goto l=>intro a2 s e aD h;simp [exec] at h
 | refuse y=>intro a2 s e aD h;simp [exec] at h
 | region id ops draw =>
   intro a2 s e aD h bS F Q B N J w aa S a bF aO aL bo;simp only [exec] at h;split at h
   ·cases h
   rename_i kS;simp only [sb,Prod.mk.injEq] at h;obtain ⟨s1,h,rfl,rfl⟩:=h;refine xR bF.ky eD bm (fun a1=>?_) h (aL.cB _ _) bo;simp only [codeOk,xQ,kS] at bS;simpa [a1] using bS
 | seq x y nY xp =>
   intro a2 s e aD h bS F Q B N J w aa S a bF aO aL bo;simp only [codeOk,sn] at bS;simp only [exec] at h;split at h
   ·rename_i s1 ab;refine wpIn_seq (nY _ _ _ _ ab bS.1 F _ B N J w aa S a bF (fun l a w=>aO l a w) aL fun aM w' ah=>?_);obtain ⟨b4,cW,a4,aJ,aN,cd⟩:=ah;exact xp _ _ _ _ h bS.2 F Q B N cW w' b4 a4 aM (bF.ext aJ) aO cd fun g4 hy dK=>bo g4 hy (dK.trans aJ aN)
   ·rename_i fp;refine wpIn_seq (nY _ _ _ _ h bS.1 F _ B N J w aa S a bF (fun l a w=>aO l a w) aL fun aM w' ah=>?_);cases e with
    | normal=>exact absurd h (fp aD)
    | ret=>exact bo aM w' ah
    | exit id=>exact bo aM w' ah
 | cond x t f nX nW =>
   intro a2 s e aD h bS F Q B N J w aa S a bF aO aL bo;simp only [codeOk,sn] at bS;simp only [exec] at h;have ai:=aL.az x;split at h
   ·rename_i af;rw [af] at ai;exact wpIn_cond_true ai.h3 (nX _ _ _ _ h bS.1 F Q B N J w aa S a bF aO aL bo)
   ·rename_i af;rw [af] at ai;exact wpIn_cond_false ai.h3 (nW _ _ _ _ h bS.2 F Q B N J w aa S a bF aO aL bo)
   ·simp at h
 | block id c a8 =>
   intro a2 s e aD h bS F Q B N J w aa S a bF aO aL bo;simp only [exec] at h;refine wpIn_block ?_;split at h
   ·rename_i bB s1 ab;refine a8 _ _ _ _ ab bS F _ B N J w aa S a bF (fun l a w=>aO l a w) aL fun aM w' ah=>?_;by_cases aE:bB=id
    ·simp only [aE,if_true,Option.some.injEq,Prod.mk.injEq] at h;obtain ⟨rfl,rfl⟩:=h;simp only [toExit,Exit.inBlock,aE,if_true];exact bo aM w' ah
    ·simp only [aE,if_false,Option.some.injEq,Prod.mk.injEq] at h;obtain ⟨rfl,rfl⟩:=h;simp only [toExit,Exit.inBlock,aE,if_false];exact bo aM w' ah
   ·rename_i fp;refine a8 _ _ _ _ h bS F _ B N J w aa S a bF (fun l a w=>aO l a w) aL fun aM w' ah=>?_;cases e with
    | normal=>exact bo aM w' ah
    | ret=>exact bo aM w' ah
    | exit bB=>exact absurd h (fp bB aD)
 | scope c a8 =>
   intro a2 s e aD h bS F Q B N J w aa S a bF aO aL bo;simp only [exec] at h;exact BD (a8 _ _ _ _ h bS F Q B N J w aa S a bF aO aL bo) aO
 | loop c a8 =>
   intro a2 s e aD h bS F Q B N J w aa S a bF aO aL bo;simp only [exec] at h;refine D6 h aL bo fun s1 e1 s2 ab cJ aA bH Du gM ph=>?_;obtain ⟨b4,cW,a4,aJ,aN,cd⟩:=gM;exact a8 _ _ _ _ ab bS F cJ B N cW bH b4 a4 aA (bF.ext aJ) (fun l a w a_=>aO l a w (Du l a w a_)) (cd.cB _ _) fun aM w' dK=>ph aM w' (dK.trans aJ aN)
 | rangeFunc g bp as cp fh ft =>
   intro a2 s e aD h bS F Q B N J w aa S a bF aO aL bo;simp only [codeOk,sn] at bS;simp only [exec] at h;split at h
   ·(rename_i k first cap hc mi);have zp:=aL.az g;rw [mi] at zp;split at h
    ·rename_i r H' ak;split at h
     ·rename_i st cI ga ei dL gF gG gD ao;split at h
      ·simp at h
      ·rename_i cG;have ph:∀ aM w',Step B N aa J S w ⟨s.T.map I.settle,H'.set s.H.length .dead⟩ aM w'→xq F P Q cI aM w':=fun aM w' ah=>by
        split at h
        ·simp only [Option.some.injEq,Prod.mk.injEq] at h;obtain ⟨rfl,rfl⟩:=h;exact bo aM w' ah
        ·simp only [Option.some.injEq,Prod.mk.injEq] at h;obtain ⟨rfl,rfl⟩:=h;exact wpIn_ret (bo aM w' ah)
        ·simp only [Option.some.injEq,Prod.mk.injEq] at h;obtain ⟨rfl,rfl⟩:=h;exact wpIn_exit (bo aM w' ah)
        ·simp at h
       obtain ⟨a4,dA,dq,bV,kC,pn⟩:=Ba s.T a.tmps.toList .slot S (fun i j h=>by cases h;rfl) (fun i id=>by simp) (fun i id j=>by simp) aL.T aL.H;have dy:bk aa S w aa a4 w:=bk.settle dA fun b o h=>(dq b o h).imp id fun ⟨i,h⟩=>⟨_,h⟩;have cd:cx B N aa J a4 w ⟨s.T.map I.settle,s.H⟩ a:=⟨kC,bV,aL.M.az dy⟩;have kT:(s.T.map I.settle).map I.view=s.T.map I.view:=by
        rw [List.map_map];apply List.map_congr_left;intro u _;exact yl u
       (have my:a5 .slot aa J a4 w ((s.T.map I.settle).map I.view) a.tmps.toList:=by rw [kT];exact pn);rw [←kT] at ak;have y3:∀ aM w',Step B N aa J a4 w ⟨s.T.map I.settle,H'.set s.H.length .dead⟩ aM w'→xq F P Q cI aM w':=fun aM w' ah=>ph aM w' (Step.trans (Ext.refl J) dy ah);have dz:=zp.mono (Ext.refl J) (S':=a4) (w':=w) (fun b o h=>⟨dA b o h,rfl⟩);obtain ⟨⟨f0,CX,iP,Dl⟩,_⟩:=bm.ok ak;have y4:aa w.heap.size=none:=by
        cases aj:aa w.heap.size with
        | none=>rfl
        | some l=>have:=(aL.H.base _ l aj).2;omega
       generalize C6:a.eval g=GN at dz;cases dz with
       | func _ _ _ vs ws aJ aN bT b0 aS bh =>
         refine wpIn_rangeFunc fun fn' _=>?_;have kQ:∀ (l:Nat) (w0:World),(resolve a.eval (rangeCall g l) 0).run P w0=.ok { target:=.fn (.func k) ws,args:=vs++#[Value.func (.yield l) #[] #[]] } w0:=fun l w0=>by
          have:(#[Operand.const (Value.func (.yield l) #[] #[])]:Array Operand).map a.eval=#[Value.func (.yield l) #[] #[]]:=by simp [Act.eval]
          simp only [resolve,rangeCall,C6,Deferred.ofValue,this,Sem.run_pure]
         have hinv:∀ (l:Nat) (w0:World),(invoke (.fn (.func k) ws) (vs++#[Value.func (.yield l) #[] #[]])).run P w0=.ok (.enter k (vs++#[Value.func (.yield l) #[] #[]]++ws)) w0:=fun l w0=>by
          simp only [invoke,AY CX iP Dl]
         (have pE:Rel J a4 w (.func k first cap) (.func (.func k) vs ws):=.func k first cap vs ws aJ aN bT b0 aS bh);(have y6:F.depth.isSome=true→1≤0:=fun iQ=>by rw [bF.ky.depth] at iQ;cases iQ);rcases bF with ⟨rfl,rfl⟩ | ⟨cu,db,rfl,af,rfl⟩
         ·have cf:=mx cd.H;have dT:=Am (.inl rfl) bm cd my pE bS.1 bS.2 ak ao cG (yM cf (.deferred (some []))) (Dz cf (.deferred (some []))) (fn':=fn') (dfr:=w.heap.size)
           (mark:=[{ target:=.collected w.heap.size,args:=#[] }]) ⟨by have:=aL.M.1;simp;omega,fun d a1=>by
            simp only [sS] at a1;subst a1;exact ⟨w.heap.size,rfl,aL.M.1,nJ y4,World.alloc_heap_new w _⟩,List.pairwise_singleton _ _⟩ (fun d a1 hQ nQ=>by
            simp only [sS] at a1;subst a1
            cases nQ;exact ⟨y4,se _⟩) y3
          (have bQ:(w.alloc (.deferred (some []))).heap.size=w.heap.size+1:=by simp);rw [bQ] at dT;exact ⟨_,_,_,_,_,k,_,_,run_enterLoop_outer fn' a.tmps bp as cp,kQ _ _,fun _ _=>trivial,hinv _ _,y6,dT⟩
         ·have cf:=mx cd.H;simp only [inLoop] at hc;split at hc
          ·rename_i bC;obtain ⟨_,_,au,oV,aA,aG,aT,_⟩:=aL.H.obj cu _ bC;rw [af] at aA;cases aA;have dT:=Am (.inr ⟨db,rfl⟩) bm cd my pE bS.1 bS.2 ak ao cG (bk.refl _ _ _) cf (fn':=fn') (dfr:=oV.defers)
            (mark:=[]) ⟨aL.M.1,fun d a1=>by simp at a1,List.Pairwise.nil⟩ (fun d a1=>by simp at a1) y3
           exact ⟨_,_,_,_,_,k,_,_,run_enterLoop_inner aT fn' a.tmps bp as cp,kQ _ _,fun _ _=>trivial,hinv _ _,y6,dT⟩
          ·simp at hc
     ·simp at h
    ·simp at h
   ·simp at h
end
end Go.Proofs.Ytkoioidpbbbaiaa.Ab


namespace Go.Proofs.Ytkoioidpbbbaiaa.Ab
open Go
def hV (aa:Nat→Option aH):Nat→Option aH:=fun b=>match aa b with
 | some (.arg i)=>some (.slot i)
 | some (.obj id)=>some (.obj id)
 | some (.cell id j)=>some (.cell id j)
 | _=>none
def ld (t:Nat) (aa:Nat→Option aH):Nat→Option aH:=fun b=>match aa b with
 | some (.slot i)=>if i=t then some .res else none
 | some (.obj id)=>some (.obj id)
 | some (.cell id j)=>some (.cell id j)
 | _=>none
section
variable {P:Program} {B N:Nat} {J:List Nat} {w:World} {H:List ar} {aa:Nat→Option aH} {S:Nat→Nat→Prop}
theorem relabel {ay:Nat→Option aH} (ag:aK B aa J S w H) (ab:∀ b,aa b=none→ay b=none) (ae:∀ b l,aa b=some l→((∃ id,l=.obj id)∨∃ id j,l=.cell id j)→ay b=some l) :
  bk aa S w ay S w∧aK B ay J S w H:=by
 have aI:∀ b,ay b≠none→aa b≠none:=fun b h aQ=>h (ab b aQ);refine ⟨⟨rfl,rfl,rfl,se _,fun _ _ _=>rfl,fun _ _ h=>⟨h,rfl⟩,fun _ _ h=>.inl h,fun b h=>.inl (aI b h)⟩,⟨ag.cH,fun id o aq=>?_,ag.cb,fun b l af=>?_,ag.cX⟩⟩
 ·refine (ag.obj id o aq).frame (Ext.refl J) (fun _ _ h=>⟨h,rfl⟩) fun b l af ao=>⟨ae b l af ?_,rfl,fun _ h=>h⟩;rcases ao with rfl | ⟨j,rfl⟩
  ·exact .inl ⟨id,rfl⟩
  ·exact .inr ⟨id,j,rfl⟩
 ·cases h:aa b with
  | none=>rw [ab b h] at af;cases af
  | some l'=>exact ag.base b l' h
theorem oO (ag:aK B aa J S w H):bk aa S w (hV aa) S w∧aK B (hV aa) J S w H :=
 relabel ag (fun b h=>by simp [hV,h]) fun b l h ao=>by
  rcases ao with ⟨id,rfl⟩ | ⟨id,j,rfl⟩ <;> simp [hV,h]
theorem EG (t:Nat) (ag:aK B aa J S w H):bk aa S w (ld t aa) S w∧aK B (ld t aa) J S w H :=
 relabel ag (fun b h=>by simp [ld,h]) fun b l h ao=>by
  rcases ao with ⟨id,rfl⟩ | ⟨id,j,rfl⟩ <;> simp [ld,h]
theorem yg (ag:aK B aa J S w H) {args:List I} {vs:List Value} (ad:a5 (fun i=>.arg i) aa J S w args vs) (n:Nat) :
  cx B w.heap.size (hV aa) J S w ⟨args++List.replicate (n-args.length) .a0,H⟩ { tmps:=vs.toArray++Array.replicate (n-vs.toArray.size) undef,defers:=[] }:=by
 have ao:=ad.len;refine ⟨?_,(oO ag).2,se _,fun d a1=>by simp at a1,List.Pairwise.nil⟩;have xg:(vs.toArray++Array.replicate (n-vs.toArray.size) undef).toList=vs++List.replicate (n-vs.length) undef:=by simp
 simp only [xg];have key:∀ (i:Nat) (u:I) (v:Value),(args++List.replicate (n-args.length) .a0)[i]?=some u→(vs++List.replicate (n-vs.length) undef)[i]?=some v →
   Rel J S w u v∧aU (hV aa) J S w (.slot i) u v:=fun i u v hu aj=>by
  rcases sQ i args.length with ab | ab
  ·rw [sj ab] at hu;rw [sj (by omega)] at aj;exact ⟨ad.rel i u v hu aj,(ad.own i u v hu aj).mono (Ext.refl J) (fun _ _ h=>⟨h,rfl⟩) fun b af=>⟨by simp [hV,af],rfl,fun _ h=>h⟩⟩
  ·rw [sv ab] at hu;rw [List.getElem?_replicate] at hu;split at hu
   ·cases hu;exact ⟨.a0 v,aU.b3 rfl⟩
   ·simp at hu
 exact ⟨by simp [ao],fun i u v hu aj=>(key i u v hu aj).1,fun i u v hu aj=>(key i u v hu aj).2⟩
theorem n4 {fn:Func} {tmps:Array Value} {R:Ending→World→Prop} {lE:Nat→Option aH} {S0:Nat→Nat→Prop} {w0:World} :
  ∀ (fD:List Deferred) (w:World),(∀ d∈fD,∃ r,d.target=.collected r∧w0.heap.size≤r∧aa r=none∧w.heap[r]?=some (.deferred (some [])))→fD.Pairwise (fun a b=>a.target≠b.target)→bk lE S0 w0 aa S w→aK B aa J S w H →
    (∀ w',(∀ b l,aa b=some l→w'.heap[b]?=w.heap[b]?)→(∀ b o,S b o→w'.cell? ⟨b,o,none⟩=w.cell? ⟨b,o,none⟩)→bk lE S0 w0 aa S w'→aK B aa J S w' H→∃ v,(results fn tmps).run P w'=.ok v w'∧R (.returned v) w')→LeavesInM Fence.wide 0 P fn tmps R fD .returning w
 | [],w,_,_,az,ag,jG=>jG w (fun _ _ _=>rfl) (fun _ _ _=>rfl) az ag
 | d::fD,w,a1,aB,az,ag,jG=>by
   obtain ⟨r,ab,ae,aF,ba⟩:=a1 d (by simp);have ai:r<w.heap.size:=(sO.1 ba).1;(have bQ:(w.putObj r (.deferred none)).heap.size=w.heap.size:=by simp [World.putObj]);have ia:∀ b,b≠r→(w.putObj r (.deferred none)).heap[b]?=w.heap[b]?:=fun b h=>World.putObj_heap_other h;have bI:∀ b o,S b o→b≠r:=fun b o ah e=>by
    subst e;obtain ⟨v,ad⟩:=ag.cb b o ah;simp [World.cell?,ba] at ad
   have bx:∀ b o,b≠r→(w.putObj r (.deferred none)).cell? ⟨b,o,none⟩=w.cell? ⟨b,o,none⟩:=fun b o h=>by
    simp only [World.cell?,ia b h]
   (have kH:∀ b l,aa b=some l→b≠r:=fun b l h e=>by subst e;rw [aF] at h;cases h);have dy:bk lE S0 w0 aa S (w.putObj r (.deferred none)):=by
    refine ⟨az.os,az.tape,az.output,by rw [bQ];exact az.size,fun b af aI=>?_,fun b o ah=>?_,az.fresh,az.own⟩
    ·rw [ia b (by omega)];exact az.cB b af aI
    ·obtain ⟨aJ,aN⟩:=az.set b o ah;exact ⟨aJ,(bx b o (bI b o aJ)).trans aN⟩
   have cl:∀ b o,S b o→S b o∧(w.putObj r (.deferred none)).cell? ⟨b,o,none⟩=w.cell? ⟨b,o,none⟩:=fun b o ah=>⟨ah,bx b o (bI b o ah)⟩;have gI:aK B aa J S (w.putObj r (.deferred none)) H :=
    ⟨ag.cH,fun id o aq=>(ag.obj id o aq).frame (Ext.refl J) cl fun b l af _=>⟨af,ia b (kH b l af),fun _ h=>h⟩,fun b o ah=>by
     obtain ⟨v,ad⟩:=ag.cb b o ah
     exact ⟨v,(bx b o (bI b o ah)).trans ad⟩,fun b l af=>by rw [bQ];exact ag.base b l af,by rw [bQ];exact ag.cX⟩
   refine ⟨by simp,.inl ⟨r,_,ab,run_takeDeferred ba,?_⟩⟩;have zl:=tD.1 aB;refine n4 fD _ (fun g8 jL=>?_) zl.2 dy gI (fun w' dg aJ aN b'=>jG w' (fun b l h=>(dg b l h).trans (ia b (kH b l h))) (fun b o h=>(aJ b o h).trans (bx b o (bI b o h))) aN b')
   ·obtain ⟨r',q1,aW,cC,dD⟩:=a1 g8 (by simp [jL])
    have:r'≠r:=fun e=>zl.1 g8 jL (by rw [ab,q1,e])
    exact ⟨r',q1,aW,cC,(ia r' this).trans dD⟩
end
end Go.Proofs.Ytkoioidpbbbaiaa.Ab


namespace Go.Proofs.Ytkoioidpbbbaiaa.Ab
open Go
section
variable {P:Program} {B N:Nat} {J:List Nat} {w:World} {H:List ar} {aa:Nat→Option aH} {S:Nat→Nat→Prop}
theorem pe {bz:Nat→aH} {T:List I} {bb:Array Value} (bZ:a5 bz aa J S w T bb.toList) (t:Nat):Rel J S w (dc T t) (bb.getD t undef)∧aU aa J S w (bz t) (dc T t) (bb.getD t undef):=by
 rw [gb,sA];cases h:T[t]? with
 | none=>exact ⟨.a0 _,aU.b3 rfl⟩
 | some u =>
   have ao:=bZ.len;have aR:t<T.length:=(sd.1 h).1;(have mq:t<bb.size:=by rw [←s7,←ao];exact aR);(have aj:bb.toList[t]?=some (bb.getD t undef):=by simp [sw,mq]);exact ⟨bZ.rel t u _ h aj,bZ.own t u _ h aj⟩
theorem m3 (ag:aK B aa J S w H) {T:List I} {bb:Array Value} (bZ:a5 .slot aa J S w T bb.toList) {g:ResultVar→Sem Value} (cc:∀ t,g (.tmp t)=pure (bb.getD t undef))
  (b_:∀ a t,g (.cell a t)=do loadVar t (←asAddr (bb.getD a undef))):∀ (rs:List ResultVar) (vs:List I),gU P H T rs=some vs →
  ∃ xs,(rs.mapM g).run P w=.ok xs w∧vs.length=xs.length∧∀ (j:Nat) (u:I) (x:Value),vs[j]?=some u→xs[j]?=some x→Rel J S w u x∧((u.plain=true∧True)∨∃ t,(u=dc T t∧x=bb.getD t undef)∧aU aa J S w (.slot t) u x)
 | [],vs,h=>by
   simp only [gU,Option.some.injEq] at h;subst h;exact ⟨[],by simp,rfl,by simp⟩
 | .tmp t::r,vs,h=>by
   simp only [gU,sb] at h;obtain ⟨cV,h,rfl⟩:=h;obtain ⟨xs,q1,aW,cC⟩:=m3 ag bZ cc b_ r cV h;obtain ⟨aS,bh⟩:=pe bZ t;refine ⟨bb.getD t undef::xs,by rw [vv];simp [cc,q1],by simp [aW],fun j u x hu aj=>?_⟩;cases j with
   | zero=>simp only [tK,Option.some.injEq] at hu aj;subst hu aj;exact ⟨aS,.inr ⟨t,⟨rfl,rfl⟩,bh⟩⟩
   | succ j=>exact cC j u x (by simpa using hu) (by simpa using aj)
 | .cell a t::r,vs,h=>by
   simp only [gU] at h;split at h
   ·rename_i v cV ad fr;simp only [Option.some.injEq] at h;subst h;obtain ⟨xs,q1,aW,cC⟩:=m3 ag bZ cc b_ r cV fr;have ai:=(pe bZ a).1;obtain ⟨x,aJ,aN,b'⟩:=jh ag ad ai;have aB:∃ lM,bb.getD a undef=.pointer (some lM):=by
     unfold dv at ad;generalize bb.getD a undef=Hg at ai ⊢;split at ad
     ·rename_i heq;rw [heq] at ai;cases ai;exact ⟨_,rfl⟩
     ·rename_i heq;rw [heq] at ai;cases ai;exact ⟨_,rfl⟩
     ·simp at ad
    obtain ⟨lM,aB⟩:=aB;rw [aB] at aJ;(have DT:(loadVar t lM).run P w=.ok x w:=by simpa [Instr.loadAt,Instr.sureAddr] using aJ);refine ⟨x::xs,by rw [vv];simp [b_,aB,asAddr,DT,q1],by simp [aW],fun j u y hu aj=>?_⟩;cases j with
    | zero=>simp only [tK,Option.some.injEq] at hu aj;subst hu aj;exact ⟨aN,.inl ⟨b',trivial⟩⟩
    | succ j=>exact cC j u y (by simpa using hu) (by simpa using aj)
   ·simp at h
theorem xV (ag:aK B aa J S w H) {T:List I} {bb:Array Value} (bZ:a5 .slot aa J S w T bb.toList) {fn:Func} {vs:List I} (h:gU P H T fn.results.toList=some vs) :
  ∃ v,(results fn bb).run P w=.ok v w∧aZ B aa J S w H (jd vs) v w:=by
 have run:∀ xs,(fn.results.toList.mapM (fun (x:ResultVar)=>match x with | .tmp t=>(pure (bb.getD t undef):Sem Value) | .cell a t=>do loadVar t (←asAddr (bb.getD a undef)))).run P w=.ok xs w →
   (results fn bb).run P w=.ok (if h:xs.toArray.size=1 then xs.toArray[0] else .tuple xs.toArray) w:=fun xs aj=>by
  have aO:results fn bb=(do
    let vs ←fn.results.mapM (fun (x:ResultVar)=>match x with | .tmp t=>(pure (bb.getD t undef):Sem Value) | .cell a t=>do loadVar t (←asAddr (bb.getD a undef)))
    pure (if h:vs.size=1 then vs[0] else .tuple vs)):=by
   unfold results;congr 1
  rw [aO,Array.mapM_eq_mapM_toList];simp only [Sem.run_bind,Sem.run_map,aj,Result.andThen_ok,Sem.run_pure]
 match vs,h with
 | [u],h =>
   obtain ⟨xs,q1,aW,cC⟩:=m3 ag bZ (g:=fun x=>match x with | .tmp t=>pure (bb.getD t undef) | .cell a t=>do loadVar t (←asAddr (bb.getD a undef))) (fun _=>rfl) (fun _ _=>rfl) _ _ h
   match xs,aW with
   | [x],_ =>
     obtain ⟨aS,bh⟩:=cC 0 u x rfl rfl;refine ⟨x,by rw [run _ q1];rfl,?_⟩;rcases bh with ⟨aB,_⟩ | ⟨t,_,aq⟩
     ·exact aZ.same ag aS aB
     ·obtain ⟨az,b7⟩:=EG t ag;exact ⟨ld t aa,J,S,Ext.refl J,az,b7,aS,aq.mono (Ext.refl J) (fun _ _ h=>⟨h,rfl⟩) fun b af=>⟨by simp [ld,af],rfl,fun _ h=>h⟩⟩
 | [],h =>
   obtain ⟨xs,q1,aW,cC⟩:=m3 ag bZ (g:=fun x=>match x with | .tmp t=>pure (bb.getD t undef) | .cell a t=>do loadVar t (←asAddr (bb.getD a undef))) (fun _=>rfl) (fun _ _=>rfl) _ _ h
   match xs,aW with
   | [],_=>exact ⟨.tuple #[],by rw [run _ q1];rfl,aZ.same ag (.tuple [] #[] rfl (by simp) (by simp)) rfl⟩
 | fx::gq::us,h =>
   obtain ⟨a4,dA,dq,bV,kC,pn⟩:=Ba T bb.toList .slot S (fun i j h=>by cases h;rfl) (fun i id=>by simp) (fun i id j=>by simp) bZ ag;have dy:bk aa S w aa a4 w:=bk.settle dA fun b o h=>(dq b o h).imp id fun ⟨i,h⟩=>⟨_,h⟩;obtain ⟨xs,q1,aW,cC⟩:=m3 ag bZ (g:=fun x=>match x with | .tmp t=>pure (bb.getD t undef) | .cell a t=>do loadVar t (←asAddr (bb.getD a undef))) (fun _=>rfl) (fun _ _=>rfl) _ _ h
   refine ⟨.tuple xs.toArray,by
    rw [run _ q1]
    have:¬ xs.toArray.size=1:=by simp at aW ⊢;omega
    rw [dif_neg this],aZ.after (Ext.refl J) dy (aZ.same bV (.tuple _ _ (by simp at aW ⊢;omega) ?_ ?_) rfl)⟩
   ·intro y aY;obtain ⟨x,_,rfl⟩:=sD.1 aY;exact I.di x
   ·intro j y x aY aj;simp only [sq,sb] at aY;obtain ⟨u,hu,rfl⟩:=aY;obtain ⟨aS,bh⟩:=cC j u x hu (by simpa using aj);rcases bh with ⟨aB,_⟩ | ⟨t,⟨rfl,rfl⟩,_⟩
    ·rw [I.km aB];exact aS.mono (Ext.refl J) fun b o h=>⟨dA b o h,rfl⟩
    ·have:=(pe pn t).1;have ad:dc (T.map I.view) t=(dc T t).view:=by
      rw [gb,gb,sA,sA,sq];cases T[t]? <;> rfl
     rw [ad] at this;exact this
end
end Go.Proofs.Ytkoioidpbbbaiaa.Ab


namespace Go.Proofs.Ytkoioidpbbbaiaa.Ab
open Go
def jn (bp:List Nat) (aa:Nat→Option aH):Nat→Option aH:=fun b=>match aa b with
 | some (.arg i)=>(bp[i]?).map .slot
 | some (.obj id)=>some (.obj id)
 | some (.cell id j)=>some (.cell id j)
 | _=>none
section
variable {P:Program} {B N:Nat} {J:List Nat} {w:World} {H:List ar} {aa:Nat→Option aH} {S:Nat→Nat→Prop}
theorem Gk (bp:List Nat) (ag:aK B aa J S w H):bk aa S w (jn bp aa) S w∧aK B (jn bp aa) J S w H :=
 relabel ag (fun b h=>by simp [jn,h]) fun b l h ao=>by
  rcases ao with ⟨id,rfl⟩ | ⟨id,j,rfl⟩ <;> simp [jn,h]
theorem A':∀ (bp:List Nat) (us:List I) (T bd:List I) (xs bb:List Value),iz bp us T=some bd→us.length=xs.length→T.length=bb.length →
  bp.length=us.length∧bd.length=T.length∧((bp.zip xs).foldl (fun (l:List Value) (p:Nat×Value)=>l.set p.1 p.2) bb).length=bb.length ∧
  ∀ (i:Nat) (u:I) (x:Value),bd[i]?=some u→((bp.zip xs).foldl (fun (l:List Value) (p:Nat×Value)=>l.set p.1 p.2) bb)[i]?=some x →
    (T[i]?=some u∧bb[i]?=some x)∨∃ (j:Nat),bp[j]?=some i∧us[j]?=some u∧xs[j]?=some x
 | [],[],T,bd,xs,bb,h,ao,ax=>by
   simp only [iz,Option.some.injEq] at h;subst h;exact ⟨rfl,rfl,by simp,fun i u x hu aj=>.inl ⟨hu,by simpa using aj⟩⟩
 | p::bp,yk::us,T,bd,jr::xs,bb,h,ao,ax=>by
   simp only [iz,g0] at h;obtain ⟨ab,ae,aF,ba⟩:=A' bp us (T.set p yk) bd xs (bb.set p jr) h (by simpa using ao) (by simpa using ax);refine ⟨by simp [ab],by simpa using ae,by simpa using aF,fun i u x hu aj=>?_⟩;rcases ba i u x hu (by simpa using aj) with ⟨aJ,aN⟩ | ⟨j,aJ,aN,b'⟩
   ·by_cases zk:p=i
    ·subst zk;(have l1:p<T.length:=by have:=(sd.1 aJ).1;simpa using this);(have l2:p<bb.length:=by omega);rw [sm l1] at aJ;rw [sm l2] at aN;exact .inr ⟨0,rfl,by simpa using aJ,by simpa using aN⟩
    ·rw [sf zk] at aJ aN;exact .inl ⟨aJ,aN⟩
   ·exact .inr ⟨j+1,by simpa using aJ,by simpa using aN,by simpa using b'⟩
 | [],_::_,T,bd,xs,bb,h,ao,ax=>by simp [iz] at h
 | _::_,[],T,bd,xs,bb,h,ao,ax=>by simp [iz] at h
 | _::_,_::_,T,bd,[],bb,h,ao,ax=>by simp at ao
theorem Fe (L:Loop) (vs:List Value):(je L vs).toList=(L.params.toList.zip vs).foldl (fun (l:List Value) (p:Nat×Value)=>l.set p.1 p.2) L.tmps.toList:=by
 unfold je;rw [←Array.foldl_toList,Array.toList_zip];generalize L.params.toList.zip vs=gu;generalize L.tmps=bb
 induction gu generalizing bb with
 | nil=>rfl
 | cons z gu a8=>simp only [uN];rw [a8];simp
theorem cx.loop {s:a6} {a:Act} (aL:cx B N aa J S w s a) {id b:Nat} {L:Loop} {st:LoopState} {cI:Option Code} {fn:FuncId} {T:List I} {bp:List Nat} {as cp:Code} {an:dt}
  (aE:s.H[id]?=some (.loop st cI fn T bp as cp an)) (af:J[id]?=some b) (fm:w.heap[b]?=some (.loop L)) (hx:LoopState) (ht:Option Code) :
  bk aa S w aa S (w.putObj b (.loop { L with state:=hx,pending:=ht }))∧cx B N aa J S (w.putObj b (.loop { L with state:=hx,pending:=ht })) ⟨s.T,s.H.set id (.loop hx ht fn T bp as cp an)⟩ a:=by
 obtain ⟨az,ag,_⟩:=D7 aL.H aE af fm hx ht;obtain ⟨_,_,au,oV,aA,aG,_⟩:=aL.H.obj id _ aE;rw [af] at aA;cases aA;refine ⟨az,⟨⟨aL.T.len,fun i u v hu ad=>(aL.T.rel i u v hu ad).mono (Ext.refl J) az.set,fun i u v hu ad=>?_⟩,ag,aL.M.az az⟩⟩;refine (aL.T.own i u v hu ad).mono (Ext.refl J) az.set fun au bu=>⟨bu,World.putObj_heap_other (fun e=>?_),fun _ h=>h⟩;subst e;rw [aG] at bu;cases bu
theorem Cc (eD:P.follows .mixedOrders=true) {C:b6} (bm:c3 P C) {k:Nat} {f:Func} {c:Code} (aP:P.funcs[k]?=some f) (af:f.body=some c) {A:dt} (bS:codeOk A c=true)
  {lo d:Nat} {args:List I} {e:cN} {s:a6} (h:exec P A C k lo d none c 0 ⟨args++List.replicate (f.ntmps-args.length) .a0,H⟩=some (e,s)) (he:e=.normal∨e=.ret) {vs:List I}
  (ai:gU P s.H s.T f.results.toList=some vs) {xs:List Value} (ag:aK B aa J S w H) (ad:a5 (fun i=>.arg i) aa J S w args xs) :
  CallsIn Fence.wide 0 P k xs.toArray w (fW B aa J S w s.H (jd vs)):=by
 refine callsIn_of_wp_marks aP af trivial ?_;have aL:=yg ag ad f.ntmps;have dy:=(oO ag).1;refine nC bm eD c 0 _ _ _ h bS Fence.wide _ B w.heap.size J w (hV aa) S _ (.inl ⟨rfl,rfl⟩) (fun l a w aO=>aO.elim) aL fun aM w' ah=>?_;obtain ⟨b4,cW,a4,aJ,aN,cd⟩:=ah;have iS:LeavesInM Fence.wide 0 P f aM.tmps (fW B aa J S w s.H (jd vs)) aM.defers .returning w':=by
  refine n4 (aa:=b4) (S:=a4) (J:=cW) (B:=B) (H:=s.H) (lE:=aa) (S0:=S) (w0:=w) aM.defers w' cd.M.2.1 cd.M.2.2 (dy.trans aN) cd.H fun bW dA dq mG mH=>?_
  have bZ:a5 .slot b4 cW a4 bW s.T aM.tmps.toList:=⟨cd.T.len,fun i u v hu ad=>(cd.T.rel i u v hu ad).mono (Ext.refl _) (fun b o h=>⟨h,dq b o h⟩),fun i u v hu ad =>
   (cd.T.own i u v hu ad).mono (Ext.refl _) (fun b o h=>⟨h,dq b o h⟩) fun b af=>⟨af,dA b _ af,fun _ h=>h⟩⟩
  obtain ⟨v,q1,aW⟩:=xV mH bZ ai;exact ⟨v,q1,aZ.after aJ mG aW⟩
 rcases he with rfl | rfl
 ·exact iS
 ·exact iS
end
end Go.Proofs.Ytkoioidpbbbaiaa.Ab


namespace Go.Proofs.Ytkoioidpbbbaiaa.Ab
open Go
section
variable {P:Program} {B N:Nat} {J:List Nat} {w:World} {H:List ar} {aa:Nat→Option aH} {S:Nat→Nat→Prop}
def lp (l:Nat) (H:List ar) (fn:FuncId) (T:List I) (bp:List Nat) (as cp:Code) (an:dt):cN→I×List ar
 | .normal=>(.bool true,H.set l (.loop .ready none fn T bp as cp an))
 | .ret=>(.bool false,H.set l (.loop .done (some .ret) fn T bp as cp an))
 | .exit id=>(.bool false,H.set l (.loop .done (some (.exit id)) fn T bp as cp an))
theorem Cd (eD:P.follows .mixedOrders=true) {C:b6} (bm:c3 P C) {l lo d:Nat} {fn fn':FuncId} {j9 cI:Option Code} {T bd ei dE:List I} {bp dL fS:List Nat} {as cp gF gG fB fC:Code} {an gD fA:dt} {ga fF:FuncId} {args:List I}
  (ao:H[l]?=some (.loop .ready j9 fn T bp as cp an)) (eE:iz bp args T=some bd) {s1 s2:a6} {e:cN} {j_:Option Code}
  (ab:exec P an C fn lo d (some l) as 0 ⟨bd,H⟩=some (.normal,s1)) (jR:s1.H[l]?=some (.loop .ready cI ga ei dL gF gG gD))
  (ae:exec P an C fn' lo d (some l) cp 0 ⟨s1.T,s1.H.set l (.loop .busy cI ga ei dL gF gG gD)⟩=some (e,s2)) (eC:s2.H[l]?=some (.loop .busy j_ fF dE fS fB fC fA))
  {xs:List Value} {b:Nat} (ag:aK B aa J S w H) (ad:a5 (fun i=>.arg i) aa J S w args xs) (af:J[l]?=some b) :
  ∃ L,w.heap[b]?=some (.loop L)∧xs.length=L.params.size ∧
    RoundIn Fence.wide 0 P b L.fn (je L xs) L.assign L.body w (fW B aa J S w (lp l s2.H fF dE fS fB fC fA e).2 (lp l s2.H fF dE fS fB fC fA e).1):=by
 obtain ⟨a7,a9,au,L,aA,aG,aT,bq,bf,bc,da,du,dP,gC,BN⟩:=ag.obj l _ ao;rw [af] at aA;cases aA;have cG:=A' bp args T bd xs L.tmps.toList eE ad.len (by simpa using da.symm);obtain ⟨cc,b_,eP,iM⟩:=cG;refine ⟨L,aT,by rw [←ad.len,←cc,←dP];simp,?_⟩;refine roundIn_of_wpIn trivial ?_;have xg:(je L xs).toList=(bp.zip xs).foldl (fun (l:List Value) (p:Nat×Value)=>l.set p.1 p.2) L.tmps.toList:=by rw [Fe,dP]
 obtain ⟨dy,gI⟩:=Gk bp ag;have aL:cx B w.heap.size (jn bp aa) J S w ⟨bd,H⟩ { tmps:=je L xs,defers:=[] }:=by
  refine ⟨?_,gI,se _,fun d a1=>by simp at a1,List.Pairwise.nil⟩;simp only [xg];have key:∀ (i:Nat) (u:I) (x:Value),bd[i]?=some u→((bp.zip xs).foldl (fun (l:List Value) (p:Nat×Value)=>l.set p.1 p.2) L.tmps.toList)[i]?=some x →
    Rel J S w u x∧aU (jn bp aa) J S w (.slot i) u x:=fun i u x hu aj=>by
   rcases iM i u x hu aj with ⟨aJ,aN⟩ | ⟨j,aJ,aN,b'⟩
   ·obtain ⟨bT,b0⟩:=du i u x aJ (by simpa using aN);exact ⟨b0,aU.b3 bT⟩
   ·exact ⟨ad.rel j u x aN b',(ad.own j u x aN b').mono (Ext.refl J) (fun _ _ h=>⟨h,rfl⟩) fun b af=>⟨by simp [jn,af,aJ],rfl,fun _ h=>h⟩⟩
  exact ⟨by rw [b_,eP,←da];simp,fun i u x hu aj=>(key i u x hu aj).1,fun i u x hu aj=>(key i u x hu aj).2⟩
 rw [gC,BN];refine nC bm eD as 0 _ _ _ ab a7 _ _ B w.heap.size J w (jn bp aa) S _ (.inr ⟨l,b,rfl,af,rfl⟩) (fun l a w aO=>aO) aL fun aA bH ah=>?_;obtain ⟨b4,cW,a4,aJ,aN,cd⟩:=ah;have gJ:cW[l]?=some b:=aJ _ _ af;obtain ⟨_,_,au,oW,d1,d2,d3,d4,d5,_⟩:=cd.H.obj l _ jR;rw [gJ] at d1;cases d1;obtain ⟨ek,Cz⟩:=cd.loop jR gJ d3 .busy cI;have CN:(Instr.beginRound b).run P bH=.ok () (bH.putObj b (.loop { oW with state:=.busy,pending:=cI })):=by
  rw [run_beginRound d3 d4]
  have:({ oW with state:=.busy,pending:=cI }:Loop)={ oW with state:=.busy }:=by rw [←d5]
  rw [this]
 refine ⟨_,CN,?_⟩;refine wpIn_mono (Q:=fun cS aM w'=>(∀ t,cS≠Exit.goto t)∧roundPost P b (fW B aa J S w (lp l s2.H fF dE fS fB fC fA e).2 (lp l s2.H fF dE fS fB fC fA e).1) cS aM w') ?_ (fun e a w h=>h.2);refine nC bm eD cp 0 _ _ _ ae a9 _ _ B w.heap.size cW _ b4 a4 _ (.inr ⟨l,b,rfl,gJ,rfl⟩) (fun l a w aO=>aO.1 l rfl) Cz fun aG bW ah=>?_;obtain ⟨bt,cg,bK,b',hn,y0⟩:=ah;have gK:cg[l]?=some b:=b' _ _ gJ;obtain ⟨_,_,au,ju,f1,f2,f3,f4,f5,_⟩:=y0.H.obj l _ eC;rw [gK] at f1;cases f1;have l0:bk aa S w bt bK bW:=((dy.trans aN).trans ek).trans hn;have fin:∀ (st:LoopState) (jump:Option Code),aZ B aa J S w (s2.H.set l (.loop st jump fF dE fS fB fC fA)) (.bool jump.isNone) (.bool jump.isNone) (bW.putObj b (.loop { ju with state:=st,pending:=jump })):=fun st jump=>by
  obtain ⟨Co,CA⟩:=y0.loop eC gK f3 st jump;exact ⟨bt,cg,bK,aJ.trans b',l0.trans Co,CA.H,.bool _,aU.b3 rfl⟩
 refine ⟨fun t ax=>(by cases e <;> cases ax),?_⟩;cases e with
 | normal=>exact ⟨_,_,run_endRound none f3,fin .ready none⟩
 | ret=>exact ⟨_,_,run_endRound (some .ret) f3,fin .done (some .ret)⟩
 | exit id=>exact ⟨_,_,run_endRound (some (.exit id)) f3,fin .done (some (.exit id))⟩
theorem Ce (eD:P.follows .mixedOrders=true) (A:FuncId→dt) {gp:b6} (ax:c3 P gp)
  (bS : ∀ k f c, (A k).bad = false → P.funcs[k]? = some f → f.body = some c → codeOk (A k) c = true ∧ f.name ≠ "runtime.NumGoroutine") : ∀ d, c3 P (fZ P A gp d)
 | 0=>⟨fun h=>by simp [fZ] at h,fun h=>by simp [fZ] at h⟩
 | d+1=>by
   have bm:=Ce eD A ax bS d;have yW:∀ {k:FuncId} {args:List I} {H:List ar} {lo:Nat} {r:I} {H':List ar},fZ P A gp (d+1) (.fn k) args H lo=some (r,H')→gp (.fn k) args H lo=some (r,H') ∨
     ∃ f c e s vs,(A k).bad=false∧P.funcs[k]?=some f∧f.body=some c∧exec P (A k) (fZ P A gp d) k lo d none c 0 ⟨args++List.replicate (f.ntmps-args.length) .a0,H⟩=some (e,s)∧(e=.normal∨e=.ret) ∧
       gU P s.H s.T f.results.toList=some vs∧r=jd vs∧H'=s.H:=fun {k args H lo r H'} h=>by
    simp only [fZ] at h;split at h
    ·rename_i x aj;cases h;exact .inl aj
    ·right;split at h
     ·simp at h
     rename_i nD;split at h
     ·rename_i f aP;split at h
      ·rename_i c af;split at h
       ·rename_i s ah;simp only [sb,Prod.mk.injEq] at h;obtain ⟨vs,ai,rfl,rfl⟩:=h;exact ⟨f,c,_,s,vs,nD,aP,af,ah,.inl rfl,ai,rfl,rfl⟩
       ·rename_i s ah;simp only [sb,Prod.mk.injEq] at h;obtain ⟨vs,ai,rfl,rfl⟩:=h;exact ⟨f,c,_,s,vs,nD,aP,af,ah,.inr rfl,ai,rfl,rfl⟩
       ·simp at h
      ·simp at h
     ·simp at h
   have BI:∀ {l:Nat} {args:List I} {H:List ar} {lo:Nat} {r:I} {H':List ar},fZ P A gp (d+1) (.yield l) args H lo=some (r,H') →
     ∃ j9 fn T bp as cp an bd s1 cI ga ei dL gF gG gD e s2 j_ fF dE fS fB fC fA,lo≤l∧H[l]?=some (.loop .ready j9 fn T bp as cp an)∧iz bp args T=some bd ∧
       exec P an (fZ P A gp d) fn lo d (some l) as 0 ⟨bd,H⟩=some (.normal,s1)∧s1.H[l]?=some (.loop .ready cI ga ei dL gF gG gD) ∧
       exec P an (fZ P A gp d) ga lo d (some l) cp 0 ⟨s1.T,s1.H.set l (.loop .busy cI ga ei dL gF gG gD)⟩=some (e,s2)∧s2.H[l]?=some (.loop .busy j_ fF dE fS fB fC fA) ∧
       (r,H')=lp l s2.H fF dE fS fB fC fA e:=fun {l args H lo r H'} h=>by
    simp only [fZ] at h;split at h
    ·simp at h
    ·rename_i bC;split at h
     ·rename_i j9 fn T bp as cp an ao;split at h
      ·rename_i bd eE;split at h
       ·rename_i s1 ab;split at h
        ·rename_i cI ga ei dL gF gG gD jR;split at h
         ·rename_i e s2 ae;split at h
          ·rename_i j_ fF dE fS fB fC fA eC;refine ⟨j9,fn,T,bp,as,cp,an,bd,s1,cI,ga,ei,dL,gF,gG,gD,e,s2,j_,fF,dE,fS,fB,fC,fA,by omega,ao,eE,ab,jR,ae,eC,?_⟩;cases e <;> simp only [Option.some.injEq] at h <;> exact h.symm
          ·simp at h
         ·simp at h
        ·simp at h
       ·simp at h
      ·simp at h
     ·simp at h
   refine ⟨fun {bX args H lo r H'} h=>?_,fun {bX args H lo r H'} h=>?_⟩
   ·cases bX with
    | fn k =>
      rcases yW h with h | ⟨f,c,e,s,vs,_,_,_,aF,_,_,_,rfl⟩
      ·exact ax.low h
      ·exact pa bm c 0 _ e s aF
    | yield l =>
      obtain ⟨j9,fn,T,bp,as,cp,an,bd,s1,cI,ga,ei,dL,gF,gG,gD,e,s2,j_,fF,dE,fS,fB,fC,fA,bC,ao,eE,ab,jR,ae,eC,ai⟩:=BI h;have c9:=pa bm as 0 _ _ s1 ab;have c_:=pa bm cp 0 _ e s2 ae;(have j1:a' lo s2.H (lp l s2.H fF dE fS fB fC fA e).2:=by cases e <;> exact a'.set _ _ bC);rw [←ai] at j1;exact (c9.trans ((a'.set s1.H _ bC).trans c_)).trans j1
   ·cases bX with
    | fn k =>
      rcases yW h with h | ⟨f,c,e,s,vs,nD,aP,af,aF,he,ai,rfl,rfl⟩
      ·exact ax.ok h
      obtain ⟨bw,bJ⟩:=bS k f c nD aP af;exact ⟨⟨f,aP,by simp [af],bJ⟩,fun B aa J S w xs ag _ ad=>Cc eD bm aP af bw aF he ai ag ad⟩
    | yield l =>
      obtain ⟨j9,fn,T,bp,as,cp,an,bd,s1,cI,ga,ei,dL,gF,gG,gD,e,s2,j_,fF,dE,fS,fB,fC,fA,bC,ao,eE,ab,jR,ae,eC,ai⟩:=BI h;intro B aa J S w xs b ag _ ad af;have:=Cd eD bm ao eE ab jR ae eC ag ad af;rw [←ai] at this;exact this
end
end Go.Proofs.Ytkoioidpbbbaiaa.Ab


namespace Go.Proofs.Ytkoioidpbbbaiaa.Ab
open Go
def Sem (P:Program) (bX:e') (args:List I) (H:List ar) (lo:Nat) (r:I) (H':List ar):Prop:=a' lo H H'∧jx P bX args H H' r
def nj (P:Program) (k:FuncId) (args:List I) (v:I):Prop:=Sem P (.fn k) args [] 0 v []∧cn 8 v=true
abbrev c4:=List (FuncId×List I×I)
def hZ (P:Program) (acc:c4):Prop:=(∀ p∈acc,nj P p.1 p.2.1 p.2.2)∧∀ p∈acc,∀ q∈acc,p.1=q.1→p.2.1=q.2.1→p.2.2=q.2.2
def iD (C:b6) (acc:c4):Prop:=∀ p∈acc,∃ r H2,C (.fn p.1) p.2.1 [] 0=some (r,H2)∧bL H2 0 H2.length 0 8 r=some p.2.2
section
variable {P:Program}
theorem o6 {C:b6} (h:∀ bX args H lo r H',C bX args H lo=some (r,H')→Sem P bX args H lo r H'):c3 P C :=
 ⟨fun ak=>(h _ _ _ _ _ _ ak).1,fun ak=>(h _ _ _ _ _ _ ak).2⟩
theorem c3.Hd {C:b6} (bm:c3 P C) {bX:e'} {args:List I} {H:List ar} {lo:Nat} {r:I} {H':List ar} (h:C bX args H lo=some (r,H')):Sem P bX args H lo r H':=⟨bm.low h,bm.ok h⟩
theorem lU:c3 P (fun _ _ _ _=>none):=o6 fun _ _ _ _ _ _ h=>by cases h
noncomputable def k6 (bX:e') (args:List I) (H:List ar) (lo:Nat) (r:I) (H':List ar):b6:=fun t a h l =>
 open Classical in if t=bX∧a=args∧h=H∧l=lo then some (r,H') else none
theorem ED (bX:e') (args:List I) (H:List ar) (lo:Nat) (r:I) (H':List ar):k6 bX args H lo r H' bX args H lo=some (r,H'):=by simp [k6]
theorem EE {bX:e'} {args:List I} {H:List ar} {lo:Nat} {r:I} {H':List ar} (h:Sem P bX args H lo r H'):c3 P (k6 bX args H lo r H') :=
 o6 fun t a aX l r' H2 ak=>by
  unfold k6 at ak;split at ak
  ·rename_i he;obtain ⟨rfl,rfl,rfl,rfl⟩:=he;cases ak;exact h
  ·cases ak
theorem zX {f:I→Option I}:∀ {l:List I},(∀ u∈l,f u=some u)→dZ f l=some l
 | [],_=>rfl
 | u::l,h=>by
   simp only [dZ,h u (by simp),zX (l:=l) fun v ad=>h v (by simp [ad]),sg]
theorem yZ {H:List ar} {lo id0 n:Nat}:∀ {d:Nat} {v:I},cn d v=true→bL H lo id0 n d v=some v
 | 0,v,h=>by simp [cn] at h
 | d+1,v,h=>by
   have key:∀ {l:List I},l.all (cn d)=true→dZ (bL H lo id0 n d) l=some l:=fun h=>zX fun u hu=>yZ (by rw [sr] at h;exact h u hu);cases v <;> simp only [cn,tS] at h <;> try rfl
   case av cells len c=>simp only [bL,key h,sg]
   case bR cells=>simp only [bL,key h,sg]
   case agg cs=>simp only [bL,key h,sg]
   case tuple cs=>simp only [bL,key h,sg]
   case func f a b =>
    simp only [sn] at h;simp only [bL,key h.1,key h.2]
theorem nq {acc:c4} (h:hZ P acc):∃ C,c3 P C∧iD C acc:=by
 classical
 obtain ⟨ab,ae⟩:=h;have key:∀ x:e'×List I×List ar×Nat,∃ o:Option (I×List ar),(∀ r H',o=some (r,H')→Sem P x.1 x.2.1 x.2.2.1 x.2.2.2 r H') ∧
   ∀ p∈acc,x=(.fn p.1,p.2.1,[],0)→∃ r H2,o=some (r,H2)∧bL H2 0 H2.length 0 8 r=some p.2.2:=fun x=>by
  by_cases aj:∃ p∈acc,x=(.fn p.1,p.2.1,[],0)
  ·obtain ⟨p,aB,rfl⟩:=aj;obtain ⟨q1,aW⟩:=ab p aB;refine ⟨some (p.2.2,[]),fun r' H' e=>by cases e;exact q1,fun q a_ e=>?_⟩;simp only [Prod.mk.injEq,e'.fn.injEq] at e;exact ⟨p.2.2,[],rfl,by rw [yZ aW,ae p aB q a_ e.1 e.2.1]⟩
  ·exact ⟨none,(fun r H' e=>nomatch e),fun p aB e=>absurd ⟨p,aB,e⟩ aj⟩
 let C:b6:=fun t a H l=>Classical.choose (key (t,a,H,l))
 have bm:∀ t a H l,_:=fun t a H l=>uC (key (t,a,H,l));exact ⟨C,o6 fun t a H l r H' ak=>(bm t a H l).1 r H' ak,fun p aB=>(bm _ _ _ _).2 p aB rfl⟩
def yt (o:Oper) (s:a6) (K:a6→Prop):Prop :=
 ∃ it r m since seen es clock,o.op=.next it false∧o.guard=none∧Ab.az s.T it=.ptr r 0∧s.H[r]?=some (.iter m since seen clock)∧s.H[m]?=some (.map es clock)∧since≤clock∧(∀ e∈es,e.1<since) ∧
   ((∀ e∈es,e.1∈seen)→K ⟨put s.T o.dst (.tuple [.bool false]),s.H⟩) ∧
   ∀ e∈es,e.1 ∉ seen→K ⟨put s.T o.dst (.tuple [.bool true,e.2.1,e.2.2]),s.H.set r (.iter m since (seen++[e.1]) clock)⟩
section
variable {B N:Nat} {J:List Nat} {w:World} {H:List ar} {aa:Nat→Option aH} {S:Nat→Nat→Prop}
theorem DS (ag:aK B aa J S w H) {id m since since' kf stepped':Nat} {seen seen':List Nat} (aE:H[id]?=some (.iter m since seen kf)) {b d':Nat}
  (aA:J[id]?=some b) (aG:aa b=some (.obj id)) (aT:J[m]?=some d') (bf:∀ o,¬ S b o) :
  bk aa S w aa S (w.putObj b (.mapIter (some d') since' seen'.toArray stepped'))∧aK B aa J S (w.putObj b (.mapIter (some d') since' seen'.toArray stepped')) (H.set id (.iter m since' seen' stepped')):=by
 have hG:∀ au o,S au o→au≠b:=fun au o ah e=>bf o (e ▸ ah);have af:=(ag.base b _ aG).2;have az:bk aa S w aa S (w.putObj b (.mapIter (some d') since' seen'.toArray stepped')) :=
  ⟨rfl,rfl,rfl,by simp,fun au _ aI=>World.putObj_heap_other (fun e=>by subst e;rw [aG] at aI;cases aI),fun au o ah=>⟨ah,oi (hG au o ah)⟩,fun au o ah=>.inl ah,fun au h=>.inl h⟩
 refine ⟨az,by simpa using ag.cH,fun bB o aq=>?_,fun au o ah=>?_,fun au l h=>by simpa using ag.base au l h,by simpa using ag.cX⟩
 ·by_cases hb:bB=id
  ·subst hb;rw [sm (sd.1 aE).1] at aq;cases aq;exact ⟨b,d',aA,aG,aT,World.putObj_heap_same af,bf⟩
  ·rw [sf (fun e=>hb e.symm)] at aq;refine (ag.obj bB o aq).frame (Ext.refl J) az.set fun au cu bu jQ=>?_;have bI:au≠b:=fun e=>by
    subst e;rw [aG] at bu;cases bu;rcases jQ with h | ⟨j,h⟩
    ·cases h;exact hb rfl
    ·cases h
   exact ⟨bu,World.putObj_heap_other bI,fun o ah=>ah⟩
 ·obtain ⟨v,ad⟩:=ag.cb au o ah;exact ⟨v,(oi (hG au o ah)).trans ad⟩
theorem Ey {F:Fence} (bF:eh F) {o:Oper} {s:a6} {K':a6→Prop} (h:yt o s K') {a:Act} (aL:cx B N aa J S w s a)
  {K:Act→World→Prop} {Q:Exit→Act→World→Prop} (fG:∀ aD,K' aD→∀ aM w',Step B N aa J S w aD aM w'→K aM w'):o.wpIn F 0 P a w K Q:=by
 obtain ⟨it,r,m,since,seen,es,clock,aC,aO,Da,ai,hm,xa,hold,dg,aJ⟩:=h;have jS:∀ c,o.op≠.defer c:=fun c ak=>by rw [aC] at ak;cases ak
 refine ⟨fun f _=>bF.fn f,?_⟩;rw [Oper.semAt_eq _ _ _ jS];have mi:=aL.az it;rw [Da] at mi;have gI:=mx aL.H;obtain ⟨b,d',aA,aG,aT,bq,bf⟩:=gI.obj r _ ai;obtain ⟨GI,bA,a7,a9,br,b5,dS,fY⟩:=gI.obj m _ hm;rw [aT] at a7;cases a7;generalize ad:a.eval it=v at mi;cases mi with
 | ptr _ _ au e0 =>
   rw [aA] at e0;cases e0;have CM:∀ x∈bA.toList,x.born<since:=fun x aj=>by
    obtain ⟨j,aw⟩:=sZ.1 aj;(have ec:bA[j]?=some x:=by simpa using aw);(have aR:j<es.length:=by have:=(sO.1 ec).1;omega);rcases bD:es[j] with ⟨i,k,v⟩;(have he:es[j]?=some (i,k,v):=by rw [sk aR,bD]);rw [(fY j i k v x he ec).1];exact hold (i,k,v) (sy he)
   have done:∀ {r':I} {H':List ar} {v:Value} {w':World},aZ B (dn aa) J S w H' r' v w'→K' ⟨put s.T o.dst r',H'⟩→K (a.put o.dst v) w':=fun {r' H' v w'} aB al=>by
    obtain ⟨ay,bU,S',q1,aW,gd,_⟩:=oh o.dst aL aB .a0 (fun _ _ _ _ _=>.a0 _);exact fG _ al _ _ ⟨ay,bU,S',q1,aW,gd⟩
   rcases run_next_at (P:=P) w o.type b d' since clock seen.toArray bA clock bq br CM xa with ⟨aI,dJ⟩ | ⟨x,aj,bH,zw,dJ⟩
   ·(have p0:(Go.execOp a.eval o).run P w=.ok (.value (.tuple #[.bool false])) w:=by simp [Go.execOp,aC,ad,dJ]);rw [p0];refine done (aZ.same gI (.tuple _ _ rfl (by simp [I.plain]) fun j u bn hu bg=>?_) rfl) (dg fun e he=>?_)
    ·match j with
     | 0=>simp at hu bg;subst hu;subst bg;exact .bool _
     | j+1=>simp at hu
    ·obtain ⟨j,aw⟩:=sZ.1 he;have aR:j<es.length:=(sd.1 aw).1;have aj:bA[j]?=some bA[j]:=su (by omega);have af:=(fY j e.1 e.2.1 e.2.2 _ aw aj).1;have mh:leftOf bA seen.toArray=#[]:=Array.eq_empty_of_size_eq_zero aI;unfold leftOf at mh;rw [Array.filter_eq_empty_iff] at mh;have:=mh bA[j] (by simp);simpa [af] using this
   ·have p0:(Go.execOp a.eval o).run P w=.ok (.value (.tuple #[.bool true,x.key,x.val])) (bH.putObj b (.mapIter (some d') since (seen++[x.born]).toArray clock)):=by
     simp [Go.execOp,aC,ad,dJ,Go.ChangeMaps.setBlock,World.putObj]
    rw [p0];have nV:x∈bA.toList∧x.born ∉ seen:=by
     unfold leftOf at aj;simpa using aj
    obtain ⟨j,aw⟩:=sZ.1 nV.1;(have ec:bA[j]?=some x:=by simpa using aw);(have aR:j<es.length:=by have:=(sO.1 ec).1;omega);rcases bD:es[j] with ⟨i,k,v⟩;(have he:es[j]?=some (i,k,v):=by rw [sk aR,bD]);obtain ⟨d1,d2,d3,d4,d5⟩:=fY j i k v x he ec;have kI:(i,k,v)∈es:=sy he;refine done (r':=.tuple [.bool true,k,v]) (H':=s.H.set r (.iter m since (seen++[i]) clock)) ?_ (aJ _ kI (by rw [←d1];exact nV.2));(have hw:aK B (dn aa) J S bH s.H:=by rcases zw with rfl | rfl;exact gI;exact mw gI);(have pz:bk (dn aa) S w (dn aa) S bH:=by rcases zw with rfl | rfl;exact bk.refl _ _ _;exact ku _ _ _);refine aZ.after (Ext.refl J) pz ?_;obtain ⟨az,b7⟩:=DS hw (since':=since) (stepped':=clock) (seen':=seen++[i]) ai aA aG aT bf;rw [d1];refine ⟨dn aa,J,S,Ext.refl J,az,b7,.tuple _ _ rfl (fun u hu=>?_) (fun j u bn hu bg=>?_),aU.b3 rfl⟩
    ·simp only [sB,List.not_mem_nil,or_false] at hu;rcases hu with rfl | rfl | rfl
     ·rfl
     ·exact d2
     ·exact d4
    ·match j with
     | 0=>simp at hu bg;subst hu;subst bg;exact .bool _
     | 1=>simp at hu bg;subst hu;subst bg;exact (d3.mono (Ext.refl J) pz.set).mono (Ext.refl J) az.set
     | 2=>simp at hu bg;subst hu;subst bg;exact (d5.mono (Ext.refl J) pz.set).mono (Ext.refl J) az.set
     | j+3=>simp at hu
end
end
end Go.Proofs.Ytkoioidpbbbaiaa.Ab


namespace Go.Proofs.Ytkoioidpbbbaiaa.Ab
open Go
section
variable {P:Program} {B N:Nat} {J:List Nat} {w:World} {aa:Nat→Option aH} {S:Nat→Nat→Prop}
theorem ya {C:b6} {lo:Nat} {ops:Array Oper} {an:List bY} {i:Nat} {cP:Oper} (hi:ops[i]?=some cP) {R:Nat→Nat→Prop} {aD:a6}:∀ (l:List Nat) (s:a6),l.Pairwise R→i∈l →
  (∀ j∈l,R j i→∀ cQ,ops[j]?=some cQ→indep ops cQ (an.getD j {}) cP (an.getD i {})=true)→cR P C lo ops an l s=some aD →
  ∃ s1,ds P C lo ops cP (an.getD i {}) s=some s1∧cR P C lo ops an (l.erase i) s1=some aD
 | [],s,_,h,_,_=>by simp at h
 | j::r,s,aB,hm,jO,h=>by
   by_cases gf:j=i
   ·subst gf;simp only [cR,hi,si] at h;obtain ⟨s1,ab,ae⟩:=h;exact ⟨s1,ab,by simpa using ae⟩
   ·have ai:i∈r:=by
     rcases sB.1 hm with h | h
     ·exact absurd h.symm gf
     ·exact h
    have aR:R j i:=(tD.1 aB).1 i ai;have he:(j::r).erase i=j::r.erase i:=by
     rw [List.erase_cons];simp [gf]
    rw [he];simp only [cR] at h ⊢;cases aw:ops[j]? with
    | none =>
      simp only [aw] at h;exact ya hi r s (tD.1 aB).2 ai (fun k al=>jO k (by simp [al])) h
    | some cQ =>
      simp only [aw,si] at h;obtain ⟨s1,ab,ae⟩:=h;obtain ⟨s2,aJ,aN⟩:=ya hi r s1 (tD.1 aB).2 ai (fun k al=>jO k (by simp [al])) ae;obtain ⟨dh,q1,aW⟩:=Bo (jO j (by simp) aR cQ aw) ab aJ;exact ⟨dh,q1,by dsimp only;rw [aW];exact aN⟩
def c6 (O:List Nat) (listed:Array Bool):List Nat:=O.filter fun i=>!listed.getD i true
theorem Ax {O:List Nat} (l7:O.Nodup) {i:Nat} {listed:Array Bool}:c6 O (listed.setIfInBounds i true)=(c6 O listed).erase i:=by
 have jS:(c6 O listed).Nodup:=l7.filter _;rw [jS.erase_eq_filter];simp only [c6,uU];congr 1;funext j;by_cases h7:j=i
 ·subst h7;rcases sQ j listed.size with h | h
  ·simp [sw,h]
  ·simp [sw,h]
 ·have:(listed.setIfInBounds i true).getD j true=listed.getD j true:=by
   simp only [sw];rw [uO (Ne.symm h7)]
  rw [this];simp [h7]
theorem z8:∀ {l:List Nat},ob l=true→l.Nodup
 | [],_=>List.nodup_nil
 | j::r,h=>by
   simp only [ob,sn,Bool.not_eq_true',List.contains_eq_mem,decide_eq_false_iff_not] at h;exact List.nodup_cons.2 ⟨h.1,z8 h.2⟩
def oY (ops:Array Oper) (an:List bY) (p q j i:Nat):Prop:=∀ cQ cP,ops[j]?=some cQ→ops[i]?=some cP →
 ((fO ops.toList []).getD i 0).testBit j=true∨indep ops cQ (an.getD j {}) cP (an.getD i {})=true∨(j=p∧i=q)
theorem xH {ops:Array Oper} {an:List bY} {p q:Nat}:∀ {l:List Nat},m0 ops an (fO ops.toList []) p q l=true→l.Pairwise (oY ops an p q)
 | [],_=>List.Pairwise.nil
 | j::r,h=>by
   simp only [m0,sn,sr] at h;refine tD.2 ⟨fun i hi cQ cP ab ae=>?_,xH h.2⟩;have:=h.1 i hi;simp only [Ad,ab,ae,tC,sn] at this;rcases this with (ba | ba) | ba
   ·exact .inl ba
   ·exact .inr (.inl ba)
   ·exact .inr (.inr ⟨sR ba.1,sR ba.2⟩)
theorem B0 {F:Fence} (bF:eh F) {C:b6} (bm:c3 P C) {lo:Nat} {ops:Array Oper} {an:List bY} {O:List Nat} {p q:Nat} (a1:lW ops an (O,p,q)=true) {Q:Exit→Act→World→Prop} {s1 s2:a6} :
  ∀ (fuel:Nat) (listed:Array Bool) (s:a6) (a:Act) (w:World) (aa:Nat→Option aH) (J:List Nat) (S:Nat→Nat→Prop),(c6 (List.range ops.size) listed).length≤fuel→lT ops listed →
    ((cR P C lo ops an (c6 (List.range ops.size) listed) s=some s1∧cR P C lo ops an (c6 O listed) s=some s2∧listed.getD p true=false∧listed.getD q true=false) ∨
      (cR P C lo ops an (c6 (List.range ops.size) listed) s=some s1∧listed.getD p true=true)∨(cR P C lo ops an (c6 O listed) s=some s2∧listed.getD q true=true)) →
    cx B N aa J S w s a→(∀ aD,aD=s1∨aD=s2→∀ aM w',Step B N aa J S w aD aM w'→Q .normal aM w')→wpAnyIn F 0 P .any ops Q fuel listed a w:=by
 simp only [lW,sn,Bool.not_eq_true'] at a1;obtain ⟨⟨⟨⟨⟨⟨⟨⟨d1,d2⟩,d3⟩,d4⟩,d5⟩,d6⟩,d7⟩,d8⟩,d9⟩:=a1;have Dt:p≠q:=fun e=>by rw [e,uV] at d7;cases d7
 have y2:∀ i,i∈O↔i<ops.size:=fun i=>by
  constructor
  ·intro h;rw [sr] at d6;exact by simpa [sV] using d6 i h
  ·intro h;rw [sr] at d5;have:=d5 i (sJ.2 h);simpa using this
 have cY:∀ j cQ,ops[j]?=some cQ→((fO ops.toList []).getD j 0=mP (fO ops.toList []) cQ)∧(∀ e∈cQ.after,Region.binds .any e=true→e.on<j):=fun j cQ aw=>by
  have aR:j<ops.size:=(sO.1 aw).1;simp only [zY,sr,sJ] at d1;have h:=d1 j aR;rw [aw] at h;simp only [sn,beq_iff_eq,sr] at h;obtain ⟨ab,ae⟩:=h;refine ⟨ab,fun e he af=>?_⟩;have:=ae e (by simpa using he);simp only [af,Bool.not_true,Bool.false_or] at this;simpa [sV] using this
 have xU:∀ (listed:Array Bool),lT ops listed→∀ (n k:Nat) ok,k≤n→ops[k]?=some ok→(∀ e∈ok.after,Region.binds .any e=true→listed.getD e.on false=true) →
   ∀ j,((fO ops.toList []).getD k 0).testBit j=true→listed.getD j false=true:=by
  intro listed cE n
  induction n with
  | zero =>
    intro k ok al aq eR j aw;rw [(cY k ok aq).1] at aw;rcases mQ _ j _ _ aw with h | ⟨e,he,af,h⟩
    ·simp at h
    ·have:=(cY k ok aq).2 e (by simpa using he) af;omega
  | succ n a8 =>
    intro k ok al aq eR j aw;rw [(cY k ok aq).1] at aw;rcases mQ _ j _ _ aw with h | ⟨e,he,af,h⟩
    ·simp at h
    ·(have jM:e∈ok.after:=by simpa using he);have aR:=(cY k ok aq).2 e jM af;have h':=eR e jM af;rcases h with h | rfl
     ·have kG:=(sO.1 aq).1;have mu:ops[e.on]?=some ops[e.on]:=su (by omega);have pX:listed.getD e.on true=true:=by
       rcases sQ e.on listed.size with aX | aX
       ·simp [sw,aX] at h' ⊢;exact h'
       ·simp [sw,aX] at h'
      exact a8 e.on _ (by omega) mu (cE e.on _ mu pX) j h
     ·exact h'
 have iT:∀ (O:List Nat) (listed:Array Bool) (i:Nat),i∈c6 O listed↔i∈O∧listed.getD i true=false:=fun O listed i=>by
  simp [c6]
 have mh:∀ (O:List Nat) (listed:Array Bool),(∀ i,i∈O↔i<ops.size)→c6 (List.range ops.size) listed=[]→c6 O listed=[]:=fun O listed l7 h=>by
  rw [uB];intro i hi;have:=(iT _ _ _).1 hi;have ae:i∈c6 (List.range ops.size) listed:=(iT _ _ _).2 ⟨sJ.2 ((l7 i).1 this.1),this.2⟩;rw [h] at ae;simp at ae
 have y8:∀ (listed:Array Bool) (s:a6),c6 (List.range ops.size) listed=[] →
   ((cR P C lo ops an (c6 (List.range ops.size) listed) s=some s1∧cR P C lo ops an (c6 O listed) s=some s2∧listed.getD p true=false∧listed.getD q true=false) ∨
     (cR P C lo ops an (c6 (List.range ops.size) listed) s=some s1∧listed.getD p true=true)∨(cR P C lo ops an (c6 O listed) s=some s2∧listed.getD q true=true))→s=s1∨s=s2:=fun listed s h hinv=>by
  have ae:=mh _ listed y2 h;rw [h,ae] at hinv;simp only [cR,Option.some.injEq] at hinv;rcases hinv with h | h | h
  ·exact .inl h.1
  ·exact .inl h.1
  ·exact .inr h.1
 have front:∀ (O:List Nat) (p q:Nat),O.Pairwise (oY ops an p q)→O.Nodup→(∀ i,i∈O↔i<ops.size)→∀ (listed:Array Bool) (s aD:a6) (i:Nat) (cP:Oper),lT ops listed→ops[i]?=some cP→listed.getD i true=false →
   (∀ e∈cP.after,Region.binds .any e=true→listed.getD e.on false=true)→(i=q→listed.getD p true=true)→cR P C lo ops an (c6 O listed) s=some aD →
   ∃ dh,ds P C lo ops cP (an.getD i {}) s=some dh∧cR P C lo ops an (c6 O (listed.setIfInBounds i true)) dh=some aD:=by
  intro O p q CG CE CD listed s aD i cP cE ed ab eR jG dJ;have aR:=(sO.1 ed).1
  obtain ⟨dh,q1,aW⟩:=ya ed (R:=oY ops an p q) (c6 O listed) s (CG.filter _) ((iT _ _ _).2 ⟨(CD i).2 aR,ab⟩) (fun j aw gf cQ pW=>by
   have dU:=((iT _ _ _).1 aw).2;rcases gf cQ cP pW ed with h | h | ⟨rfl,rfl⟩
   ·have:=xU listed cE i i cP (se _) ed eR j h;rcases sQ j listed.size with aX | aX
    ·simp [sw,aX] at dU this;rw [this] at dU;simp at dU
    ·simp [sw,aX] at dU
   ·exact h
   ·rw [jG rfl] at dU;cases dU) dJ
  exact ⟨dh,q1,by rw [Ax CE];exact aW⟩
 have CF:∀ i,i∈List.range ops.size↔i<ops.size:=fun i=>sJ;have f1:=front _ p q (xH d2) uj CF;have f2:=front _ q p (xH d3) (z8 d4) y2;intro fuel
 induction fuel with
 | zero =>
   intro listed s a w aa J S pG cE hinv aL bo;have h_:c6 (List.range ops.size) listed=[]:=sP.1 (by omega);refine ⟨?_,bo s (y8 listed s h_ hinv) a w (Step.here aL)⟩;rw [uB];intro i hi;obtain ⟨ab,o,aq,_⟩:=mem_ready.1 hi
   have:i∈c6 (List.range ops.size) listed:=(iT _ _ _).2 ⟨sJ.2 (sO.1 aq).1,by simp [ab]⟩
   rw [h_] at this;simp at this
 | succ fuel a8 =>
   intro listed s a w aa J S pG cE hinv aL bo;refine ⟨fun ai=>?_,fun i hi=>?_⟩
   ·have h_:c6 (List.range ops.size) listed=[]:=by
     rw [uB];intro i
     induction i using Nat.strongRecOn with
     | _ i xo =>
       intro hi;obtain ⟨aR,dU⟩:=(iT _ _ _).1 hi;have aR:=sJ.1 aR;have aq:ops[i]?=some ops[i]:=su aR
       have:i∈Region.ready .any ops listed:=mem_ready.2 ⟨by simpa using dU,_,aq,fun e he af=>by
        have h9:=(cY i _ aq).2 e he af;have kK:=xo e.on h9;have ao:listed.getD e.on true=true:=by
         cases aj:listed.getD e.on true with
         | true=>rfl
         | false=>exact absurd ((iT _ _ _).2 ⟨sJ.2 (by omega),aj⟩) kK
        rcases sQ e.on listed.size with aX | aX
        ·simp [sw,aX] at ao ⊢;exact ao
        ·rcases sQ i listed.size with l6 | l6
         ·omega
         ·simp [sw,l6] at dU⟩
       rw [ai] at this;simp at this
    exact bo s (y8 listed s h_ hinv) a w (Step.here aL)
   ·obtain ⟨ab,cP,ed,eR⟩:=mem_ready.1 hi;have aR:=(sO.1 ed).1;(have iO:listed.getD i true=false:=by simpa using ab);have kI:i∈c6 (List.range ops.size) listed:=(iT _ _ _).2 ⟨sJ.2 aR,iO⟩;have bQ:i<listed.size:=by
     rcases sQ i listed.size with aX | aX
     ·exact aX
     ·simp [sw,aX] at iO
    have xb:(listed.setIfInBounds i true).getD i true=true:=by
     simp [sw,bQ]
    have bI:∀ k,k≠i→(listed.setIfInBounds i true).getD k true=listed.getD k true:=fun k al=>by
     simp only [sw];rw [uO (Ne.symm al)]
    have zr:∀ k,listed.getD k true=true→(listed.setIfInBounds i true).getD k true=true:=fun k al=>by
     by_cases e:k=i
     ·rw [e];exact xb
     ·rw [bI k e];exact al
    obtain ⟨dh,q1,C'⟩:∃ dh,ds P C lo ops cP (an.getD i {}) s=some dh ∧
      ((cR P C lo ops an (c6 (List.range ops.size) (listed.setIfInBounds i true)) dh=some s1∧cR P C lo ops an (c6 O (listed.setIfInBounds i true)) dh=some s2∧(listed.setIfInBounds i true).getD p true=false∧(listed.setIfInBounds i true).getD q true=false) ∨
        (cR P C lo ops an (c6 (List.range ops.size) (listed.setIfInBounds i true)) dh=some s1∧(listed.setIfInBounds i true).getD p true=true)∨(cR P C lo ops an (c6 O (listed.setIfInBounds i true)) dh=some s2∧(listed.setIfInBounds i true).getD q true=true)):=by
     rcases hinv with ⟨cc,b_,eP,iM⟩ | ⟨cc,b_⟩ | ⟨cc,b_⟩
     ·by_cases mj:i=p
      ·obtain ⟨dh,aJ,aN⟩:=f1 listed s s1 i cP cE ed iO eR (fun e=>absurd (mj.symm.trans e) Dt) cc;exact ⟨dh,aJ,.inr (.inl ⟨aN,by rw [←mj];exact xb⟩)⟩
      ·by_cases pL:i=q
       ·obtain ⟨dh,aJ,aN⟩:=f2 listed s s2 i cP cE ed iO eR (fun e=>absurd e mj) b_;exact ⟨dh,aJ,.inr (.inr ⟨aN,by rw [←pL];exact xb⟩)⟩
       ·obtain ⟨dh,aJ,aN⟩:=f1 listed s s1 i cP cE ed iO eR (fun e=>absurd e pL) cc;obtain ⟨Hc,b',hn⟩:=f2 listed s s2 i cP cE ed iO eR (fun e=>absurd e mj) b_;rw [aJ] at b';cases b';exact ⟨dh,aJ,.inl ⟨aN,hn,by rw [bI _ (Ne.symm mj)];exact eP,by rw [bI _ (Ne.symm pL)];exact iM⟩⟩
     ·obtain ⟨dh,aJ,aN⟩:=f1 listed s s1 i cP cE ed iO eR (fun _=>b_) cc;exact ⟨dh,aJ,.inr (.inl ⟨aN,zr _ b_⟩)⟩
     ·obtain ⟨dh,aJ,aN⟩:=f2 listed s s2 i cP cE ed iO eR (fun _=>b_) cc;exact ⟨dh,aJ,.inr (.inr ⟨aN,zr _ b_⟩)⟩
    refine Bq bF bm ed q1 aL fun aM w' ah=>?_;obtain ⟨b4,cW,a4,aJ,aN,cd⟩:=ah;refine a8 (listed.setIfInBounds i true) dh aM w' b4 cW a4 ?_ ?_ C' cd fun aD hh g4 hy dK=>bo aD hh g4 hy (dK.trans aJ aN)
    ·rw [Ax uj,tE kI];omega
    ·intro k ok al ao e he af;by_cases iR:k=i
     ·subst iR;rw [ed] at al;cases al;exact getD_set_true (eR e he af)
     ·have:listed.getD k true=true:=by rw [getD_set_ne true (Ne.symm iR)] at ao;exact ao
      exact getD_set_true (cE k ok al this e he af)
theorem EY {F:Fence} (bF:eh F) (hm:P.follows .mixedOrders=true) {C:b6} (bm:c3 P C) {lo id:Nat} {ops:Array Oper} {an:List bY} {x:List Nat×Nat×Nat} (a1:lW ops an x=true) {Q:Exit→Act→World→Prop} {s s1 s2:a6} {a:Act}
  (ab:cR P C lo ops an (List.range ops.size) s=some s1) (ae:cR P C lo ops an x.1 s=some s2) (aL:cx B N aa J S w s a) (bo:∀ aD,aD=s1∨aD=s2→∀ aM w',Step B N aa J S w aD aM w'→Q .normal aM w'):(Code.region id ops true).wpIn F 0 P Q a w:=by
 obtain ⟨O,p,q⟩:=x;refine wpIn_region_any hm ?_;have hw:aK B aa J S w.drew s.H:=mw aL.H;have az:=ku aa S w;have gd:cx B N aa J S w.drew s a:=⟨⟨aL.T.len,fun i u v hu ad=>(aL.T.rel i u v hu ad).mono (Ext.refl J) az.set,fun i u v hu ad=>(aL.T.own i u v hu ad).mono (Ext.refl J) az.set fun b af=>⟨af,rfl,fun _ h=>h⟩⟩,hw,aL.M.az az⟩;have dU:∀ i,i<ops.size→(Array.replicate ops.size false).getD i true=false:=fun i hi=>by simp [sw,hi]
 have kP:∀ O:List Nat,(∀ i,i∈O→i<ops.size)→c6 O (Array.replicate ops.size false)=O:=fun O l7=>by
  simp only [c6];rw [tF];intro i hi;rw [dU i (l7 i hi)];rfl
 have jL:=a1;simp only [lW,sn] at jL;obtain ⟨⟨⟨⟨_,d6⟩,_⟩,d8⟩,d9⟩:=jL;have d8:p<ops.size:=by simpa [sV] using d8
 have d9:q<ops.size:=by simpa [sV] using d9
 rw [sr] at d6;refine B0 bF bm a1 (s1:=s1) (s2:=s2) (lo:=lo) ops.size (Array.replicate ops.size false) s a w.drew aa J S (by rw [kP _ fun i hi=>sJ.1 hi];simp) ?_ (.inl ⟨by rw [kP _ fun i hi=>sJ.1 hi];exact ab,by rw [kP _ fun i hi=>by simpa [sV] using d6 i hi];exact ae,dU _ d8,dU _ d9⟩) gd fun aD hh aM w' ah=>bo aD hh aM w' (ah.trans (Ext.refl J) az);intro k o aq ao;have aR:=(sO.1 aq).1;rw [dU k aR] at ao;cases ao
end
end Go.Proofs.Ytkoioidpbbbaiaa.Ab


namespace Go.Proofs.Ytkoioidpbbbaiaa.Ab
open Go
section
variable (P:Program)
def iF (lo:Nat) (ops:Array Oper) (o:Oper) (an:bY) (s:a6) (K:a6→Prop):Prop :=
 (∃ C aD,c3 P C∧ds P C lo ops o an s=some aD∧K aD)∨yt o s K
def runN (lo:Nat) (ops:Array Oper):List Oper→List bY→a6→(a6→Prop)→Prop
 | [],_,s,K=>K s
 | o::r,as,s,K=>iF P lo ops o (as.headD {}) s fun aD=>runN lo ops r as.tail aD K
def Ff (lo:Nat) (ops:Array Oper) (as:List bY) (s:a6) (K:a6→Prop):Prop :=
 (∃ acc aD,hZ P acc∧(∀ C,c3 P C→iD C acc→eb P C lo ops ops.toList as s=some aD)∧K aD) ∨
  ∃ C aD,c3 P C∧eb P C lo ops ops.toList as s=some aD∧K aD
def Fg (lo:Nat) (ops:Array Oper) (as:List bY) (x:List Nat×Nat×Nat) (s:a6) (K:a6→Prop):Prop :=
 ∃ acc s1 s2,hZ P acc∧(∀ C,c3 P C→iD C acc→cR P C lo ops as (List.range ops.size) s=some s1∧cR P C lo ops as x.1 s=some s2)∧K s1∧K s2
def fy (f:a6→(cN→a6→Prop)→Prop):Nat→a6→(cN→a6→Prop)→Prop
 | 0,_,_=>False
 | n+1,s,Q=>f s fun e aD=>match e with
   | .normal=>fy f n aD Q
   | e=>Q e aD
def c' (A:dt) (fn:FuncId) (lo:Nat) (rl:Option Nat):Code→Nat→a6→(cN→a6→Prop)→Prop
 | .skip,_,s,Q=>Q .normal s
 | .region id ops draw,_,s,Q=>match kg A id draw with
   | some p=>Fg P lo ops (A.ops.getD id []) p (e2 A.ij id s) (Q .normal)
   | none=>match draw with
     | true=>Ff P lo ops (A.ops.getD id []) (e2 A.ij id s) (Q .normal)
     | false=>runN P lo ops ops.toList (A.ops.getD id []) (e2 A.ij id s) (Q .normal)
 | .seq a b,a2,s,Q=>c' A fn lo rl a a2 s fun e aD=>match e with
   | .normal=>c' A fn lo rl b a2 aD Q
   | e=>Q e aD
 | .cond c a b,a2,s,Q=>(∃ t,az s.T c=.bool t∧match t with
   | true=>c' A fn lo rl a a2 s Q
   | false=>c' A fn lo rl b a2 s Q)∨(az s.T c=.dw∧c' A fn lo rl a a2 s Q∧c' A fn lo rl b a2 s Q)
 | .block id body,_,s,Q=>c' A fn lo rl body id s fun e aD=>match e with
   | .exit bB=>if bB=id then Q .normal aD else Q (.exit bB) aD
   | e=>Q e aD
 | .loop body,a2,s,Q=>∃ n,fy (fun aD=>c' A fn lo rl body a2 (e2 A.ih a2 aD)) n s Q
 | .exit id,_,s,Q=>Q (.exit id) s
 | .ret,_,s,Q=>Q .ret s
 | .scope body,a2,s,Q=>c' A fn lo rl body a2 s Q
 | .label _,_,s,Q=>Q .normal s
 | .rangeFunc f params assign body,a2,s,Q=>∃ C e aD,c3 P C∧exec P A C fn lo 0 rl (.rangeFunc f params assign body) a2 s=some (e,aD)∧Q e aD
 | _,_,_,_=>False
end
section
variable {P:Program} {B N:Nat} {J:List Nat} {w:World} {H:List ar} {aa:Nat→Option aH} {S:Nat→Nat→Prop}
theorem Gh {F:Fence} (bF:eh F) {lo:Nat} {ops:Array Oper} {o:Oper} {an:bY} {s:a6} {K':a6→Prop} (h:iF P lo ops o an s K') {a:Act} (aL:cx B N aa J S w s a)
  {rest:List Oper} {Q:Exit→Act→World→Prop} (fG:∀ aD,K' aD→∀ aM w',Step B N aa J S w aD aM w'→wpListIn F 0 P ops Q rest aM w'):wpListIn F 0 P ops Q (o::rest) a w:=by
 rcases h with ⟨C,aD,bm,h,al⟩ | h
 ·unfold ds at h;unfold wpListIn;split at h
  ·rename_i hw;rw [lz aL hw];simp only [if_true];exact yh bF bm h aL fun aM w' ah=>fG aD al aM w' ah
  ·rename_i hw;rw [lz aL hw];simp only [tS,if_false];simp only [Option.some.injEq] at h;subst h;exact ⟨fun f _=>bF.fn f,fG _ al _ _ (Step.here (aL.skip o.dst))⟩
  ·simp at h
 ·have aO:o.guard=none:=by obtain ⟨_,_,_,_,_,_,_,_,aO,_⟩:=h;exact aO
  unfold wpListIn;have hw:Region.wanted o (yielded ops a.tmps)=true:=by unfold Region.wanted;rw [aO]
  rw [hw];simp only [if_true];exact Ey bF h aL fun aD al aM w' ah=>fG aD al aM w' ah
theorem AV {F:Fence} (bF:eh F) {lo:Nat} {ops:Array Oper} {K':a6→Prop} {Q:Exit→Act→World→Prop} :
  ∀ (rest:List Oper) (as:List bY) (s:a6) (a:Act) (w:World) (aa:Nat→Option aH) (J:List Nat) (S:Nat→Nat→Prop),runN P lo ops rest as s K'→cx B N aa J S w s a →
    (∀ aD,K' aD→∀ aM w',Step B N aa J S w aD aM w'→Q .normal aM w')→wpListIn F 0 P ops Q rest a w
 | [],as,s,a,w,aa,J,S,h,aL,bo=>bo s h a w (Step.here aL)
 | o::rest,as,s,a,w,aa,J,S,h,aL,bo=>by
   refine Gh bF h aL fun aD al aM w' ah=>?_;obtain ⟨b4,cW,a4,aJ,aN,cd⟩:=ah;exact AV bF rest as.tail aD aM w' b4 cW a4 al cd fun Ft Db g4 hy dK=>bo Ft Db g4 hy (dK.trans aJ aN)
theorem D5 {F:Fence} {c:Code} {f:a6→(cN→a6→Prop)→Prop} {cJ:cN→a6→Prop} {Q:Exit→Act→World→Prop} {s:a6} {a:Act} {n:Nat}
  (h:fy f n s cJ) (aL:cx B N aa J S w s a) (bo:∀ e aD,cJ e aD→∀ aM w',Step B N aa J S w aD aM w'→Q (toExit e) aM w')
  (kD:∀ (s1:a6) (oX:cN→a6→Prop),f s1 oX→∀ (lG:Exit→Act→World→Prop) (aA:Act) (bH:World),(∀ l a w,lG (.goto l) a w→Q (.goto l) a w)→Step B N aa J S w s1 aA bH →
   (∀ e s2,oX e s2→∀ aM w',Step B N aa J S w s2 aM w'→lG (toExit e) aM w')→c.wpIn F 0 P lG aA bH):(Code.loop c).wpIn F 0 P Q a w:=by
 classical
 let Inv:Nat→Act→World→Prop:=fun n aM w'=>∃ s1,fy f n s1 cJ∧Step B N aa J S w s1 aM w'
 let gw:Act→World→Nat:=fun aM w'=>if h:∃ n,Inv n aM w' then Classical.choose (kx h) else 0
 have mD:∀ aM w',(∃ n,Inv n aM w')→Inv (gw aM w') aM w'∧∀ m,Inv m aM w'→gw aM w'≤m:=fun aM w' h=>by
  have:gw aM w'=Classical.choose (kx h):=by simp only [gw,dif_pos h]
  rw [this];exact uC (kx h)
 refine wpIn_loop (fun aM w'=>∃ n,Inv n aM w') gw ⟨n,s,h,Step.here aL⟩ fun aA bH kB=>?_;obtain ⟨⟨s1,ab,gM⟩,_⟩:=mD aA bH kB;cases aI:gw aA bH with
 | zero=>rw [aI] at ab;exact ab.elim
 | succ m =>
   rw [aI] at ab;simp only [fy] at ab;refine kD s1 _ ab _ aA bH (fun l a w h=>h) gM fun e s2 al aM w' dK=>?_;cases e with
   | normal =>
     have hinv:Inv m aM w':=⟨s2,al,dK⟩;exact ⟨⟨m,hinv⟩,Nat.lt_succ_of_le ((mD aM w' ⟨m,hinv⟩).2 m hinv)⟩
   | ret=>exact bo .ret s2 al aM w' dK
   | exit id=>exact bo (.exit id) s2 al aM w' dK
theorem BA (eD:P.follows .mixedOrders=true) {A:dt} {fn:FuncId} {lo:Nat} {rl:Option Nat} :
  ∀ (c:Code) (a2:Nat) (s:a6) (K:cN→a6→Prop),c' P A fn lo rl c a2 s K→codeOk A c=true →
    ∀ (F:Fence) (Q:Exit→Act→World→Prop) (B N:Nat) (J:List Nat) (w:World) (aa:Nat→Option aH) (S:Nat→Nat→Prop) (a:Act),jt F rl J→(∀ l a w,¬ Q (.goto l) a w) →
      cx B N aa J S w s a→(∀ e aD,K e aD→∀ aM w',Step B N aa J S w aD aM w'→Q (toExit e) aM w')→c.wpIn F 0 P Q a w:=by
 intro c
 induction c with
 | skip=>intro a2 s K h _ F Q B N J w aa S a bF aO aL bo;exact wpIn_skip (bo _ _ h a w (Step.here aL))
 | label l=>intro a2 s K h _ F Q B N J w aa S a bF aO aL bo;exact wpIn_label (bo _ _ h a w (Step.here aL))
 | ret=>intro a2 s K h _ F Q B N J w aa S a bF aO aL bo;exact wpIn_ret (bo _ _ h a w (Step.here aL))
 | exit id=>intro a2 s K h _ F Q B N J w aa S a bF aO aL bo;exact wpIn_exit (bo _ _ h a w (Step.here aL))
 | goto l=>intro a2 s K h;exact h.elim
 | refuse y=>intro a2 s K h;exact h.elim
 | region id ops draw =>
   intro a2 s K h bS F Q B N J w aa S a bF aO aL bo;simp only [c'] at h;simp only [codeOk,xQ] at bS;split at h
   ·rename_i p kS;rw [kS] at bS;cases draw with
    | false=>simp [kg] at kS
    | true =>
      obtain ⟨acc,s1,s2,hH,aj,Dd,pN⟩:=h;obtain ⟨C,bm,cm⟩:=nq hH;obtain ⟨lB,lC⟩:=aj C bm cm;exact EY bF.ky eD bm bS lB lC (aL.cB _ _) fun aD hh aM w' ah=>by
       rcases hh with rfl | rfl
       ·exact bo _ _ Dd aM w' ah
       ·exact bo _ _ pN aM w' ah
   rename_i kS;rw [kS] at bS;cases draw with
   | true =>
     rcases h with ⟨acc,aD,hH,aj,al⟩ | ⟨C,aD,bm,aj,al⟩
     ·obtain ⟨C,bm,cm⟩:=nq hH;exact xR bF.ky eD bm (fun _=>by simpa using bS) (aj C bm cm) (aL.cB _ _) fun aM w' ah=>bo _ _ al aM w' ah
     ·exact xR bF.ky eD bm (fun _=>by simpa using bS) aj (aL.cB _ _) fun aM w' ah=>bo _ _ al aM w' ah
   | false=>exact wpIn_region_list (AV bF.ky ops.toList _ _ a w aa J S h (aL.cB _ _) fun aD al aM w' ah=>bo _ _ al aM w' ah)
 | seq x y nY xp =>
   intro a2 s K h bS F Q B N J w aa S a bF aO aL bo;simp only [codeOk,sn] at bS;refine wpIn_seq (nY _ _ _ h bS.1 F _ B N J w aa S a bF (fun l a w=>aO l a w) aL fun e s1 al aM w' ah=>?_);cases e with
   | normal =>
     obtain ⟨b4,cW,a4,aJ,aN,cd⟩:=ah;exact xp _ _ _ al bS.2 F Q B N cW w' b4 a4 aM (bF.ext aJ) aO cd fun e s2 pN g4 hy dK=>bo e s2 pN g4 hy (dK.trans aJ aN)
   | ret=>exact bo _ _ al aM w' ah
   | exit id=>exact bo _ _ al aM w' ah
 | cond x t f nX nW =>
   intro a2 s K h bS F Q B N J w aa S a bF aO aL bo;simp only [codeOk,sn] at bS;rcases h with ⟨b,af,h⟩ | ⟨af,ab,ae⟩
   ·have ai:=aL.az x;rw [af] at ai;cases b with
    | true=>exact wpIn_cond_true ai.h3 (nX _ _ _ h bS.1 F Q B N J w aa S a bF aO aL bo)
    | false=>exact wpIn_cond_false ai.h3 (nW _ _ _ h bS.2 F Q B N J w aa S a bF aO aL bo)
   ·have ai:=aL.az x;rw [af] at ai;obtain ⟨b,ai⟩:=ai.B1;cases b with
    | true=>exact wpIn_cond_true ai (nX _ _ _ ab bS.1 F Q B N J w aa S a bF aO aL bo)
    | false=>exact wpIn_cond_false ai (nW _ _ _ ae bS.2 F Q B N J w aa S a bF aO aL bo)
 | block id c a8 =>
   intro a2 s K h bS F Q B N J w aa S a bF aO aL bo;refine wpIn_block ?_;refine a8 _ _ _ h bS F _ B N J w aa S a bF (fun l a w=>aO l a w) aL fun e s1 al aM w' ah=>?_;cases e with
   | normal=>exact bo _ _ al aM w' ah
   | ret=>exact bo _ _ al aM w' ah
   | exit bB =>
     simp only at al;by_cases aE:bB=id
     ·simp only [aE,if_true] at al;simp only [toExit,Exit.inBlock,aE,if_true];exact bo _ _ al aM w' ah
     ·simp only [aE,if_false] at al;simp only [toExit,Exit.inBlock,aE,if_false];exact bo _ _ al aM w' ah
 | loop c a8 =>
   intro a2 s K h bS F Q B N J w aa S a bF aO aL bo;obtain ⟨n,h⟩:=h;refine D5 h aL bo fun s1 oX ab lG aA bH Dv ah fG=>?_;obtain ⟨b4,cW,a4,aJ,aN,cd⟩:=ah;exact a8 _ _ _ ab bS F lG B N cW bH b4 a4 aA (bF.ext aJ) (fun l a w h=>aO l a w (Dv l a w h)) (cd.cB _ _) fun e s2 al aM w' dK=>fG e s2 al aM w' (dK.trans aJ aN)
 | scope c a8 =>
   intro a2 s K h bS F Q B N J w aa S a bF aO aL bo;exact BD (a8 _ _ _ h bS F Q B N J w aa S a bF aO aL bo) aO
 | rangeFunc f params assign body _ _ =>
   intro a2 s K h bS F Q B N J w aa S a bF aO aL bo;obtain ⟨C,e,aD,bm,aj,al⟩:=h;exact nC bm eD _ _ _ _ _ aj bS F Q B N J w aa S a bF aO aL fun aM w' ah=>bo _ _ al aM w' ah
def lF (H H':List ar):Prop:=H'.length=H.length∧∀ (id:Nat) (o:ar),H'[id]?=some o→o=.dead∨H[id]?=some o
theorem lF.refl (H:List ar):lF H H:=⟨rfl,fun _ _ h=>.inr h⟩
theorem aK.pb {H':List ar} (ag:aK B aa J S w H) (h:lF H H'):aK B aa J S w H' :=
 ⟨by rw [h.1];exact ag.cH,fun id o aq=>by
  rcases h.2 id o aq with rfl | aX
  ·trivial
  ·exact ag.obj id o aX,ag.cb,ag.base,ag.cX⟩
theorem aZ.pb {H1 H':List ar} {r:I} {v:Value} {w':World} (h:lF H1 H') (aB:aZ B aa J S w H1 r v w'):aZ B aa J S w H' r v w':=by
 obtain ⟨bt,cg,bK,a,b,c,d⟩:=aB;exact ⟨bt,cg,bK,a,b,c.pb h,d⟩
theorem Hb (eD : P.follows .mixedOrders = true) {k : Nat} {f : Func} {c : Code} (aP : P.funcs[k]? = some f) (af : f.body = some c) (aI : f.name ≠ "runtime.NumGoroutine") {A : dt} (bS : codeOk A c = true)
  {args:List I} {v:I} (aB:cn 8 v=true)
  (h:c' P A k 0 none c 0 ⟨args++List.replicate (f.ntmps-args.length) .a0,[]⟩ fun e s=>(e=.normal∨e=.ret)∧∃ vs r,gU P s.H s.T f.results.toList=some vs∧bL s.H 0 s.H.length 0 8 (jd vs)=some r∧(r=v∨r.settle=v)):nj P k args v:=by
 refine ⟨⟨a'.refl _ _,⟨f,aP,by simp [af],aI⟩,fun B aa J S w xs ag _ ad=>?_⟩,aB⟩;refine callsIn_of_wp_marks aP af trivial ?_;have aL:=yg ag ad f.ntmps;have dy:=(oO ag).1;refine BA eD c 0 _ _ h bS Fence.wide _ B w.heap.size J w (hV aa) S _ (.inl ⟨rfl,rfl⟩) (fun l a w aO=>aO.elim) aL fun e s al aM w' ah=>?_;obtain ⟨he,vs,r,ai,C3,eE⟩:=al;obtain ⟨b4,cW,a4,aJ,aN,cd⟩:=ah;have iS:LeavesInM Fence.wide 0 P f aM.tmps (fW B aa J S w [] v) aM.defers .returning w':=by
  refine n4 (aa:=b4) (S:=a4) (J:=cW) (B:=B) (H:=s.H) (lE:=aa) (S0:=S) (w0:=w) aM.defers w' cd.M.2.1 cd.M.2.2 (dy.trans aN) cd.H fun bW dA dq mG mH=>?_
  have bZ:a5 .slot b4 cW a4 bW s.T aM.tmps.toList:=⟨cd.T.len,fun i u v hu ad=>(cd.T.rel i u v hu ad).mono (Ext.refl _) (fun b o h=>⟨h,dq b o h⟩),fun i u v hu ad =>
   (cd.T.own i u v hu ad).mono (Ext.refl _) (fun b o h=>⟨h,dq b o h⟩) fun b af=>⟨af,dA b _ af,fun _ h=>h⟩⟩
  obtain ⟨x,q1,aW⟩:=xV mH bZ ai;have kN:=xJ ag (fun id aE=>by simp at aE) C3 (aZ.after aJ mG aW);refine ⟨x,q1,?_⟩;rcases eE with rfl | eE
  ·exact kN
  ·cases r with
   | av cells len ej =>
     cases ej with
     | uniq z=>simp only [I.settle] at eE;subst eE;exact kN.settle
     | _=>simp only [I.settle] at eE;subst eE;exact kN
   | _=>simp only [I.settle] at eE;subst eE;exact kN
 rcases he with rfl | rfl
 ·exact iS
 ·exact iS
theorem He (eD : P.follows .mixedOrders = true) {k : Nat} {f : Func} {c : Code} (aP : P.funcs[k]? = some f) (af : f.body = some c) (aI : f.name ≠ "runtime.NumGoroutine") {A : dt} (bS : codeOk A c = true)
  {lo:Nat} {args:List I} {H H':List ar} {r:I} (ao:a' lo H H')
  (h:c' P A k lo none c 0 ⟨args++List.replicate (f.ntmps-args.length) .a0,H⟩ fun e s=>(e=.normal∨e=.ret)∧lF s.H H'∧∃ vs,gU P s.H s.T f.results.toList=some vs∧jd vs=r):Sem P (.fn k) args H lo r H':=by
 refine ⟨ao,⟨f,aP,by simp [af],aI⟩,fun B aa J S w xs ag _ ad=>?_⟩;refine callsIn_of_wp_marks aP af trivial ?_;have aL:=yg ag ad f.ntmps;have dy:=(oO ag).1;refine BA eD c 0 _ _ h bS Fence.wide _ B w.heap.size J w (hV aa) S _ (.inl ⟨rfl,rfl⟩) (fun l a w aO=>aO.elim) aL fun e s al aM w' ah=>?_;obtain ⟨he,nH,vs,ai,rfl⟩:=al;obtain ⟨b4,cW,a4,aJ,aN,cd⟩:=ah;have iS:LeavesInM Fence.wide 0 P f aM.tmps (fW B aa J S w H' (jd vs)) aM.defers .returning w':=by
  refine n4 (aa:=b4) (S:=a4) (J:=cW) (B:=B) (H:=s.H) (lE:=aa) (S0:=S) (w0:=w) aM.defers w' cd.M.2.1 cd.M.2.2 (dy.trans aN) cd.H fun bW dA dq mG mH=>?_
  have bZ:a5 .slot b4 cW a4 bW s.T aM.tmps.toList:=⟨cd.T.len,fun i u v hu ad=>(cd.T.rel i u v hu ad).mono (Ext.refl _) (fun b o h=>⟨h,dq b o h⟩),fun i u v hu ad =>
   (cd.T.own i u v hu ad).mono (Ext.refl _) (fun b o h=>⟨h,dq b o h⟩) fun b af=>⟨af,dA b _ af,fun _ h=>h⟩⟩
  obtain ⟨v,q1,aW⟩:=xV mH bZ ai;exact ⟨v,q1,(aZ.after aJ mG aW).pb nH⟩
 rcases he with rfl | rfl
 ·exact iS
 ·exact iS
end
end Go.Proofs.Ytkoioidpbbbaiaa.Ab


namespace Go.Proofs.Ytkoioidpbbbaiaa.Ab
open Go
inductive kn where
 | m_ (t:Nat) | jm (t:Nat) | Bv (t:Nat) | cv (v:I)
inductive g2 where
 | one | str (s:Nat) | arr (s:Nat)
inductive hY where
 | int (k:IntKind) | str (n:Nat)
inductive jv where
 | mR | nil (z:Nat) | Bt
 | zH (a:g2) | zI (a:g2) | take | Bs | Bn | Bm (s:Nat) | st (s:Nat) | box | yB | alloc (z:List I)
 | z4 (z:List I) (s:Nat) (bytes:Nat)
 | z3 (z:List I) (s:Nat) (bytes:Nat)
 | zM | zK (n:Nat) | min | max
 | app (s bytes:Nat)
 | yv (s bytes:Nat)
 | yw (s bytes:Nat)
 | call (mode:Nat)
 | pick | build (z:List I) (bp:List (Nat×Nat)) | yD (k:Nat) (z:List I) (bp:List (Nat×Nat)) | yE (len s:Nat) (z:List I) (ix:List Nat) | yC (len s:Nat) (z:List I) (ix:List Nat)
 | z7 | bin (op:BinOp) | o2 (neq:Bool) | un (op:UnOp) | conv (k:IntKind)
 | z1 (f:FuncId) (n m:Nat)
 | Bk (s:Nat) (l h m:Bool)
 | z2 | zU (fi:hY) | zT (fi:hY) (ok:Bool) (zero:Option I) | zS (fi:hY) | AQ | yK | zL
 | yP (off:Nat) | yV (off:Nat) (a:g2) | kV (s:Nat) | zx (len s:Nat) | ext (i:Nat)
 | other (o:Oper) (mode:Nat)
structure dM where
 dst:Option Nat
 Gg:List kn
 guard:Option (Nat×Bool)
 ip:Option Nat
 k:jv
inductive gB where
 | skip
 | ou (draw:Bool) (l:List dM)
 | seq (a b:gB)
 | cond (c:kn) (a b:gB)
 | block (id:Nat) (c:gB)
 | loop (cB:Option (List Bool)) (c:gB)
 | exit (id:Nat)
 | ret
 | AP (f:kn) (params:List Nat) (assign body:Code)
 | z9 (it:Nat) (dst:Option Nat) (l:List dM)
 | two (l1 l2:List dM)
noncomputable section
def mg (v:I) (K:I→Prop):Prop:=match v with
 | .int k n=>K (.int k n)
 | .bool b=>K (.bool b)
 | .av c n .shared=>K (.av c n .shared)
 | .av c n .full=>K (.av c n .full)
 | .av c n (.own z)=>K (.av c n (.own z))
 | .av c n (.uniq z)=>K (.av c n (.uniq z))
 | .agg cs=>K (.agg cs)
 | .ptr id off=>K (.ptr id off)
 | .bR cs=>K (.bR cs)
 | .ref id off n cap sz=>K (.ref id off n cap sz)
 | .func f a b=>K (.func f a b)
 | .yield id=>K (.yield id)
 | .map id=>K (.map id)
 | .tuple vs=>K (.tuple vs)
 | .a0=>K .a0
 | .eF=>K .eF
 | .str s=>K (.str s)
 | .raw c n z=>K (.raw c n z)
 | .cj i g n z=>K (.cj i g n z)
 | .dw=>K .dw
 | .c0 as c n z bs=>K (.c0 as c n z bs)
theorem nF (v:I) (K:I→Prop):mg v K=K v:=by
 unfold mg;split <;> rfl
def hF:List I→Nat→(I→Prop)→Prop
 | [],_,K=>K .a0
 | h::_,0,K=>K h
 | _::t,n+1,K=>hF t n K
theorem iN:∀ (T:List I) (t:Nat) (K:I→Prop),hF T t K=K (dc T t)
 | [],t,K=>rfl
 | h::T,0,K=>rfl
 | h::T,n+1,K=>by rw [hF,iN T n K];rfl
def jk:List I→Nat→I→(List I→Prop)→Prop
 | [],_,_,K=>K []
 | _::t,0,v,K=>K (v::t)
 | h::t,n+1,v,K=>jk t n v fun iB=>K (h::iB)
theorem kb:∀ (T:List I) (t:Nat) (v:I) (K:List I→Prop),jk T t v K=K (gZ T t v)
 | [],t,v,K=>rfl
 | h::T,0,v,K=>rfl
 | h::T,n+1,v,K=>by rw [jk,kb T n v];rfl
def m1 (T:List I) (d:Option Nat) (v:I) (K:List I→Prop):Prop:=match d with
 | some d=>jk T d v K
 | none=>K T
theorem xN (T:List I) (d:Option Nat) (v:I) (K:List I→Prop):m1 T d v K=K (put T d v):=by
 cases d with
 | none=>rfl
 | some d=>exact kb T d v K
def kW:List Bool→List I→(List I→Prop)→Prop
 | b::bs,v::vs,K=>kW bs vs fun cV=>match b with
   | true=>K (v::cV)
   | false=>K (.a0::cV)
 | [],vs,K=>K vs
 | _::_,[],K=>K []
theorem zD:∀ (bs:List Bool) (vs:List I) (K:List I→Prop),kW bs vs K=K (eW bs vs)
 | [],vs,K=>by simp [kW,eW]
 | b::bs,[],K=>by simp [kW,eW]
 | b::bs,v::vs,K=>by rw [kW,zD bs vs];cases b <;> simp [eW]
def kj (v:I) (K:I→Prop):Prop:=match v with
 | .av c n (.own _)=>K (.av c n .shared)
 | .av c n (.uniq _)=>K (.av c n .shared)
 | .raw _ _ _=>K .a0
 | .c0 _ _ _ _ _=>K .a0
 | .cj id _ n z=>K (.ref id 0 n none z)
 | v=>K v
theorem kk (v:I) (K:I→Prop):kj v K=K v.view:=by
 cases v with
 | av c n k=>cases k <;> rfl
 | _=>rfl
def Bl (T:List I) (t:Nat) (v:I) (K:I→List I→Prop):Prop:=match v with
 | .av c n (.uniq z)=>jk T t (.av c n (.own z)) fun g3=>K (.av c n .shared) g3
 | .av c n (.own _)=>K (.av c n .shared) T
 | .raw _ _ _=>K .a0 T
 | .c0 _ _ _ _ _=>K .a0 T
 | .cj id _ n z=>K (.ref id 0 n none z) T
 | v=>K v T
theorem Gf (T:List I) (t:Nat) (v:I) (K:I→List I→Prop):Bl T t v K=K v.view (fU T t v):=by
 cases v with
 | av c n k =>
   cases k with
   | uniq z=>exact kb _ _ _ _
   | _=>rfl
 | _=>rfl
def gm:List kn→List I→(List I→List I→Prop)→Prop
 | [],T,K=>K [] T
 | .cv v::r,T,K=>gm r T fun vs bd=>K (v::vs) bd
 | .jm t::r,T,K=>hF T t fun v=>jk T t .a0 fun g3=>gm r g3 fun vs bd=>K (v::vs) bd
 | .Bv t::r,T,K=>hF T t fun v=>kj v fun v=>jk T t .a0 fun g3=>gm r g3 fun vs bd=>K (v::vs) bd
 | .m_ t::r,T,K=>hF T t fun v=>Bl T t v fun v g3=>gm r g3 fun vs bd=>K (v::vs) bd
def hR (dY:Bool):List Bool→List Operand→List kn
 | _,[]=>[]
 | ts,.tmp t::rest=>(match ts.headD false,dY with | true,true=>.jm t | true,false=>.Bv t | false,_=>.m_ t)::hR dY ts.tail rest
 | ts,x::rest=>.cv (match dY with | true=>az [] x | false=>(az [] x).view)::hR dY ts.tail rest
theorem jf (dY:Bool):∀ (xs:List Operand) (ts:List Bool) (T:List I) (K:List I→List I→Prop),gm (hR dY ts xs) T K=K (fj dY (rd T ts xs).1) (rd T ts xs).2
 | [],ts,T,K=>by cases dY <;> simp [hR,gm,rd,fj]
 | .tmp t::rest,ts,T,K=>by
   simp only [hR];cases bD:ts.headD false with
   | true =>
     cases dY with
     | true =>
       simp only [gm,iN,kb,rd,bD,jf true rest];rfl
     | false =>
       simp only [gm,iN,kb,kk,rd,bD,jf false rest];rfl
   | false =>
     simp only [gm,iN,Gf,rd,bD,jf dY rest];cases dY
     ·simp only [fj,sI,I.km (I.di _)]
     ·rfl
 | .const v::rest,ts,T,K=>by
   simp only [hR,gm,rd,jf dY rest];cases dY <;> rfl
 | .func v::rest,ts,T,K=>by
   simp only [hR,gm,rd,jf dY rest];cases dY <;> rfl
 | .global v::rest,ts,T,K=>by
   simp only [hR,gm,rd,jf dY rest];cases dY <;> rfl
end
end Go.Proofs.Ytkoioidpbbbaiaa.Ab


namespace Go.Proofs.Ytkoioidpbbbaiaa.Ab
open Go
noncomputable section
def eG {α:Type}:List α→Nat→(α→Prop)→Prop
 | [],_,_=>False
 | h::_,0,K=>K h
 | _::t,n+1,K=>eG t n K
theorem e5 {α:Type}:∀ {l:List α} {n:Nat} {K:α→Prop},eG l n K→∃ x,l[n]?=some x∧K x
 | [],_,_,h=>h.elim
 | h::_,0,_,k=>⟨h,rfl,k⟩
 | _::t,n+1,K,k=>by simpa using e5 (l:=t) (n:=n) (K:=K) k
theorem Ez {α:Type}:∀ {l:List α} {n:Nat} {x:α} {K:α→Prop},l[n]?=some x→K x→eG l n K
 | [],_,_,_,h,_=>by simp at h
 | h::_,0,_,_,e,k=>by simp at e;subst e;exact k
 | _::t,n+1,_,K,e,k=>Ez (l:=t) (n:=n) (by simpa using e) k
def jq:List I→Nat→I→(List I→Prop)→Prop
 | [],_,_,_=>False
 | _::t,0,v,K=>K (v::t)
 | h::t,n+1,v,K=>jq t n v fun iB=>K (h::iB)
theorem lv:∀ {l:List I} {n:Nat} {v:I} {K:List I→Prop},jq l n v K→n<l.length∧K (l.set n v)
 | [],_,_,_,h=>h.elim
 | _::_,0,_,_,k=>⟨by simp,k⟩
 | h::t,n+1,v,K,k=>by
   obtain ⟨ab,ae⟩:=lv (l:=t) (n:=n) k;exact ⟨by simpa using ab,ae⟩
theorem Gr:∀ {l:List I} {n:Nat} {v:I} {K:List I→Prop},n<l.length→K (l.set n v)→jq l n v K
 | [],_,_,_,h,_=>by simp at h
 | _::_,0,_,_,_,k=>k
 | h::t,n+1,v,K,e,k=>Gr (l:=t) (n:=n) (by simpa using e) k
def lx:List I→Nat→List I→(List I→Prop)→Prop
 | l,_,[],K=>K l
 | l,n,v::vs,K=>jq l n v fun l'=>lx l' (n+1) vs K
theorem na:∀ {vs l:List I} {n:Nat} {K:List I→Prop},lx l n vs K→(n+vs.length≤l.length∨vs=[])∧K (setCells n vs l)
 | [],_,_,_,h=>⟨.inr rfl,h⟩
 | v::vs,l,n,K,h=>by
   obtain ⟨ab,ae⟩:=lv h;obtain ⟨aF,ba⟩:=na ae;refine ⟨.inl ?_,ba⟩;rcases aF with aF | rfl
   ·simp only [s8] at aF;simp only [sM];omega
   ·simp only [sM,tW];omega
def oq:Nat→List I→Nat→(List I→Prop)→Prop
 | 0,_,_,K=>K []
 | s+1,l,off,K=>eG l off fun v=>kj v fun v=>mg v fun v=>oq s l (off+1) fun vs=>K (v::vs)
theorem An:∀ {s:Nat} {l:List I} {off:Nat} {K:List I→Prop},oq s l off K→(off+s≤l.length∨s=0)∧K (((l.drop off).take s).map I.view)
 | 0,l,off,K,h=>⟨.inr rfl,by simpa [oq] using h⟩
 | s+1,l,off,K,h=>by
   obtain ⟨v,ad,h⟩:=e5 h;rw [kk,nF] at h;obtain ⟨ab,ae⟩:=An h;have aR:=(sd.1 ad).1;refine ⟨.inl (by rcases ab with ab | rfl <;> omega),?_⟩;have a1:l.drop off=v::l.drop (off+1):=by
    rw [s9 aR,(sd.1 ad).2]
   rw [a1];simpa using ae
def ot:Nat→List I→Nat→(List I→Prop)→Prop
 | 0,_,_,K=>K []
 | s+1,l,off,K=>eG l off fun v=>mg v fun v=>ot s l (off+1) fun vs=>K (v::vs)
theorem Ao:∀ {s:Nat} {l:List I} {off:Nat} {K:List I→Prop},ot s l off K→(off+s≤l.length∨s=0)∧K ((l.drop off).take s)
 | 0,l,off,K,h=>⟨.inr rfl,by simpa [ot] using h⟩
 | s+1,l,off,K,h=>by
   obtain ⟨v,ad,h⟩:=e5 h;rw [nF] at h;obtain ⟨ab,ae⟩:=Ao h;have aR:=(sd.1 ad).1;refine ⟨.inl (by rcases ab with ab | rfl <;> omega),?_⟩;have a1:l.drop off=v::l.drop (off+1):=by
    rw [s9 aR,(sd.1 ad).2]
   rw [a1];simpa using ae
def mK (a:g2) (l:List I) (off:Nat) (K:I→Prop):Prop:=match a with
 | .one=>eG l off fun v=>kj v K
 | .str s=>oq s l off fun vs=>K (.agg vs)
 | .arr s=>off+s≤l.length∧K (.agg (((l.drop off).take s).map I.view))
def Aj (a:g2) (l:List I) (off:Nat) (K:I→Prop):Prop:=match a with
 | .one=>eG l off fun v=>kj v K
 | .str s=>ot s l off fun vs=>K (.agg vs)
 | .arr s=>off+s≤l.length∧K (.agg ((l.drop off).take s))
def iI (P:Program) (t:TypeId):Option g2:=match dH P t,P.underlying t with
 | true,some (.struct _)=>(match bE P t with | some (s+1)=>some (.str (s+1)) | _=>none)
 | true,_=>(bE P t).map .arr
 | false,some _=>some .one
 | false,none=>none
section
variable {P:Program}
theorem yu {t:TypeId} {a:g2} (h:iI P t=some a):(a=.one∧dH P t=false∧∃ d,P.underlying t=some d)∨(∃ s,(a=.str (s+1)∧bE P t=some (s+1)∨a=.arr s∧bE P t=some s)∧dH P t=true):=by
 unfold iI at h;split at h
 ·rename_i ab _;split at h
  ·rename_i s ah;cases h;exact .inr ⟨_,.inl ⟨rfl,ah⟩,ab⟩
  ·cases h
 ·rename_i ab _;simp only [sb] at h;obtain ⟨s,ah,rfl⟩:=h;exact .inr ⟨s,.inr ⟨rfl,ah⟩,ab⟩
 ·rename_i d ab ae;cases h;exact .inl ⟨rfl,ab,d,ae⟩
 ·cases h
theorem n3 {t:TypeId} {a:g2} (cq:iI P t=some a) {l:List I} {off:Nat} {K:I→Prop} (h:mK a l off K):∃ v,e3 P t l off=some v∧K v:=by
 rcases yu cq with ⟨rfl,ab,d,ae⟩ | ⟨s,ae,ab⟩
 ·obtain ⟨v,ad,h⟩:=e5 h;rw [kk] at h;exact ⟨v.view,by simp [e3,ab,ae,ad],h⟩
 ·rcases ae with ⟨rfl,ae⟩ | ⟨rfl,ae⟩
  ·obtain ⟨aJ,aN⟩:=An h;exact ⟨_,by simp only [e3,ab,ae,sc];rw [if_pos (by omega)],aN⟩
  ·exact ⟨_,by simp only [e3,ab,ae,sc];rw [if_pos h.1],h.2⟩
theorem EO {t:TypeId} {a:g2} (cq:iI P t=some a) {l:List I} {off:Nat} {K:I→Prop} (h:Aj a l off K):∃ v,iH P t l off=some v∧K v.view:=by
 rcases yu cq with ⟨rfl,ab,d,ae⟩ | ⟨s,ae,ab⟩
 ·obtain ⟨v,ad,h⟩:=e5 h;rw [kk] at h;exact ⟨v,by simp [iH,ab,ae,ad],h⟩
 ·rcases ae with ⟨rfl,ae⟩ | ⟨rfl,ae⟩
  ·obtain ⟨aJ,aN⟩:=Ao h;exact ⟨_,by simp only [iH,ab,ae,sc];rw [if_pos (by omega)],show K (I.view (.agg _)) from aN⟩
  ·exact ⟨_,by simp only [iH,ab,ae,sc];rw [if_pos h.1],show K (I.view (.agg _)) from h.2⟩
end
def oH (v:I) (K:I→Prop):Prop:=match v with
 | .av c n (.uniq z)=>K (.av c n (.own z))
 | v=>K v
theorem yc (v:I) (K:I→Prop):oH v K=K v.settle:=by
 cases v with
 | av c n k=>cases k <;> rfl
 | _=>rfl
def ks (v:I) (ng:I→Prop) (nh:List I→Prop):Prop:=match v with
 | .agg vc=>nh vc
 | .a0=>False
 | .tuple _=>False
 | .raw _ _ _=>False
 | .c0 _ _ _ _ _=>False
 | v=>ng v
theorem lR {v:I} {ng:I→Prop} {nh:List I→Prop} (h:ks v ng nh):(v.cells=some [v]∧ng v)∨∃ vc,v.cells=some vc∧v=.agg vc∧nh vc:=by
 cases v <;> first | exact .inl ⟨rfl,h⟩ | exact h.elim | exact .inr ⟨_,rfl,rfl,h⟩
def f':List (Nat×Nat)→List I→List I→(List I→Prop)→Prop
 | [],[],cs,K=>K cs
 | (off,size)::bp,v::vs,cs,K=>ks v (fun v=>match Nat.beq size 1 with | true=>jq cs off v fun cs=>f' bp vs cs K | false=>False) (fun vc=>match Nat.beq vc.length size,Nat.blt 0 size with | true,true=>lx cs off vc fun cs=>f' bp vs cs K | _,_=>False)
 | _,_,_,_=>False
theorem iL {place:Nat→Option (Nat×Nat)}:∀ {ix:List Nat} {bp:List (Nat×Nat)} {vs cs:List I} {K:List I→Prop},f' bp vs cs K→ix.map place=bp.map some →
  ∃ c7,fz place cs (ix.zip vs)=some c7∧K c7
 | [],[],[],cs,K,h,_=>⟨cs,rfl,h⟩
 | i::ix,(off,size)::bp,v::vs,cs,K,h,aB=>by
   simp only [sI,List.cons.injEq] at aB;obtain ⟨fK,jW⟩:=aB;simp only [f'] at h;simp only [vz,fz,fK];rcases lR h with ⟨ab,h⟩ | ⟨vc,ab,_,h⟩
   ·split at h
    ·rename_i ae;have ae:=sR ae;obtain ⟨aF,h⟩:=lv h;obtain ⟨c7,q1,aW⟩:=iL h jW;subst ae;exact ⟨c7,by simp only [ab];rw [if_pos ⟨rfl,by omega⟩];exact q1,aW⟩
    ·exact h.elim
   ·split at h
    ·rename_i ae ba;have ae:=sR ae;(have ba:0<size:=by simpa [sV] using ba);obtain ⟨aF,h⟩:=na h;obtain ⟨c7,q1,aW⟩:=iL h jW;have bO:off+size≤cs.length:=by
      rcases aF with aF | aF
      ·omega
      ·rw [aF] at ae;simp only [tW] at ae;omega
     refine ⟨c7,?_,aW⟩;simp only [ab];rw [if_pos ⟨ae,bO⟩];exact q1
    ·exact h.elim
 | [],_::_,_,_,_,_,aB=>by simp at aB
 | _::_,[],_,_,_,_,aB=>by simp at aB
 | [],[],_::_,_,_,h,_=>h.elim
 | _::_,_::_,[],_,_,h,_=>h.elim
def Bb:BinOp→Bool
 | .shl=>true
 | .shr=>true
 | _=>false
theorem FF {op:BinOp} {k k':IntKind} (h:(decide (k=k') || Bb op)=true):k=k'∨op=.shl∨op=.shr:=by
 rw [tC] at h;rcases h with h | h
 ·exact .inl (of_decide_eq_true h)
 ·cases op <;> first | exact .inr (.inl rfl) | exact .inr (.inr rfl) | cases h
def o1 (op:BinOp) (k:IntKind) (a b:Int) (K:I→Prop):Prop:=match op with
 | .add=>K (.int k (k.wrap (a+b)))
 | .sub=>K (.int k (k.wrap (a-b)))
 | .mul=>K (.int k (k.wrap (a*b)))
 | .quo=>b≠0∧K (.int k (k.wrap (a.tdiv b)))
 | .rem=>b≠0∧K (.int k (a.tmod b))
 | .eql=>K (.bool (decide (a=b)))
 | .neq=>K (.bool (decide (a≠b)))
 | .lss=>K (.bool (decide (a<b)))
 | .leq=>K (.bool (decide (a≤b)))
 | .gtr=>K (.bool (decide (b<a)))
 | .geq=>K (.bool (decide (b≤a)))
 | .and=>K (.int k (k.wrap (BitVec.ofInt k.bits a &&& BitVec.ofInt k.bits b).toNat))
 | .or=>K (.int k (k.wrap (BitVec.ofInt k.bits a ||| BitVec.ofInt k.bits b).toNat))
 | .xor=>K (.int k (k.wrap (BitVec.ofInt k.bits a ^^^ BitVec.ofInt k.bits b).toNat))
 | .shl=>0≤b∧K (.int k (k.wrap (a*2 ^ (Nat.min b.toNat k.bits))))
 | .shr=>0≤b∧K (.int k (a.fdiv (2 ^ (Nat.min b.toNat k.bits))))
 | _=>False
section
variable {P:Program}
theorem BQ (op:BinOp) (t:TypeId) (k k':IntKind) (a b:Int):fk P op t (.int k a) (.int k' b)=match op with
  | .shl=>hD .shl k a b
  | .shr=>hD .shr k a b
  | op=>if k=k' then jy op k a b else none:=by cases op <;> rfl
theorem B6 {op:BinOp} {t:TypeId} {k k':IntKind} {a b:Int} {K:I→Prop} (al:k=k'∨op=.shl∨op=.shr) (h:o1 op k a b K):∃ v,fk P op t (.int k a) (.int k' b)=some v∧K v:=by
 rw [BQ];cases op <;> simp only [o1] at h <;> try exact h.elim
 case shl=>exact ⟨_,by simp only [hD];rw [if_neg (by omega)],h.2⟩
 case shr=>exact ⟨_,by simp only [hD];rw [if_neg (by omega)],h.2⟩
 all_goals (obtain rfl:k=k':=by rcases al with al | al | al <;> first | exact al | cases al)
 all_goals simp only [if_true,jy]
 case quo=>exact ⟨_,by rw [if_neg h.1],h.2⟩
 case rem=>exact ⟨_,by rw [if_neg h.1],h.2⟩
 case neq =>
  have e:(a != b)=decide (a≠b):=by by_cases jI:a=b <;> simp [jI]
  exact ⟨_,rfl,by rw [e];exact h⟩
 case eql=>exact ⟨_,rfl,h⟩
 all_goals exact ⟨_,rfl,h⟩
end
end
end Go.Proofs.Ytkoioidpbbbaiaa.Ab


namespace Go.Proofs.Ytkoioidpbbbaiaa.Ab
open Go
noncomputable section
def x7 (v:I) (H:List ar) (K:I→List ar→Prop):Prop:=match v with
 | .av cells len (.uniq z)=>(len≠0∧K (.ref H.length 0 len none z) (H++[.cells cells]))∨(len=0∧K (.av cells len (.uniq z)) H)
 | .av [] 0 .full=>K (.av [] 0 .full) H
 | .ref id off len cap sz=>K (.ref id off len cap sz) H
 | _=>False
def x0 (a:g2) (v:I) (H:List ar) (K:I→List ar→Prop):Prop:=match v with
 | .ptr id off=>eG H id fun o=>match o with | .cells l=>mK a l off fun v=>K v H | .grow l _ _=>mK a l off fun v=>K v H | _=>False
 | .bR cells=>mK a cells 0 fun v=>K v H
 | _=>False
def x5 (lo:Nat) (v:I) (H:List ar) (K:I→List ar→Prop):Prop:=match v with
 | .ptr id off=>match Nat.ble lo id with
   | true=>eG H id fun o=>match o with
     | .cells l=>(eG l off fun v=>match v with | .av c n (.own z)=>K (.av c n (.own z)) (H.set id (.cells (l.set off (.av c n .shared)))) | .av c n .full=>K (.av c n .full) H | .raw c n z=>K (.av c n (.uniq z)) (H.set id (.cells (l.set off .a0))) | _=>False)
     | .grow l g cU=>(eG l off fun v=>match v with | .av c n (.own z)=>K (.av c n (.own z)) (H.set id (.grow (l.set off (.av c n .shared)) g cU)) | .av c n .full=>K (.av c n .full) H | _=>False)
     | _=>False
   | false=>False
 | _=>False
def x6 (lo:Nat) (v:I) (H:List ar) (K:I→List ar→Prop):Prop:=match v with
 | .ptr id off=>match Nat.ble lo id with
   | true=>eG H id fun o=>match o with | .cells l=>(eG l off fun v=>match v with | .raw c n z=>n≠0∧K (.ref H.length 0 n none z) (H.set id (.cells (l.set off (.ref H.length 0 n none z)))++[.cells c]) | .av c n .full=>K (.av c n .full) H | _=>False) | _=>False
   | false=>False
 | _=>False
def x4 (lo:Nat) (p v:I) (H:List ar) (K:I→List ar→Prop):Prop:=match p with
 | .ptr id off=>match Nat.ble lo id with
   | true=>eG H id fun o=>match o with
     | .cells l=>(match v with | .av c n (.uniq z)=>c.all gY=true∧n≠0∧jq l off (.raw c n z) fun l'=>K .a0 (H.set id (.cells l')) | _=>False)
     | _=>False
   | false=>False
 | _=>False
def x3 (lo s:Nat) (p v:I) (H:List ar) (K:I→List ar→Prop):Prop:=match p with
 | .ptr id off=>match Nat.ble lo id with
   | true=>eG H id fun o=>match o with
     | .cells l=>(match v with | .c0 as c n z bs=>(match Nat.beq (as.length+1+bs.length) s with | true=>lx l off (as++.av c n (.own z)::bs) fun l'=>K .a0 (H.set id (.cells l')) | false=>False) | _=>False)
     | _=>False
   | false=>False
 | _=>False
def xZ (k:Nat) (z:List I) (bp:List (Nat×Nat)) (vs:List I) (H:List ar) (K:I→List ar→Prop):Prop:=match vs.drop k,bp.drop k with
 | .av c n (.own s)::post,(off,1)::dL=>match (vs.take k).all I.plain && post.all I.plain && dL.all fun p=>Nat.blt off p.1 || Nat.ble (p.1+p.2) off with
   | true=>f' (bp.take k) (vs.take k) z fun eO=>match Nat.blt off eO.length with
     | true=>f' dL post (eO.set off .a0) fun ea=>K (.c0 (ea.take off) c n s (ea.drop (off+1))) H
     | false=>False
   | false=>False
 | .av c n (.uniq s)::post,(off,1)::dL=>match (vs.take k).all I.plain && post.all I.plain && dL.all fun p=>Nat.blt off p.1 || Nat.ble (p.1+p.2) off with
   | true=>f' (bp.take k) (vs.take k) z fun eO=>match Nat.blt off eO.length with
     | true=>f' dL post (eO.set off .a0) fun ea=>K (.c0 (ea.take off) c n s (ea.drop (off+1))) H
     | false=>False
   | false=>False
 | _,_=>False
def x2 (lo s:Nat) (p v:I) (H:List ar) (K:I→List ar→Prop):Prop:=match p with
 | .ptr id off=>match Nat.ble lo id with
   | true=>eG H id fun o=>match o with
     | .cells l=>ks v (fun v=>match Nat.beq s 1 with | true=>oH v fun v=>jq l off v fun l'=>K .a0 (H.set id (.cells l')) | false=>False) (fun vc=>match Nat.beq vc.length s,Nat.blt 0 s with | true,true=>lx l off (vc.map I.settle) fun l'=>K .a0 (H.set id (.cells l')) | _,_=>False)
     | .grow l g z=>ks v (fun v=>match Nat.beq s 1 with | true=>oH v fun v=>jq l off v fun l'=>K .a0 (H.set id (.grow l' g z)) | false=>False) (fun vc=>match Nat.beq vc.length s,Nat.blt 0 s with | true,true=>lx l off (vc.map I.settle) fun l'=>K .a0 (H.set id (.grow l' g z)) | _,_=>False)
     | _=>False
   | false=>False
 | _=>False
def xX (v:I) (H:List ar) (K:I→List ar→Prop):Prop :=
 ks v (fun v=>oH v fun v=>K (.ptr H.length 0) (H++[.cells [v]])) (fun vc=>K (.ptr H.length 0) (H++[.cells (vc.map I.settle)]))
def xY (v:I) (H:List ar) (K:I→List ar→Prop):Prop :=
 ks v (fun v=>v.plain=true∧K (.bR [v]) H) (fun vc=>vc.all I.plain=true∧K (.bR vc) H)
def xD:List I→Int→(Int→Prop)→Prop
 | [],a,K=>K a
 | .int _ b::r,a,K=>xD r (min a b) K
 | _::_,_,_=>False
def xC:List I→Int→(Int→Prop)→Prop
 | [],a,K=>K a
 | .int _ b::r,a,K=>xC r (max a b) K
 | _::_,_,_=>False
def xW (lo s bytes:Nat) (x y:I) (H:List ar) (K:I→List ar→Prop):Prop:=match y with
 | .av new m _=>(new.length=m*s∧m*bytes≤140737488355328)∧match x with
   | .av cells n .full=>(m≠0∧(n+m)*bytes≤140737488355328∧cells.length=n*s)∧K (.cj H.length (H.length+1) (n+m) s) (H++[.grow (cells++new) (H.length+1) s,.dead])
   | .av cells n (.uniq z)=>(z=s∧m≠0∧(n+m)*bytes≤140737488355328)∧K (.cj H.length (H.length+1) (n+m) z) (H++[.grow (cells++new) (H.length+1) z,.dead])
   | .cj id gid n z=>match Nat.ble lo id with
     | true=>eG H id fun o=>match o with
       | .grow l g cU=>((g=gid∧cU=z∧z=s∧l.length=n*z∧0<m∧(n+m)*bytes≤140737488355328)∧K (.cj H.length (H.length+1) (n+m) z) (H.set id .dead++[.grow (l++new) (H.length+1) z,.dead])) ∨
         ((g=gid∧cU=z∧z=s∧n*z<l.length∧0<m∧(n+m)*bytes≤140737488355328)∧K (.cj H.length (H.length+1) (n+m) z) (H.set id .dead++[.grow (l.take (n*z)++new) (H.length+1) z,.dead]))
       | _=>False
     | false=>False
   | _=>False
 | _=>False
def AM (z:List I) (s bytes:Nat) (a b:I) (H:List ar) (K:I→List ar→Prop):Prop:=match a,b with
 | .int _ n,.int _ c=>0≤n∧n≤c∧c.toNat*bytes≤140737488355328∧K (.ref H.length 0 n.toNat (some c.toNat) s) (H++[.cells (e7 c.toNat z)])
 | _,_=>False
def AL (z:List I) (s bytes:Nat) (a b:I) (H:List ar) (K:I→List ar→Prop):Prop:=match a,b with
 | .int _ n,.int _ c=>n=c∧0≤n∧c.toNat*bytes≤140737488355328∧K (.av (e7 c.toNat z) n.toNat (.uniq s)) H
 | _,_=>False
def AH (v:I) (H:List ar) (K:I→List ar→Prop):Prop:=match v with
 | .av _ n _=>K (.int .i64 n) H
 | .ref _ _ n _ _=>K (.int .i64 n) H
 | _=>False
def oC (s bytes:Nat) (x:I) (new:List I) (m:Nat) (H:List ar) (K:I→List ar→Prop):Prop:=new.length=m*s∧m*bytes≤140737488355328∧match x with
    | .av cells n .shared=>m=0∧K (.av cells n .shared) H
    | .av cells n .full=>m≠0∧(n+m)*bytes≤140737488355328∧cells.length=n*s∧K (.av (cells++new) (n+m) (.uniq s)) H
    | .av cells n (.own z)=>z=s∧(n+m)*bytes≤140737488355328∧K (.av (cells++new) (n+m) (.own z)) H
    | .av cells n (.uniq z)=>z=s∧(n+m)*bytes≤140737488355328∧K (.av (cells++new) (n+m) (.uniq z)) H
    | _=>False
def oB (s bytes:Nat) (x y:I) (H:List ar) (K:I→List ar→Prop):Prop:=match y with
 | .av new m _=>oC s bytes x new m H K
 | .ref id off m _ z=>eG H id fun o=>match o with
   | .cells l=>off+m*z≤l.length∧oC s bytes x (((l.drop off).take (m*z)).map I.view) m H K
   | _=>False
 | _=>False
def x1 (s:Nat) (l h m:Bool) (x:I) (vs:List I) (H:List ar) (K:I→List ar→Prop):Prop:=match x with
 | .av cells n c=>match l,h,m,vs with
   | false,false,false,[]=>match c with
     | .uniq z=>K (.av (cells.take (n*z)) n (.uniq z)) H
     | .shared=>K (.av (cells.take (n*s)) n .shared) H
     | _=>False
   | true,false,false,[.int _ i]=>match c with
     | .own z=>(s=z∧0≤i∧i≤n)∧K (.av (cells.drop (i.toNat*z)) (n-i.toNat) (.own z)) H
     | .shared | .uniq _=>(0≤i∧i≤n)∧K (.av ((cells.drop (i.toNat*s)).take ((n-i.toNat)*s)) (n-i.toNat) .shared) H
     | _=>False
   | false,true,false,[.int _ j]=>match c with
     | .uniq z=>(0≤j∧j≤n)∧K (.av (cells.take (j.toNat*z)) j.toNat (.uniq z)) H
     | .shared | .own _=>(0≤j∧j≤n)∧K (.av (cells.take (j.toNat*s)) j.toNat .shared) H
     | _=>False
   | true,true,false,[.int _ i,.int _ j]=>match c with
     | .shared | .own _ | .uniq _=>(0≤i∧i≤j∧j≤n)∧K (.av ((cells.drop (i.toNat*s)).take ((j.toNat-i.toNat)*s)) (j.toNat-i.toNat) .shared) H
     | _=>False
   | false,true,true,[.int _ j,.int _ k]=>(j=k∧0≤j∧j≤n)∧K (.av (cells.take (j.toNat*s)) j.toNat .full) H
   | true,true,true,[.int _ i,.int _ j,.int _ k]=>(j=k∧0≤i∧i≤j∧j≤n)∧K (.av ((cells.drop (i.toNat*s)).take ((j.toNat-i.toNat)*s)) (j.toNat-i.toNat) .full) H
   | _,_,_,_=>False
 | .ref id off n cap sz=>match l,h,m,vs with
   | true,false,false,[.int _ i]=>sz=s∧(0≤i∧i≤n)∧(i<n→K (.ref id (off+i.toNat*s) (n-i.toNat) (cap.map (·-i.toNat)) sz) H)∧(i=n→K (.av [] 0 .shared) H)
   | false,true,false,[.int _ j]=>sz=s∧(0≤j∧j≤n∧0<n)∧K (.ref id off j.toNat cap sz) H
   | _,_,_,_=>False
 | .cj id gid n z=>match l,h,m,vs with
   | false,true,false,[.int _ j]=>(0≤j∧j≤n)∧K (.cj id gid j.toNat z) H
   | _,_,_,_=>False
 | _=>False
def AD (off:Nat) (v:I) (H:List ar) (K:I→List ar→Prop):Prop:=match v with
 | .ptr id o=>K (.ptr id (o+off)) H
 | .bR cells=>K (.bR (cells.drop off)) H
 | _=>False
def AE (s:Nat) (x i:I) (H:List ar) (K:I→List ar→Prop):Prop:=match i with
 | .int _ n=>match x with
   | .av cells len _=>(0≤n∧n<len)∧K (.bR (cells.drop (n.toNat*s))) H
   | .ref id off len _ _=>(0≤n∧n<len)∧K (.ptr id (off+n.toNat*s)) H
   | _=>False
 | _=>False
def AF (len s:Nat) (x i:I) (H:List ar) (K:I→List ar→Prop):Prop:=match i with
 | .int _ n=>match x with
   | .ptr id off=>(0≤n∧n<len)∧K (.ptr id (off+n.toNat*s)) H
   | .bR cells=>(0≤n∧n<len)∧K (.bR (cells.drop (n.toNat*s))) H
   | _=>False
 | _=>False
def kX (fi:hY) (k:I):Prop:=match fi,k with
 | .int q,.int fT _=>q=fT
 | .str n,.agg cs=>cs.length=n
 | _,_=>False
def AK (lo:Nat) (fi:hY) (m k v:I) (H:List ar) (K:I→List ar→Prop):Prop:=match m with
 | .map id=>match Nat.ble lo id with
   | true=>kX fi k∧∃ es clock,H[id]?=some (.map es clock)∧∃ r,fE k es 0=some r∧(match r with
     | some i=>K .a0 (H.set id (.map (es.modify i fun e=>(e.1,k,v)) clock))
     | none=>K .a0 (H.set id (.map (es++[(clock,k,v)]) (clock+1))))
   | false=>False
 | _=>False
def AJ (fi:hY) (ok:Bool) (zero:Option I) (m k:I) (H:List ar) (K:I→List ar→Prop):Prop:=match m with
 | .map id=>kX fi k∧∃ es clock,H[id]?=some (.map es clock)∧∃ r,fE k es 0=some r∧(match r with
   | some i=>∃ e,es[i]?=some e∧(match ok with | true=>K (.tuple [e.2.2,.bool true]) H | false=>K e.2.2 H)
   | none=>∃ z,zero=some z∧(match ok with | true=>K (.tuple [z,.bool false]) H | false=>K z H))
 | _=>False
def AI (lo:Nat) (fi:hY) (m k:I) (H:List ar) (K:I→List ar→Prop):Prop:=match m with
 | .map id=>match Nat.ble lo id with
   | true=>kX fi k∧∃ es clock,H[id]?=some (.map es clock)∧∃ r,fE k es 0=some r∧(match r with
     | some i=>K (.tuple []) (H.set id (.map (es.eraseIdx i) clock))
     | none=>K (.tuple []) H)
   | false=>False
 | _=>False
def AN (m:I) (H:List ar) (K:I→List ar→Prop):Prop:=match m with
 | .map id=>∃ es clock,H[id]?=some (.map es clock)∧K (.ptr H.length 0) (H++[.iter id clock [] clock])
 | _=>False
def AB (p:I) (H:List ar) (K:I→List ar→Prop):Prop:=match p with
 | .ptr r 0=>∃ m since seen clock gn es e,H[r]?=some (.iter m since seen clock)∧seen.getLast?=some gn∧H[m]?=some (.map es clock)∧es.find? (fun e=>e.1 == gn)=some e∧K (.tuple [e.2.1,e.2.2]) H
 | _=>False
def AG (m:I) (H:List ar) (K:I→List ar→Prop):Prop:=match m with
 | .map id=>∃ es clock,H[id]?=some (.map es clock)∧K (.int .i64 es.length) H
 | _=>False
def bN (P:Program) (lo:Nat) (k:jv) (vs:List I) (H:List ar) (K:I→List ar→Prop):Prop:=match k with
 | .mR=>match vs with | [v]=>K v H | _=>False
 | .nil z=>match vs with | [_]=>K (.av [] 0 (.uniq z)) H | _=>False
 | .Bt=>match vs with | [v]=>x7 v H K | _=>False
 | .zH a=>match vs with | [v]=>x0 a v H K | _=>False
 | .zI a=>match vs with | [.bR cells]=>mK a cells 0 fun v=>K v H | _=>False
 | .take=>match vs with | [v]=>x5 lo v H K | _=>False
 | .Bs=>match vs with | [v]=>x6 lo v H K | _=>False
 | .Bn=>match vs with | [p,v]=>x4 lo p v H K | _=>False
 | .Bm s=>match vs with | [p,v]=>x3 lo s p v H K | _=>False
 | .st s=>match vs with | [p,v]=>x2 lo s p v H K | _=>False
 | .box=>match vs with | [v]=>xX v H K | _=>False
 | .yB=>match vs with | [v]=>xY v H K | _=>False
 | .alloc z=>K (.ptr H.length 0) (H++[.cells z])
 | .z4 z s bytes=>match vs with | [a,b]=>AM z s bytes a b H K | _=>False
 | .z3 z s bytes=>match vs with | [a,b]=>AL z s bytes a b H K | _=>False
 | .zM=>match vs with | [v]=>AH v H K | _=>False
 | .zK n=>match vs with | [.av _ _ _] | [.ref _ _ _ _ _] | [.map _]=>False | [_]=>K (.int .i64 n) H | _=>False
 | .min=>match vs with | .int k a::r=>xD r a fun n=>K (.int k n) H | _=>False
 | .max=>match vs with | .int k a::r=>xC r a fun n=>K (.int k n) H | _=>False
 | .app s bytes=>match vs with | [x,y]=>oB s bytes x y H K | _=>False
 | .yv s bytes=>match vs with | [x,y]=>xW lo s bytes x y H K | _=>False
 | .yw s bytes=>match vs with
   | [x,y]=>oB s bytes x y H fun v H'=>match v with
     | .av cells n (.uniq z)=>n≠0∧K (.ref H.length 0 n none z) (H++[.cells cells])
     | _=>False
   | _=>False
 | .call _=>False
 | .pick=>match vs with | [.bool c,a,b]=>(match c with | true=>K a H | false=>K b H) | _=>False
 | .build z bp=>f' bp vs z fun cs=>K (.agg cs) H
 | .yD k z bp=>xZ k z bp vs H K
 | .yE len s z ix=>f' (ix.map fun i=>(i*s,s)) vs (e7 len z) fun cs=>K (.av cs len (.uniq s)) H
 | .yC len s z ix=>f' (ix.map fun i=>(i*s,s)) vs (e7 len z) fun cs=>K (.av cs len .full) H
 | .z7=>match vs with | [.ptr id off]=>K (.ptr id off) H | [.bR cells]=>K (.bR cells) H | _=>False
 | .bin op=>match vs with | [.int k a,.int k' b]=>(match decide (k=k') || Bb op with | true=>o1 op k a b fun v=>K v H | false=>False) | _=>False
 | .o2 neq=>match vs with | [.bool a,.bool b]=>(match neq with | true=>K (.bool (!(a == b))) H | false=>K (.bool (a == b)) H) | _=>False
 | .un op=>match vs with
   | [.bool b]=>(match op with | .not=>K (.bool !b) H | _=>False)
   | [.int k n]=>(match op with | .neg=>K (.int k (k.wrap (-n))) H | _=>False)
   | _=>False
 | .conv k=>match vs with | [.int _ n]=>K (.int k (k.wrap n)) H | _=>False
 | .z1 f n m=>(match Nat.beq vs.length (n+m) with | true=>K (.func f (vs.take n) (vs.drop n)) H | false=>False)
 | .Bk s l h m=>match vs with | x::vs=>x1 s l h m x vs H K | _=>False
 | .z2=>K (.map H.length) (H++[.map [] 0])
 | .zU fi=>match vs with | [m,k,v]=>AK lo fi m k v H K | _=>False
 | .zT fi ok z=>match vs with | [m,k]=>AJ fi ok z m k H K | _=>False
 | .zS fi=>match vs with | [m,k]=>AI lo fi m k H K | _=>False
 | .AQ=>match vs with | [m]=>AN m H K | _=>False
 | .yK=>match vs with | [m]=>AB m H K | _=>False
 | .zL=>match vs with | [m]=>AG m H K | _=>False
 | .yP off=>match vs with | [v]=>AD off v H K | _=>False
 | .yV off a=>match vs with | [.agg cs]=>Aj a cs off fun v=>K v H | _=>False
 | .kV s=>match vs with | [x,i]=>AE s x i H K | _=>False
 | .zx len s=>match vs with | [x,i]=>AF len s x i H K | _=>False
 | .ext i=>match vs with | [.tuple ws]=>(eG ws i fun v=>kj v fun v=>K v H) | _=>False
 | .other o mode=>∃ v H',(∀ C,a3 P C lo o mode vs H=some (v,H'))∧K v H'
def oy (P:Program) (o:Oper) (mode:Nat) (x:Operand):jv:=match mode with
 | 0=>match iW x,P.underlying o.type with
   | true,some (.slice e)=>(match bE P e with | some z=>.nil z | none=>.other o mode)
   | _,_=>.mR
 | 1=>.Bt
 | _=>.other o mode
def mI (P:Program) (t:TypeId):Option (hY×TypeId):=match j3 P t with
 | some (k,e)=>(match P.underlying k with
   | some (.int q)=>some (.int q,e)
   | some (.struct fs)=>some (.str fs.size,e)
   | _=>none)
 | none=>none
def gW (P:Program) (o:Oper) (mode:Nat):jv:=match o.op with
 | .move x | .assign x=>oy P o mode x
 | .load t _=>match mode with
   | 0=>(match iI P t with | some a=>.zH a | none=>.other o mode)
   | 2=>(match P.underlying t with | some (.slice _)=>.Bs | _=>.other o mode)
   | 3=>(match iI P t with | some a=>.zI a | none=>.other o mode)
   | 1=>match P.underlying t with | some (.slice _)=>.take | _=>.other o mode
   | _=>.other o mode
 | .store t _ _=>match mode,bE P t with | 0,some s=>.st s | 2,some s=>.Bm s | 1,some 1=>.Bn | _,_=>.other o mode
 | .box _ _=>match mode with | 0=>.box | _=>.yB
 | .alloc t=>match mode with
   | 0=>(match zeroCells P t with | some z=>.alloc z | none=>.other o mode)
   | _=>(match zeroCells P t,P.underlying t with
     | some [.av [] 0 .full],some (.slice e)=>(match bE P e with | some s=>.alloc [.av [] 0 (.own s)] | none=>.other o mode)
     | _,_=>.other o mode)
 | .makeSlice t _ _=>match mode,P.underlying t with
   | 0,some (.slice e)=>(match bE P e,zeroCells P e,(P.info? e).map (·.bytes) with
     | some s,some z,some bytes=>(match Nat.beq z.length s && Nat.blt 0 s && Nat.ble 1 bytes with | true=>.z4 z s bytes | false=>.other o mode)
     | _,_,_=>.other o mode)
   | _+1,some (.slice e)=>(match bE P e,zeroCells P e,(P.info? e).map (·.bytes) with
     | some s,some z,some bytes=>(match Nat.beq z.length s && Nat.blt 0 s && Nat.ble 1 bytes with | true=>.z3 z s bytes | false=>.other o mode)
     | _,_,_=>.other o mode)
   | _,_=>.other o mode
 | .call c=>match c.callee with
   | .builtin b=>match b with
     | .len=>(match iX P c.argTypes[0]? with
       | true=>.zM
       | false=>match (c.argTypes[0]?).bind P.underlying with | some (.array n _)=>.zK n | some (.map _ _)=>.zL | _=>.other o mode)
     | .delete=>(match (c.argTypes[0]?).bind (mI P) with | some x=>.zS x.1 | none=>.other o mode)
     | .min=>.min
     | .max=>.max
     | .append=>(match c.argTypes.toList with
       | [t,dj]=>(match Nat.beq t dj,P.underlying t with
         | true,some (.slice e)=>(match bE P e,zeroCells P e,(P.info? e).map (·.bytes) with
           | some s,some z,some bytes=>(match Nat.beq z.length s && Nat.blt 0 s && Nat.ble 1 bytes,mode with | true,0=>.app s bytes | true,2=>.yw s bytes | true,_=>.yv s bytes | false,_=>.other o mode)
           | _,_,_=>.other o mode)
         | _,_=>.other o mode)
       | _=>.other o mode)
     | _=>.other o mode
   | .value _=>.call mode
   | .invoke _ _=>.other o mode
 | .makeMap t r=>match r,P.underlying t with | none,some (.map _ _)=>.z2 | _,_=>.other o mode
 | .mapUpdate t _ _ _=>match mI P t with | some x=>.zU x.1 | none=>.other o mode
 | .lookup t _ _ ok=>match mI P t with | some x=>.zT x.1 ok (oT P x.2) | none=>.other o mode
 | .range t _=>match P.underlying t with | some (.map _ _)=>.AQ | _=>.other o mode
 | .entry _=>.yK
 | .pick _ _ _=>.pick
 | .build t parts=>match zeroCells P t,P.underlying t with
   | some z,some (.struct fs)=>(match fs.toList.all (fun f=>(bE P f.type).isSome),mO (fun i=>(fs[i]?).bind fun f=>(bE P f.type).map fun s=>(f.offset,s)) (parts.toList.map (·.1)) with
     | true,some bp=>(match mode with | 0=>.build z bp | k+1=>.yD k z bp)
     | _,_=>.other o mode)
   | some z,some (.array _ e)=>(match bE P e,mode with | some s,0=>.build z (parts.toList.map fun p=>(p.1*s,s)) | _,_=>.other o mode)
   | _,_=>.other o mode
 | .buildSlice t len parts=>match P.underlying t with
   | some (.slice e)=>(match bE P e,zeroCells P e with
     | some s,some z=>(match Nat.beq z.length s && Nat.blt 0 s && Nat.ble (len*s) 16777216,mode with | true,0=>.yE len s z (parts.toList.map (·.1)) | true,_=>.yC len s z (parts.toList.map (·.1)) | false,_=>.other o mode)
     | _,_=>.other o mode)
   | _=>.other o mode
 | .nilCheck _=>.z7
 | .binOp op t _ y _=>match iW y,P.underlying t with
   | false,some (.int _)=>.bin op
   | false,some .bool=>(match op with | .eql=>.o2 false | .neq=>.o2 true | _=>.other o mode)
   | _,_=>.other o mode
 | .unOp op _ _=>.un op
 | .convert src dst _=>match P.underlying src,P.underlying dst with
   | some _,some (.int k)=>.conv k
   | _,_=>.other o mode
 | .makeFunc fn first captured=>match fn with | .func f=>.z1 f first.size captured.size | _=>.other o mode
 | .slice t _ l h m=>match P.underlying t with
   | some (.slice e)=>(match bE P e with | some s=>.Bk s l.isSome h.isSome m.isSome | none=>.other o mode)
   | _=>.other o mode
 | .fieldAddr t _ f=>match P.underlying t with
   | some (.struct fs)=>(match (fs[f]?).bind fun g=>(bE P g.type).map fun s=>(s,g.offset) with
     | some (s+1,off)=>.yP off
     | _=>.other o mode)
   | _=>.other o mode
 | .field t _ f=>match P.underlying t with
   | some (.struct fs)=>(match (fs[f]?).bind fun g=>(iI P g.type).map fun a=>(a,g.offset) with
     | some (a,off)=>.yV off a
     | _=>.other o mode)
   | _=>.other o mode
 | .indexAddr t _ _=>match P.underlying t with
   | some (.slice e)=>(match bE P e with | some s=>.kV s | none=>.other o mode)
   | some (.array len e)=>(match bE P e with | some s=>.zx len s | none=>.other o mode)
   | _=>.other o mode
 | .extract _ i=>.ext i
 | _=>.other o mode
where
 mO {α β:Type} (f:α→Option β):List α→Option (List β)
  | []=>some []
  | x::xs=>match f x with | some y=>(mO f xs).map (y::·) | none=>none
end
end Go.Proofs.Ytkoioidpbbbaiaa.Ab


namespace Go.Proofs.Ytkoioidpbbbaiaa.Ab
open Go
section
variable {P:Program} {H:List ar}
theorem gl {n bytes:Nat} (ab:n*bytes≤140737488355328) (ae:1≤bytes):fv n bytes=true:=by
 simp only [fv,sn,tH];exact ⟨ab,ae⟩
theorem E7 {lo:Nat} {t:TypeId} {a:g2} (cq:iI P t=some a) {v:I} {K:I→List ar→Prop} (h:x0 a v H K):∃ r H',dC P lo 0 t H [v]=some (r,H')∧K r H':=by
 unfold x0 at h;split at h
 ·obtain ⟨x,ao,h⟩:=e5 h;split at h
  ·obtain ⟨r,ab,ae⟩:=n3 cq h;exact ⟨r,H,by simp [dC,dv,ao,ab],ae⟩
  ·obtain ⟨r,ab,ae⟩:=n3 cq h;exact ⟨r,H,by simp [dC,dv,ao,ab],ae⟩
  ·exact h.elim
 ·obtain ⟨r,ab,ae⟩:=n3 cq h;exact ⟨r,H,by simp [dC,dv,ab],ae⟩
 ·exact h.elim
theorem Fb {lo:Nat} {t e:TypeId} (ax:P.underlying t=some (.slice e)) {v:I} {K:I→List ar→Prop} (h:x5 lo v H K):∃ r H',dC P lo 1 t H [v]=some (r,H')∧K r H':=by
 unfold x5 at h;split at h
 ·split at h
  ·rename_i bC;obtain ⟨x,ao,h⟩:=e5 h;have bC:=tu bC;split at h
   ·obtain ⟨v,ad,h⟩:=e5 h;split at h
    ·refine ⟨_,_,?_,h⟩;simp only [dC,ax,bC,if_true,ao,ad]
    ·refine ⟨_,_,?_,h⟩;simp only [dC,ax,bC,if_true,ao,ad];rfl
    ·refine ⟨_,_,?_,h⟩;simp only [dC,ax,bC,if_true,ao,ad];rfl
    ·exact h.elim
   ·obtain ⟨v,ad,h⟩:=e5 h;split at h
    ·refine ⟨_,_,?_,h⟩;simp only [dC,ax,bC,if_true,ao,ad]
    ·refine ⟨_,_,?_,h⟩;simp only [dC,ax,bC,if_true,ao,ad]
    ·exact h.elim
   ·exact h.elim
  ·exact h.elim
 ·exact h.elim
theorem Fa {lo:Nat} {t e:TypeId} (ax:P.underlying t=some (.slice e)) {v:I} {K:I→List ar→Prop} (h:x6 lo v H K):∃ r H',dC P lo 2 t H [v]=some (r,H')∧K r H':=by
 unfold x6 at h;split at h
 ·split at h
  ·rename_i bC;obtain ⟨x,ao,h⟩:=e5 h;have bC:=tu bC;split at h
   ·obtain ⟨v,ad,h⟩:=e5 h;split at h
    ·exact ⟨_,_,by simp only [dC,ax,bC,if_true,ao,ad];rw [if_neg h.1],h.2⟩
    ·exact ⟨_,_,by simp only [dC,ax,bC,if_true,ao,ad];rfl,h⟩
    ·exact h.elim
   ·exact h.elim
  ·exact h.elim
 ·exact h.elim
theorem E_ {lo:Nat} {t:TypeId} (ah:bE P t=some 1) {p v:I} {K:I→List ar→Prop} (h:x4 lo p v H K):∃ r H',gj P lo 1 t H [p,v]=some (r,H')∧K r H':=by
 unfold x4 at h;split at h
 ·split at h
  ·rename_i bC;have bC:=tu bC;obtain ⟨x,ao,h⟩:=e5 h;split at h
   ·split at h
    ·obtain ⟨ab,ae,h⟩:=h;obtain ⟨aF,h⟩:=lv h;refine ⟨.a0,_,?_,h⟩;simp only [gj,lK,ah];rw [if_pos ⟨ab,ae⟩];simp only [fP,bC,if_true,ao];rw [if_pos aF];rfl
    ·exact h.elim
   ·exact h.elim
  ·exact h.elim
 ·exact h.elim
theorem E9 {lo s:Nat} {t:TypeId} (ah:bE P t=some s) {p v:I} {K:I→List ar→Prop} (h:x3 lo s p v H K):∃ r H',gj P lo 2 t H [p,v]=some (r,H')∧K r H':=by
 unfold x3 at h;split at h
 ·split at h
  ·rename_i bC;have bC:=tu bC;obtain ⟨x,ao,h⟩:=e5 h;split at h
   ·split at h
    ·split at h
     ·rename_i af;have af:=sR af;obtain ⟨aF,h⟩:=na h;refine ⟨.a0,_,?_,h⟩;have ba:∀ {a b:Nat},a+b≤a+b:=fun {a b}=>se _;simp only [List.length_append,sM] at aF;simp only [gj,lJ,ah];rw [if_pos af];simp only [fP,bC,if_true,ao];rw [if_pos (by rcases aF with aF | aF <;> first | omega | simp at aF)];rfl
     ·exact h.elim
    ·exact h.elim
   ·exact h.elim
  ·exact h.elim
 ·exact h.elim
theorem Ac {i:Nat} {c:List I} {n s:Nat} {q:hB} {r:List (Nat×I)} (a_:q=.own s∨q=.uniq s):∀ (l pre:List (Nat×I)),(∀ x∈l,x.2.plain=true)→jc pre (l++(i,.av c n q)::r)=some (pre++l,i,c,n,s,r)
 | [],pre,_=>by rcases a_ with rfl | rfl <;> simp [jc]
 | (j,u)::l,pre,h=>by
   have hu:u.plain=true:=h (j,u) (by simp);have a8:=Ac (i:=i) (c:=c) (n:=n) (r:=r) a_ l (pre++[(j,u)]) fun x aj=>h x (by simp [aj]);rw [sx,List.singleton_append] at a8;rw [List.cons_append,←a8];cases u with
   | av c n k=>cases k <;> first | rfl | simp [I.plain] at hu
   | _=>rfl
theorem E6 {t:TypeId} {fs:Array Field} {z:List I} (bj:zeroCells P t=some z) (hu:P.underlying t=some (.struct fs)) (cY:fs.toList.all (fun f=>(bE P f.type).isSome)=true) {ix:List Nat} {bp:List (Nat×Nat)}
  (kO:ix.map (fun i=>(fs[i]?).bind fun f=>(bE P f.type).map fun s=>(f.offset,s))=bp.map some) {k:Nat} {vs:List I} {K:I→List ar→Prop} (h:xZ k z bp vs H K):∃ r,ko P t (ix.zip vs)=some r∧K r H:=by
 have key:∀ {c:List I} {n s off:Nat} {q:hB} {post:List I} {dL:List (Nat×Nat)},vs.drop k=.av c n q::post→bp.drop k=(off,1)::dL→(q=.own s∨q=.uniq s) →
   ((vs.take k).all I.plain && post.all I.plain && dL.all fun p=>Nat.blt off p.1 || Nat.ble (p.1+p.2) off)=true →
   (f' (bp.take k) (vs.take k) z fun eO=>match Nat.blt off eO.length with
   | true=>f' dL post (eO.set off .a0) fun ea=>K (.c0 (ea.take off) c n s (ea.drop (off+1))) H
   | false=>False)→∃ r,ko P t (ix.zip vs)=some r∧K r H:=by
  intro c n s off q post dL ad aB a_ me h;simp only [sn,sr] at me;obtain ⟨⟨a7,a9⟩,br⟩:=me;have GY:k<vs.length:=by
   have:=congrArg List.length ad;simp at this;omega
  have GX:k<bp.length:=by
   have:=congrArg List.length aB;simp at this;omega
  have GV:ix.length=bp.length:=by have:=congrArg List.length kO;simpa using this
  have iR:k<ix.length:=by omega
  have az:vs=vs.take k++.av c n q::post:=by rw [←ad,vD]
  have Cl:ix=ix.take k++ix[k]::ix.drop (k+1):=by rw [←s9 iR,vD]
  have bT:(ix.take k).map (fun i=>(fs[i]?).bind fun f=>(bE P f.type).map fun s=>(f.offset,s))=(bp.take k).map some:=by rw [tU,kO,tU]
  have b0:(ix.drop k).map (fun i=>(fs[i]?).bind fun f=>(bE P f.type).map fun s=>(f.offset,s))=(bp.drop k).map some:=by rw [tL,kO,tL]
  rw [s9 iR,aB,sI,sI,List.cons.injEq] at b0;obtain ⟨b0,d_⟩:=b0;obtain ⟨eO,f1,h⟩:=iL h bT;split at h
  ·rename_i aR;(have aR:off<eO.length:=by simpa [sV] using aR);obtain ⟨ea,f2,h⟩:=iL h d_;refine ⟨_,?_,h⟩;have Cq:ix.zip vs=(ix.take k).zip (vs.take k)++(ix[k],.av c n q)::(ix.drop (k+1)).zip post:=by
    (conv=>lhs;rw [Cl,az]);rw [List.zip_append (by simp;omega),vz]
   have aC:jc [] (ix.zip vs)=some ((ix.take k).zip (vs.take k),ix[k],c,n,s,(ix.drop (k+1)).zip post):=by
    rw [Cq,Ac a_ _ _ (fun x aj=>a7 x.2 (uW (a:=x.1) (b:=x.2) aj).2),List.nil_append]
   have hJ:(((ix.take k).zip (vs.take k)).all (fun x=>x.2.plain) && ((ix.drop (k+1)).zip post).all (fun x=>x.2.plain) && ((ix.drop (k+1)).zip post).all (fun x=>match (fs[x.1]?).bind fun f=>(bE P f.type).map fun s=>(f.offset,s) with | some (o,s)=>decide (off<o∨o+s≤off) | none=>false))=true:=by
    simp only [sn,sr];refine ⟨⟨fun x aj=>a7 x.2 (uW (a:=x.1) (b:=x.2) aj).2,fun x aj=>a9 x.2 (uW (a:=x.1) (b:=x.2) aj).2⟩,fun x aj=>?_⟩;have hm:=(uW (a:=x.1) (b:=x.2) aj).1;have nM:(fs[x.1]?).bind (fun f=>(bE P f.type).map fun s=>(f.offset,s))∈dL.map some:=by
     rw [←d_];exact List.mem_map_of_mem hm
    obtain ⟨p,aB,e⟩:=sD.1 nM;have:=br p aB;rw [←e];simp only [tC,sV,tH] at this;exact decide_eq_true this
   unfold ko;rw [bj,hu,aC];dsimp only;rw [cY,b0];split
   ·rename_i e1 b9;cases b9;split
    ·rw [f1];simp only [sc];rw [if_pos aR,f2];rfl
    ·rename_i ak;exact absurd (ak.symm.trans hJ) (by simp)
   ·rename_i fp;exact absurd rfl (fp off rfl)
  ·exact h.elim
 unfold xZ at h;split at h
 ·rename_i ad aB;split at h
  ·rename_i ak;exact key ad aB (.inl rfl) ak h
  ·exact h.elim
 ·rename_i ad aB;split at h
  ·rename_i ak;exact key ad aB (.inr rfl) ak h
  ·exact h.elim
 ·exact h.elim
theorem E' {lo s:Nat} {t:TypeId} (ah:bE P t=some s) {p v:I} {K:I→List ar→Prop} (h:x2 lo s p v H K):∃ r H',gj P lo 0 t H [p,v]=some (r,H')∧K r H':=by
 unfold x2 at h;split at h
 ·split at h
  ·rename_i bC;have bC:=tu bC;obtain ⟨x,ao,h⟩:=e5 h;split at h
   ·rcases lR h with ⟨ab,al⟩ | ⟨vc,ab,_,al⟩
    ·split at al
     ·rename_i ae;have ae:=sR ae;rw [yc] at al;obtain ⟨aF,al⟩:=lv al;clear h;subst ae;exact ⟨.a0,_,by simp only [gj,g5,ah,ab,gQ,bC,if_true,ao];rw [if_pos ⟨rfl,by omega⟩];rfl,al⟩
     ·exact al.elim
    ·split at al
     ·rename_i ae ba;have ae:=sR ae;(have ba:0<s:=by simpa [sV] using ba);obtain ⟨aF,al⟩:=na al;(have bO:=aF.resolve_right fun aF=>by simp only [List.map_eq_nil_iff] at aF;rw [aF] at ae;simp only [tW] at ae;omega);simp only [s6,ae] at bO;exact ⟨.a0,_,by simp only [gj,g5,ah,ab,gQ,bC,if_true,ao];rw [if_pos ⟨ae,bO⟩];rfl,al⟩
     ·exact al.elim
   ·rcases lR h with ⟨ab,al⟩ | ⟨vc,ab,_,al⟩
    ·split at al
     ·rename_i ae;have ae:=sR ae;rw [yc] at al;obtain ⟨aF,al⟩:=lv al;clear h;subst ae;exact ⟨.a0,_,by simp only [gj,g5,ah,ab,gQ,bC,if_true,ao];rw [if_pos ⟨rfl,by omega⟩];rfl,al⟩
     ·exact al.elim
    ·split at al
     ·rename_i ae ba;have ae:=sR ae;(have ba:0<s:=by simpa [sV] using ba);obtain ⟨aF,al⟩:=na al;(have bO:=aF.resolve_right fun aF=>by simp only [List.map_eq_nil_iff] at aF;rw [aF] at ae;simp only [tW] at ae;omega);simp only [s6,ae] at bO;exact ⟨.a0,_,by simp only [gj,g5,ah,ab,gQ,bC,if_true,ao];rw [if_pos ⟨ae,bO⟩];rfl,al⟩
     ·exact al.elim
   ·exact h.elim
  ·exact h.elim
 ·exact h.elim
theorem E5 {v:I} {K:I→List ar→Prop} (h:xX v H K):∃ r H',gT 0 H [v]=some (r,H')∧K r H':=by
 unfold xX at h;rcases lR h with ⟨ab,h⟩ | ⟨vc,ab,_,h⟩
 ·rw [yc] at h;exact ⟨_,_,by simp only [gT,ab,sg,sI,List.map_nil],h⟩
 ·exact ⟨_,_,by simp only [gT,ab,sg],h⟩
theorem E4 {mode:Nat} (hm:mode≠0) {v:I} {K:I→List ar→Prop} (h:xY v H K):∃ r H',gT mode H [v]=some (r,H')∧K r H':=by
 unfold xY at h;cases mode with
 | zero=>exact absurd rfl hm
 | succ m =>
 rcases lR h with ⟨ab,ae,h⟩ | ⟨vc,ab,_,ae,h⟩
 ·have aF:[v].all I.plain=true:=by simp [ae]
  exact ⟨_,_,by simp only [gT,ab,aF],h⟩
 ·exact ⟨_,_,by simp only [gT,ab,ae],h⟩
theorem z0:∀ (l:List I) (a:Int) {K:Int→Prop},xD l a K→∃ n,k4 l a=some n∧K n
 | [],a,K,h=>⟨a,rfl,h⟩
 | .int k b::r,a,K,h=>by
   obtain ⟨n,ab,ae⟩:=z0 r _ h;(have e:min a b=if b<a then b else a:=by split <;> omega);rw [e] at ab;exact ⟨n,ab,ae⟩
 | .a0::_,_,_,h | .bool _::_,_,_,h | .eF::_,_,_,h | .ptr _ _::_,_,_,h | .bR _::_,_,_,h | .av _ _ _::_,_,_,h | .ref _ _ _ _ _::_,_,_,h | .func _ _ _::_,_,_,h | .yield _::_,_,_,h | .map _::_,_,_,h
 | .agg _::_,_,_,h | .tuple _::_,_,_,h | .str _::_,_,_,h | .raw _ _ _::_,_,_,h | .cj _ _ _ _::_,_,_,h=>h.elim
theorem zZ:∀ (l:List I) (a:Int) {K:Int→Prop},xC l a K→∃ n,k3 l a=some n∧K n
 | [],a,K,h=>⟨a,rfl,h⟩
 | .int k b::r,a,K,h=>by
   obtain ⟨n,ab,ae⟩:=zZ r _ h;(have e:max a b=if b > a then b else a:=by split <;> omega);rw [e] at ab;exact ⟨n,ab,ae⟩
 | .a0::_,_,_,h | .bool _::_,_,_,h | .eF::_,_,_,h | .ptr _ _::_,_,_,h | .bR _::_,_,_,h | .av _ _ _::_,_,_,h | .ref _ _ _ _ _::_,_,_,h | .func _ _ _::_,_,_,h | .yield _::_,_,_,h | .map _::_,_,_,h
 | .agg _::_,_,_,h | .tuple _::_,_,_,h | .str _::_,_,_,h | .raw _ _ _::_,_,_,h | .cj _ _ _ _::_,_,_,h=>h.elim
theorem Fc {lo:Nat} {t:TypeId} {x:Operand} {v:I} {K:I→List ar→Prop} (h:x7 v H K):∃ r H',eU P lo 1 t x H [v]=some (r,H')∧K r H':=by
 unfold x7 at h;split at h
 ·rcases h with h | h
  ·exact ⟨_,_,by simp only [eU];rw [if_neg h.1],h.2⟩
  ·exact ⟨_,_,by simp only [eU];rw [if_pos h.1],h.2⟩
 ·exact ⟨_,_,rfl,h⟩
 ·exact ⟨_,_,rfl,h⟩
 ·exact h.elim
theorem Az {t e:TypeId} {s bytes:Nat} (ax:P.underlying t=some (.slice e)) (ah:bE P e=some s) {z:List I} (bj:zeroCells P e=some z) (af:(P.info? e).map (·.bytes)=some bytes)
  (er:z.length=s) (aQ:0<s) (ab:1≤bytes) {x y:I} {new:List I} {m:Nat} (eQ:appended H y=some (m,new)) {K:I→List ar→Prop} (h:oC s bytes x new m H K):∃ r H',hN P #[t,t] H [x,y]=some (r,H')∧K r H':=by
 unfold oC at h;obtain ⟨aA,aG,h⟩:=h;have ak:new.length=m*s∧0<s∧z.length=s∧fv m bytes=true:=⟨aA,aQ,er,gl aG ab⟩;have key:∀ {r:I},fa P H t t x y=some r→hN P #[t,t] H [x,y]=some (r,H):=fun h=>by simp [hN,h]
 have beq:Nat.beq t t=true:=uV t;split at h
 ·obtain ⟨bl,h⟩:=h;subst bl;refine ⟨_,_,key ?_,h⟩;simp only [fa,ax,ah,af,bj,beq,eQ];rw [if_pos ak];rfl
 ·obtain ⟨bl,cr,eY,h⟩:=h;refine ⟨_,_,key ?_,h⟩;simp only [fa,ax,ah,af,bj,beq,eQ];rw [if_pos ak];simp only [bl,if_false];rw [if_pos ⟨gl cr ab,eY⟩]
 ·obtain ⟨bl,cr,h⟩:=h;refine ⟨_,_,key ?_,h⟩;simp only [fa,ax,ah,af,bj,beq,eQ];rw [if_pos ak];simp only [bl];rw [if_pos ⟨trivial,gl cr ab⟩]
 ·obtain ⟨bl,cr,h⟩:=h;refine ⟨_,_,key ?_,h⟩;simp only [fa,ax,ah,af,bj,beq,eQ];rw [if_pos ak];simp only [bl];rw [if_pos ⟨trivial,gl cr ab⟩]
 ·exact h.elim
theorem AA {t e:TypeId} {s bytes:Nat} (ax:P.underlying t=some (.slice e)) (ah:bE P e=some s) {z:List I} (bj:zeroCells P e=some z) (af:(P.info? e).map (·.bytes)=some bytes)
  (er:z.length=s) (aQ:0<s) (ab:1≤bytes) {x y:I} {K:I→List ar→Prop} (h:oB s bytes x y H K):∃ r H',hN P #[t,t] H [x,y]=some (r,H')∧K r H':=by
 unfold oB at h;split at h
 ·rename_i new m c;exact Az ax ah bj af er aQ ab (y:=.av new m c) rfl h
 ·rename_i id off m c cU;obtain ⟨o,aq,h⟩:=e5 h;split at h
  ·rename_i l;obtain ⟨bl,h⟩:=h;refine Az ax ah bj af er aQ ab (y:=.ref id off m c cU) ?_ h;simp only [appended,lenOf,rowOf,aq,if_pos bl]
  ·exact h.elim
 ·exact h.elim
theorem Nat.B_ {a b:Nat} (h:b=a):Nat.blt a b=false:=by
 cases af:Nat.blt a b with
 | false=>rfl
 | true=>have:=tu af;omega
theorem E3 {lo:Nat} {t e:TypeId} {s bytes:Nat} (ax:P.underlying t=some (.slice e)) (ah:bE P e=some s) {z:List I} (bj:zeroCells P e=some z) (af:(P.info? e).map (·.bytes)=some bytes)
  (er:z.length=s) (aQ:0<s) (ab:1≤bytes) {x y:I} {K:I→List ar→Prop} (h:xW lo s bytes x y H K):∃ r H',i' P lo #[t,t] H [x,y]=some (r,H')∧K r H':=by
 unfold xW at h;split at h
 ·rename_i new m c;obtain ⟨⟨aA,aG⟩,h⟩:=h;have eQ:appended H (.av new m c)=some (m,new):=rfl;have ak:new.length=m*s∧0<s∧z.length=s∧fv m bytes=true:=⟨aA,aQ,er,gl aG ab⟩;have beq:Nat.beq t t=true:=uV t;split at h
  ·rename_i cells n;obtain ⟨⟨bl,cr,eY⟩,h⟩:=h;refine ⟨_,_,?_,h⟩;have q:fa P H t t (.av cells n .full) (.av new m c)=some (.av (cells++new) (n+m) (.uniq s)):=by
    simp only [fa,ax,ah,af,bj,beq,eQ];rw [if_pos ak];simp only [bl,if_false];rw [if_pos ⟨gl cr ab,eY⟩]
   simp only [i',jl,im,q];rw [if_neg (by omega)]
  ·rename_i cells n cU;obtain ⟨⟨rfl,bl,cr⟩,h⟩:=h;refine ⟨_,_,?_,h⟩;have q:fa P H t t (.av cells n (.uniq cU)) (.av new m c)=some (.av (cells++new) (n+m) (.uniq cU)):=by
    simp only [fa,ax,ah,af,bj,beq,eQ];rw [if_pos ak];rw [if_pos ⟨trivial,gl cr ab⟩]
   simp only [i',jl,im,q];rw [if_neg (by omega)]
  ·rename_i id gid n z;split at h
   ·rename_i bC;have bC:=tu bC;obtain ⟨o,aE,h⟩:=e5 h;split at h
    ·rcases h with ⟨⟨cc,b_,eP,bl,cr,eY⟩,bO⟩ | ⟨⟨cc,b_,eP,bl,cr,eY⟩,bO⟩
     ·subst cc b_ eP;refine ⟨_,_,?_,bO⟩;have iP:=Nat.B_ bl;simp only [i',jl,aE,iP,Bool.false_and];simp only [im,bC,if_true,ax,aE,ah,af,bj,eQ];rw [if_pos ⟨trivial,trivial,trivial,trivial,bl,aA,aQ,cr,er,gl aG ab,gl eY ab⟩]
     ·rename_i l g cU;subst cc b_ eP;refine ⟨_,_,?_,bO⟩;have iP:Nat.blt (n*cU) l.length=true:=tq bl;have gK:Nat.ble lo id=true:=tq bC;have C_:=(sd.1 aE).1;(have pJ:(H.set id (.grow (l.take (n*cU)) g cU))[id]?=some (.grow (l.take (n*cU)) g cU):=by rw [sm C_]);simp only [i',jl,aE,iP,gK,Bool.and_self];simp only [im,bC,if_true,ax,pJ,ah,af,bj];have CJ:appended (H.set id (.grow (l.take (n*cU)) g cU)) (.av new m c)=some (m,new):=rfl;simp only [CJ];rw [if_pos ⟨trivial,trivial,trivial,trivial,by rw [List.length_take];omega,aA,aQ,cr,er,gl aG ab,gl eY ab⟩,List.set_set,s8]
    ·exact h.elim
   ·exact h.elim
  ·exact h.elim
 ·exact h.elim
theorem E8 {t e:TypeId} {s:Nat} (ax:P.underlying t=some (.slice e)) (ah:bE P e=some s) {l h m:Option Operand} {x:I} {vs:List I} {K:I→List ar→Prop}
  (al:x1 s l.isSome h.isSome m.isSome x vs H K):∃ r,eg P t l h m (x::vs)=some r∧K r H:=by
 unfold x1 at al;split at al
 ·rename_i cells n c;split at al
  ·rename_i e1 b9 dx;obtain rfl:=s_.1 e1 |> ta.1;obtain rfl:=s_.1 b9 |> ta.1;obtain rfl:=s_.1 dx |> ta.1;split at al
   ·exact ⟨_,by simp [eg,ax,ah,cK,dr],al⟩
   ·exact ⟨_,by simp [eg,I.view,eX,ax,ah,cK,dr],al⟩
   ·exact al.elim
  ·rename_i k i e1 b9 dx;obtain ⟨l,rfl⟩:=tc.1 e1;obtain rfl:=s_.1 b9 |> ta.1;obtain rfl:=s_.1 dx |> ta.1;split at al
   ·obtain ⟨⟨rfl,af⟩,al⟩:=al;exact ⟨_,by simp [eg,ax,ah,cK,dr,af],al⟩
   ·obtain ⟨af,al⟩:=al;exact ⟨_,by simp [eg,I.view,eX,ax,ah,cK,dr,af],al⟩
   ·obtain ⟨af,al⟩:=al;exact ⟨_,by simp [eg,I.view,eX,ax,ah,cK,dr,af],al⟩
   ·exact al.elim
  ·rename_i k j e1 b9 dx;obtain rfl:=s_.1 e1 |> ta.1;obtain ⟨h,rfl⟩:=tc.1 b9;obtain rfl:=s_.1 dx |> ta.1;split at al
   ·obtain ⟨af,al⟩:=al;exact ⟨_,by simp [eg,ax,ah,cK,dr,af],al⟩
   ·obtain ⟨af,al⟩:=al;exact ⟨_,by simp [eg,I.view,eX,ax,ah,cK,dr,af],al⟩
   ·obtain ⟨af,al⟩:=al;exact ⟨_,by simp [eg,I.view,eX,ax,ah,cK,dr,af],al⟩
   ·exact al.elim
  ·rename_i k i k' j e1 b9 dx;obtain ⟨l,rfl⟩:=tc.1 e1;obtain ⟨h,rfl⟩:=tc.1 b9;obtain rfl:=s_.1 dx |> ta.1;have aw:0≤i∧i≤j∧j≤n→(0≤j∧j≤n)∧i≤max j 0:=fun af=>⟨⟨by omega,af.2.2⟩,by omega⟩;split at al
   ·obtain ⟨af,al⟩:=al;obtain ⟨q1,aW⟩:=aw af;exact ⟨_,by simp [eg,I.view,eX,ax,ah,cK,dr,q1,aW,af.1],al⟩
   ·obtain ⟨af,al⟩:=al;obtain ⟨q1,aW⟩:=aw af;exact ⟨_,by simp [eg,I.view,eX,ax,ah,cK,dr,q1,aW,af.1],al⟩
   ·obtain ⟨af,al⟩:=al;obtain ⟨q1,aW⟩:=aw af;exact ⟨_,by simp [eg,I.view,eX,ax,ah,cK,dr,q1,aW,af.1],al⟩
   ·exact al.elim
  ·rename_i k j k' zB e1 b9 dx;obtain rfl:=s_.1 e1 |> ta.1;obtain ⟨h,rfl⟩:=tc.1 b9;obtain ⟨m,rfl⟩:=tc.1 dx;obtain ⟨⟨rfl,af⟩,al⟩:=al;(have q:j≤max j 0:=by omega);refine ⟨_,?_,al⟩;cases c <;> simp [eg,I.view,eX,ax,ah,cK,dr,af,q]
  ·rename_i k i k' j G8 zB e1 b9 dx;obtain ⟨l,rfl⟩:=tc.1 e1;obtain ⟨h,rfl⟩:=tc.1 b9;obtain ⟨m,rfl⟩:=tc.1 dx;obtain ⟨⟨rfl,af⟩,al⟩:=al;(have q:j≤max j 0:=by omega);(have aW:i≤max j 0:=by omega);(have cC:0≤j:=by omega);refine ⟨_,?_,al⟩;cases c <;> simp [eg,I.view,eX,ax,ah,cK,dr,af,q,aW,cC]
  ·exact al.elim
 ·rename_i id off n cap sz;split at al
  ·rename_i k i e1 b9 dx;obtain ⟨l,rfl⟩:=tc.1 e1;obtain rfl:=s_.1 b9 |> ta.1;obtain rfl:=s_.1 dx |> ta.1;obtain ⟨rfl,af,aJ,aN⟩:=al;by_cases hi:i<n
   ·(have hi':i.toNat<n:=by omega);exact ⟨_,by simp [eg,I.view,eX,ax,ah,cK,dr,af,hi'],aJ hi⟩
   ·(have hi':¬ i.toNat<n:=by omega);exact ⟨_,by simp [eg,I.view,eX,ax,ah,cK,dr,af,hi'],aN (by omega)⟩
  ·rename_i k j e1 b9 dx;obtain rfl:=s_.1 e1 |> ta.1;obtain ⟨h,rfl⟩:=tc.1 b9;obtain rfl:=s_.1 dx |> ta.1;obtain ⟨rfl,⟨bl,cr,eY⟩,al⟩:=al;(have ak:cap.map (·-0)=cap:=by cases cap <;> rfl);exact ⟨_,by simp [eg,I.view,eX,ax,ah,cK,dr,bl,cr,eY],al⟩
  ·exact al.elim
 ·rename_i id gid n z;split at al
  ·rename_i k j e1 b9 dx;obtain rfl:=s_.1 e1 |> ta.1;obtain ⟨h,rfl⟩:=tc.1 b9;obtain rfl:=s_.1 dx |> ta.1;obtain ⟨af,al⟩:=al;exact ⟨_,by simp [eg,ax,ah,cK,dr,af],al⟩
  ·exact al.elim
 ·exact al.elim
end
end Go.Proofs.Ytkoioidpbbbaiaa.Ab


namespace Go.Proofs.Ytkoioidpbbbaiaa.Ab
open Go
section
variable {P:Program} {H:List ar}
theorem xA {α β:Type} {f:α→Option β}:∀ {l:List α} {r:List β},gW.mO f l=some r→l.map f=r.map some
 | [],r,h=>by simp [gW.mO] at h;subst h;rfl
 | x::xs,r,h=>by
   simp only [gW.mO] at h;split at h
   ·rename_i y aY;simp only [sb] at h;obtain ⟨ys,h,rfl⟩:=h;simp [aY,xA h]
   ·simp at h
theorem xt {t:TypeId} {x:hY×TypeId} (h:mI P t=some x):∃ dX,j3 P t=some (dX,x.2)∧∀ k,kX x.1 k→isKey P dX k=true:=by
 unfold mI at h;split at h
 ·rename_i dX e hm;split at h
  ·rename_i q a_;cases h;refine ⟨dX,hm,fun k al=>?_⟩;cases k <;> simp only [kX] at al;subst al;simp [isKey,a_]
  ·rename_i fs ah;cases h;refine ⟨dX,hm,fun k al=>?_⟩;cases k <;> simp only [kX] at al;simp [isKey,ah,al]
  ·cases h
 ·cases h
theorem ox {lo:Nat} {o:Oper} {mode:Nat} {vs:List I} {K:I→List ar→Prop} (h:bN P lo (gW P o mode) vs H K):∃ v H',(∀ C,a3 P C lo o mode vs H=some (v,H'))∧K v H':=by
 have Ha:∀ {x:jv},x=.other o mode→bN P lo x vs H K→∃ v H',(∀ C,a3 P C lo o mode vs H=some (v,H'))∧K v H':=fun e h=>by subst e;exact h
 have pure:∀ {r:I},(∀ C,a3 P C lo o mode vs H=(cy P o vs).map (·,H))→cy P o vs=some r→K r H→∃ v H',(∀ C,a3 P C lo o mode vs H=some (v,H'))∧K v H':=fun ab ae aF=>⟨_,H,fun C=>by rw [ab C,ae];rfl,aF⟩;have mR:∀ x,(o.op=.move x∨o.op=.assign x)→(∀ C,a3 P C lo o mode vs H=eU P lo mode o.type x H vs)→bN P lo (oy P o mode x) vs H K→∃ v H',(∀ C,a3 P C lo o mode vs H=some (v,H'))∧K v H':=fun x _ hm h=>by
  unfold oy at h;split at h
  ·split at h
   ·rename_i e aI hu;split at h
    ·rename_i z bj;simp only [bN] at h;split at h
     ·exact ⟨_,_,fun C=>by rw [hm C];simp only [eU,aI,hu,bj,sg],h⟩
     ·exact h.elim
    ·exact h
   ·rename_i fp;simp only [bN] at h;split at h
    ·refine ⟨_,H,fun C=>?_,h⟩;rw [hm C];simp only [eU]
     try (split
          ·rename_i e ab ae;exact absurd ae (fp e ab)
          ·rfl)
    ·exact h.elim
  ·simp only [bN] at h;split at h
   ·obtain ⟨r,H',ab,ae⟩:=Fc (P:=P) (lo:=lo) (t:=o.type) (x:=x) h;exact ⟨r,H',fun C=>by rw [hm C];exact ab,ae⟩
   ·exact h.elim
  ·exact h
 unfold gW at h;cases aC:o.op <;> simp only [aC] at h <;> (try exact h)
 case move x=>exact mR x (.inl aC) (fun C=>by simp [a3,aC]) h
 case assign x=>exact mR x (.inr aC) (fun C=>by simp [a3,aC]) h
 case load t a =>
  split at h
  ·split at h
   ·rename_i BX cq;simp only [bN] at h;split at h
    ·obtain ⟨r,H',ab,ae⟩:=E7 (P:=P) (lo:=lo) cq h;exact ⟨r,H',fun C=>by simp only [a3,aC];exact ab,ae⟩
    ·exact h.elim
   ·exact h
  ·split at h
   ·rename_i e hu;simp only [bN] at h;split at h
    ·obtain ⟨r,H',ab,ae⟩:=Fa (P:=P) (lo:=lo) hu h;exact ⟨r,H',fun C=>by simp only [a3,aC];exact ab,ae⟩
    ·exact h.elim
   ·exact h
  ·split at h
   ·rename_i BX cq;simp only [bN] at h;split at h
    ·obtain ⟨r,ab,ae⟩:=n3 cq h;exact ⟨r,H,fun C=>by simp only [a3,aC,dC,ab,sg],ae⟩
    ·exact h.elim
   ·exact h
  ·split at h
   ·rename_i e hu;simp only [bN] at h;split at h
    ·obtain ⟨r,H',ab,ae⟩:=Fb (P:=P) (lo:=lo) hu h;exact ⟨r,H',fun C=>by simp only [a3,aC];exact ab,ae⟩
    ·exact h.elim
   ·exact h
  ·exact h
 case store t a x =>
  split at h
  ·rename_i s ah;simp only [bN] at h;split at h
   ·obtain ⟨r,H',ab,ae⟩:=E' (P:=P) (lo:=lo) ah h;exact ⟨r,H',fun C=>by simp only [a3,aC];exact ab,ae⟩
   ·exact h.elim
  ·rename_i s ah;simp only [bN] at h;split at h
   ·obtain ⟨r,H',ab,ae⟩:=E9 (P:=P) (lo:=lo) ah h;exact ⟨r,H',fun C=>by simp only [a3,aC];exact ab,ae⟩
   ·exact h.elim
  ·rename_i ah;simp only [bN] at h;split at h
   ·obtain ⟨r,H',ab,ae⟩:=E_ (P:=P) (lo:=lo) ah h;exact ⟨r,H',fun C=>by simp only [a3,aC];exact ab,ae⟩
   ·exact h.elim
  ·exact h
 case box e x =>
  split at h
  ·simp only [bN] at h;split at h
   ·obtain ⟨r,H',ab,ae⟩:=E5 h;exact ⟨r,H',fun C=>by simp only [a3,aC];exact ab,ae⟩
   ·exact h.elim
  ·rename_i hm;simp only [bN] at h;split at h
   ·obtain ⟨r,H',ab,ae⟩:=E4 (mode:=mode) (fun e=>hm e) h;exact ⟨r,H',fun C=>by simp only [a3,aC];exact ab,ae⟩
   ·exact h.elim
 case alloc t =>
  split at h
  ·split at h
   ·rename_i z bj;exact ⟨_,_,fun C=>by simp only [a3,aC,k7,bj,sg],h⟩
   ·exact h
  ·rename_i hm;split at h
   ·rename_i e bj hu;split at h
    ·rename_i s ah;refine ⟨_,_,fun C=>?_,h⟩;simp only [a3,aC];unfold k7;split
     ·exact absurd rfl hm
     ·simp only [bj,hu,ah,sg]
    ·exact h
   ·exact h
 case makeSlice t a b =>
  split at h
  ·rename_i EA e hu;split at h
   ·rename_i s z bytes ah bj af;split at h
    ·rename_i ak;simp only [sn,tY,sV,tH] at ak;obtain ⟨⟨a7,a9⟩,br⟩:=ak;simp only [bN] at h;split at h
     ·unfold AM at h;split at h
      ·obtain ⟨d1,d2,d3,h⟩:=h;refine ⟨_,_,fun C=>?_,h⟩;simp only [a3,aC,j8];rw [if_pos ⟨d1,d2⟩];simp only [js,hu,ah,bj,af];rw [if_pos ⟨a7,a9,gl d3 br⟩];rfl
      ·exact h.elim
     ·exact h.elim
    ·exact h
   ·exact h
  ·rename_i EA m e hu;split at h
   ·rename_i s z bytes ah bj af;split at h
    ·rename_i ak;simp only [sn,tY,sV,tH] at ak;obtain ⟨⟨a7,a9⟩,br⟩:=ak;simp only [bN] at h;split at h
     ·unfold AL at h;split at h
      ·obtain ⟨d1,d2,d3,h⟩:=h;refine ⟨_,_,fun C=>?_,h⟩;simp only [a3,aC,j8];rw [if_pos ⟨by omega,by omega⟩,if_pos ⟨d1,d2⟩];simp only [js,hu,ah,bj,af];rw [if_pos ⟨a7,a9,gl d3 br⟩];rfl
      ·exact h.elim
     ·exact h.elim
    ·exact h
   ·exact h
  ·exact h
 case call c =>
  split at h
  ·rename_i b af;split at h
   ·split at h
    ·rename_i ah;simp only [bN] at h;split at h
     ·unfold AH at h;split at h
      ·exact ⟨_,_,fun C=>by simp only [a3,aC,af,ef,hs,ah],h⟩
      ·exact ⟨_,_,fun C=>by simp only [a3,aC,af,ef,hs,ah],h⟩
      ·exact h.elim
     ·exact h.elim
    ·split at h
     ·rename_i n e hu;simp only [bN] at h;split at h
      ·exact h.elim
      ·exact h.elim
      ·exact h.elim
      ·rename_i x n1 n2 Ev;refine ⟨_,_,fun C=>?_,h⟩;simp only [a3,aC,af,ef,hs,hu]
       try (cases x <;> first | rfl | exact absurd rfl (n1 _ _ _) | exact absurd rfl (n2 _ _ _ _ _) | exact absurd rfl (Ev _))
      ·exact h.elim
     ·rename_i _ _ hu;simp only [bN] at h;split at h
      ·unfold AG at h;split at h
       ·obtain ⟨es,clock,ab,h⟩:=h;exact ⟨_,_,fun C=>by simp only [a3,aC,af,ef,hs,hu,ab],h⟩
       ·exact h.elim
      ·exact h.elim
     ·exact h
   ·split at h
    ·rename_i x aj;simp only [si] at aj;obtain ⟨t,ax,aj⟩:=aj;obtain ⟨dX,hm,hM⟩:=xt aj;simp only [bN] at h;split at h
     ·unfold AI at h;split at h
      ·split at h
       ·rename_i bC;have bC:=tu bC;obtain ⟨ab,es,clock,ae,r,aF,h⟩:=h;split at h
        ·exact ⟨_,_,fun C=>by simp only [a3,aC,af,ef,hO,ax,sc,hm,hM _ ab,bC,if_true,ae,aF],h⟩
        ·exact ⟨_,_,fun C=>by simp only [a3,aC,af,ef,hO,ax,sc,hm,hM _ ab,bC,if_true,ae,aF],h⟩
       ·exact h.elim
      ·exact h.elim
     ·exact h.elim
    ·exact h
   ·simp only [bN] at h;split at h
    ·obtain ⟨n,ab,ae⟩:=z0 _ _ h;exact ⟨_,_,fun C=>by simp only [a3,aC,af,ef,n9,ab,sg],ae⟩
    ·exact h.elim
   ·simp only [bN] at h;split at h
    ·obtain ⟨n,ab,ae⟩:=zZ _ _ h;exact ⟨_,_,fun C=>by simp only [a3,aC,af,ef,n8,ab,sg],ae⟩
    ·exact h.elim
   ·split at h
    ·rename_i t dj gN;split at h
     ·rename_i e mb hu;split at h
      ·rename_i s z bytes ah bj pr;split at h
       ·rename_i ak;simp only [sn,tY,sV,tH] at ak;obtain ⟨⟨a7,a9⟩,br⟩:=ak;obtain rfl:t=dj:=sR mb;(have ma:c.argTypes=#[t,t]:=by rw [←tJ (xs:=c.argTypes),gN]);simp only [bN] at h;split at h
        ·obtain ⟨r,H',ab,ae⟩:=AA hu ah bj pr a7 a9 br h;exact ⟨r,H',fun C=>by simp only [a3,aC,af,ef,ma];exact ab,ae⟩
        ·exact h.elim
       ·rename_i ak;simp only [sn,tY,sV,tH] at ak;obtain ⟨⟨a7,a9⟩,br⟩:=ak;obtain rfl:t=dj:=sR mb;(have ma:c.argTypes=#[t,t]:=by rw [←tJ (xs:=c.argTypes),gN]);simp only [bN] at h;split at h
        ·obtain ⟨r,H',ab,ae⟩:=AA hu ah bj pr a7 a9 br h;split at ae
         ·exact ⟨_,_,fun C=>by simp only [a3,aC,af,ma,oe,ab];rw [if_neg ae.1],ae.2⟩
         ·exact ae.elim
        ·exact h.elim
       ·rename_i ak hm nM;simp only [sn,tY,sV,tH] at ak;obtain ⟨⟨a7,a9⟩,br⟩:=ak;obtain rfl:t=dj:=sR mb;(have ma:c.argTypes=#[t,t]:=by rw [←tJ (xs:=c.argTypes),gN]);simp only [bN] at h;split at h
        ·obtain ⟨r,H',ab,ae⟩:=E3 (lo:=lo) hu ah bj pr a7 a9 br h;refine ⟨r,H',fun C=>?_,ae⟩;simp only [a3,aC,af,ma]
         first
         | exact ab
         | (split
            ·exact absurd rfl hm
            ·exact absurd rfl nM
            ·exact ab)
         | (split
            ·exact absurd rfl nM
            ·exact absurd rfl hm
            ·exact ab)
        ·exact h.elim
       ·exact h
      ·exact h
     ·exact h
    ·exact h
   ·exact h
  ·exact h.elim
  ·exact h
 case makeMap t r =>
  split at h
  ·rename_i _ _ hu;simp only [bN] at h;exact ⟨_,_,fun C=>by simp only [a3,aC,k_,hu],h⟩
  ·exact h
 case mapUpdate t m k v =>
  split at h
  ·rename_i x aj;obtain ⟨dX,hm,hM⟩:=xt aj;simp only [bN] at h;split at h
   ·unfold AK at h;split at h
    ·split at h
     ·rename_i bC;have bC:=tu bC;obtain ⟨ab,es,clock,ae,r,aF,h⟩:=h;split at h
      ·exact ⟨_,_,fun C=>by simp only [a3,aC,jb,hm,hM _ ab,bC,if_true,ae,aF],h⟩
      ·exact ⟨_,_,fun C=>by simp only [a3,aC,jb,hm,hM _ ab,bC,if_true,ae,aF],h⟩
     ·exact h.elim
    ·exact h.elim
   ·exact h.elim
  ·exact h
 case lookup t m k ok =>
  split at h
  ·rename_i x aj;obtain ⟨dX,hm,hM⟩:=xt aj;simp only [bN] at h;split at h
   ·unfold AJ at h;split at h
    ·obtain ⟨ab,es,clock,ae,r,aF,h⟩:=h;split at h
     ·obtain ⟨e,he,h⟩:=h;cases ok
      ·exact ⟨_,_,fun C=>by simp only [a3,aC,iq,hm,hM _ ab,ae,aF,sc,he,sg];rfl,h⟩
      ·exact ⟨_,_,fun C=>by simp only [a3,aC,iq,hm,hM _ ab,ae,aF,sc,he,sg];rfl,h⟩
     ·obtain ⟨z,bj,h⟩:=h;cases ok
      ·exact ⟨_,_,fun C=>by simp only [a3,aC,iq,hm,hM _ ab,ae,aF,Option.bind_none,bj,sg];rfl,h⟩
      ·exact ⟨_,_,fun C=>by simp only [a3,aC,iq,hm,hM _ ab,ae,aF,Option.bind_none,bj,sg];rfl,h⟩
    ·exact h.elim
   ·exact h.elim
  ·exact h
 case range t m =>
  split at h
  ·rename_i _ _ hu;simp only [bN] at h;split at h
   ·unfold AN at h;split at h
    ·obtain ⟨es,clock,ab,h⟩:=h;exact ⟨_,_,fun C=>by simp only [a3,aC,la,hu,ab],h⟩
    ·exact h.elim
   ·exact h.elim
  ·exact h
 case entry m =>
  simp only [bN] at h;split at h
  ·unfold AB at h;split at h
   ·obtain ⟨m,since,seen,clock,gn,es,e,ab,ae,aF,ba,h⟩:=h;exact ⟨_,_,fun C=>by simp only [a3,aC,k9,ab,ae,aF,ba,if_true],h⟩
   ·exact h.elim
  ·exact h.elim
 case pick c a b =>
  simp only [bN] at h;split at h
  ·rename_i c a b;refine pure (fun C=>by simp only [a3,aC]) (r:=match c with | true=>a | false=>b) (by cases c <;> simp [cy,aC,xF]) ?_;cases c <;> exact h
  ·exact h.elim
 case build t parts =>
  split at h
  ·rename_i z fs bj hu;split at h
   ·rename_i bp cY kO;split at h
    ·simp only [bN] at h;obtain ⟨c7,q1,aW⟩:=iL h (xA kO);refine pure (fun C=>by simp only [a3,aC]) (r:=.agg c7) ?_ aW;simp only [cy,aC,lH,bj,hu,cY,eK,q1,sg]
    ·simp only [bN] at h;obtain ⟨r,q1,aW⟩:=E6 bj hu cY (xA kO) h;exact ⟨r,H,fun C=>by simp only [a3,aC,eK,q1,sg],aW⟩
   ·exact h
  ·rename_i z len e bj hu;split at h
   ·rename_i s ah;(have aq:∀ C,a3 P C lo o 0 vs H=(cy P o vs).map (·,H):=fun C=>by simp only [a3,aC]);simp only [bN] at h;obtain ⟨c7,q1,aW⟩:=iL (place:=fun i=>some (i*s,s)) (ix:=parts.toList.map (·.1)) h (by simp);refine pure aq (r:=.agg c7) ?_ aW;simp only [cy,aC,lH,bj,hu,ah,eK,sc,q1,sg]
   ·exact h
  ·exact h
 case buildSlice t len parts =>
  split at h
  ·rename_i e hu;split at h
   ·rename_i s z ah bj;split at h
    ·rename_i ak;simp only [sn,tY,sV,tH] at ak;obtain ⟨⟨a7,a9⟩,br⟩:=ak;simp only [bN] at h;obtain ⟨c7,q1,aW⟩:=iL (place:=fun i=>some (i*s,s)) (ix:=parts.toList.map (·.1)) h (by simp);refine pure (fun C=>by simp only [a3,aC]) (r:=.av c7 len (.uniq s)) ?_ aW;simp only [cy,aC,iG,hu,ah,bj,eK];rw [if_pos ⟨a9,a7,br⟩,q1];rfl
    ·rename_i ak hm;simp only [sn,tY,sV,tH] at ak;obtain ⟨⟨a7,a9⟩,br⟩:=ak;simp only [bN] at h;obtain ⟨c7,q1,aW⟩:=iL (place:=fun i=>some (i*s,s)) (ix:=parts.toList.map (·.1)) h (by simp);refine ⟨_,_,fun C=>?_,aW⟩;have q:iG P t len (eK parts.toList vs)=some (c7,s):=by
      simp only [iG,hu,ah,bj,eK];rw [if_pos ⟨a9,a7,br⟩,q1];rfl
     simp only [a3,aC]
     first
     | (rw [q];rfl)
     | (split
        ·exact absurd rfl hm
        ·rw [q];rfl)
    ·exact h
   ·exact h
  ·exact h
 case nilCheck x =>
  simp only [bN] at h;split at h
  ·exact pure (fun C=>by simp only [a3,aC]) (by simp only [cy,aC,og]) h
  ·exact pure (fun C=>by simp only [a3,aC]) (by simp only [cy,aC,og]) h
  ·exact h.elim
 case binOp op t x y iC =>
  have aq:∀ C,a3 P C lo o mode vs H=(cy P o vs).map (·,H):=fun C=>by simp only [a3,aC]
  split at h
  ·rename_i aI hu;simp only [bN] at h;split at h
   ·split at h
    ·rename_i al;obtain ⟨v,ab,ae⟩:=B6 (P:=P) (t:=t) (FF al) h;exact pure aq (by simp only [cy,aC,aI,gi,ab]) ae
    ·exact h.elim
   ·exact h.elim
  ·rename_i aI hu;split at h
   ·simp only [bN] at h;split at h
    ·exact pure aq (by simp only [cy,aC,aI,gi,fk,hu]) h
    ·exact h.elim
   ·simp only [bN] at h;split at h
    ·exact pure aq (by simp only [cy,aC,aI,gi,fk,hu]) h
    ·exact h.elim
   ·exact h
  ·exact h
 case unOp op t x =>
  have aq:∀ C,a3 P C lo o mode vs H=(cy P o vs).map (·,H):=fun C=>by simp only [a3,aC]
  simp only [bN] at h;split at h
  ·split at h
   ·exact pure aq (by simp only [cy,aC,e6,kp]) h
   ·exact h.elim
  ·split at h
   ·exact pure aq (by simp only [cy,aC,e6,kp]) h
   ·exact h.elim
  ·exact h.elim
 case convert s d x =>
  have aq:∀ C,a3 P C lo o mode vs H=(cy P o vs).map (·,H):=fun C=>by simp only [a3,aC]
  split at h
  ·rename_i ab ae;simp only [bN] at h;split at h
   ·exact pure aq (by simp only [cy,aC,e6,lI,ab,ae]) h
   ·exact h.elim
  ·exact h
 case makeFunc fn first captured =>
  have aq:∀ C,a3 P C lo o mode vs H=(cy P o vs).map (·,H):=fun C=>by simp only [a3,aC]
  split at h
  ·simp only [bN] at h;split at h
   ·rename_i ab;exact pure aq (by simp only [cy,aC,mW];rw [if_pos (sR ab)]) h
   ·exact h.elim
  ·exact h
 case slice t x l bD m =>
  have aq:∀ C,a3 P C lo o mode vs H=(cy P o vs).map (·,H):=fun C=>by simp only [a3,aC]
  split at h
  ·rename_i e hu;split at h
   ·rename_i s ah;simp only [bN] at h;split at h
    ·obtain ⟨r,ab,ae⟩:=E8 hu ah h;exact pure aq (by simp only [cy,aC,ab]) ae
    ·exact h.elim
   ·exact h
  ·exact h
 case fieldAddr t x f =>
  have aq:∀ C,a3 P C lo o mode vs H=(cy P o vs).map (·,H):=fun C=>by simp only [a3,aC]
  split at h
  ·rename_i fs hu;split at h
   ·rename_i s off aP;simp only [si,sb,Prod.mk.injEq] at aP;obtain ⟨g,aO,aD,ah,rfl,rfl⟩:=aP;simp only [bN] at h;split at h
    ·unfold AD at h;split at h
     ·exact pure aq (by simp [cy,aC,e6,jz,hu,aO,ah]) h
     ·exact pure aq (by simp [cy,aC,e6,jz,hu,aO,ah]) h
     ·exact h.elim
    ·exact h.elim
   ·exact h
  ·exact h
 case field t x f =>
  have aq:∀ C,a3 P C lo o mode vs H=(cy P o vs).map (·,H):=fun C=>by simp only [a3,aC]
  split at h
  ·rename_i fs hu;split at h
   ·rename_i a off aP;simp only [si,sb,Prod.mk.injEq] at aP;obtain ⟨g,aO,aM,cq,rfl,rfl⟩:=aP;simp only [bN] at h;split at h
    ·obtain ⟨v,ab,ae⟩:=EO cq h;exact pure aq (by simp only [cy,aC,e6,nn,hu,aO,sc,ab,sg]) ae
    ·exact h.elim
   ·exact h
  ·exact h
 case indexAddr t x i =>
  have aq:∀ C,a3 P C lo o mode vs H=(cy P o vs).map (·,H):=fun C=>by simp only [a3,aC]
  split at h
  ·rename_i e hu;split at h
   ·rename_i s ah;simp only [bN] at h;split at h
    ·unfold AE at h;split at h
     ·split at h
      ·exact pure aq (by simp [cy,aC,gi,h1,hu,ah,g7,h.1]) h.2
      ·exact pure aq (by simp [cy,aC,gi,h1,hu,ah,g7,h.1]) h.2
      ·exact h.elim
     ·exact h.elim
    ·exact h.elim
   ·exact h
  ·rename_i len e hu;split at h
   ·rename_i s ah;simp only [bN] at h;split at h
    ·unfold AF at h;split at h
     ·split at h
      ·exact pure aq (by simp [cy,aC,gi,h1,hu,ah,g7,h.1]) h.2
      ·exact pure aq (by simp [cy,aC,gi,h1,hu,ah,g7,h.1]) h.2
      ·exact h.elim
     ·exact h.elim
    ·exact h.elim
   ·exact h
  ·exact h
 case extract x i =>
  have aq:∀ C,a3 P C lo o mode vs H=(cy P o vs).map (·,H):=fun C=>by simp only [a3,aC]
  simp only [bN] at h;split at h
  ·obtain ⟨v,ad,h⟩:=e5 h;rw [kk] at h;exact pure aq (by simp only [cy,aC,e6,nm,ad,sg]) h
  ·exact h.elim
end
end Go.Proofs.Ytkoioidpbbbaiaa.Ab


namespace Go.Proofs.Ytkoioidpbbbaiaa.Ab
open Go
noncomputable section
def oU (P:Program) (mode lo:Nat) (bX:e') (args:List I) (H:List ar) (v:I) (H':List ar):Prop:=∃ C,c3 P C∧eN C lo mode bX args H=some (v,H')
def lQ:List I→List I→(List I→Prop)→Prop
 | [],l,K=>K l
 | h::t,l,K=>lQ t l fun r=>K (h::r)
theorem jB:∀ (a b:List I) (K:List I→Prop),lQ a b K=K (a++b)
 | [],b,K=>rfl
 | h::t,b,K=>by rw [lQ,jB t b];rfl
def yJ (v:I) (K:I→Prop):Prop:=match v with
 | .av c n .full=>K (.av c n .shared)
 | .agg cs=>K (.agg (cs.map I.g9))
 | .tuple cs=>K (.tuple (cs.map I.g9))
 | v=>K v
theorem Cj (v:I) (K:I→Prop):yJ v K=K v.ca:=by
 cases v with
 | av c n k=>cases k <;> rfl
 | _=>rfl
def nv:List I→(List I→Prop)→Prop
 | [],K=>K []
 | h::t,K=>yJ h fun aX=>nv t fun iB=>K (aX::iB)
theorem nw:∀ (l:List I) (K:List I→Prop),nv l K=K (l.map I.ca)
 | [],K=>rfl
 | h::t,K=>by rw [nv,Cj,nw t];rfl
def lP (P:Program) (lo:Nat) (draw:Bool) (mode:Nat) (acc:c4) (vs:List I) (H:List ar) (K:c4→I→List ar→Prop):Prop:=match vs with
 | f::args=>match f with
   | .func k first cap=>lQ args cap fun r=>lQ first r fun as=>match mode with
     | 3=>as.all (cn 8)=true∧nv as fun gE=>∃ v,nj P k gE v∧(match draw with
       | true=>(∀ p∈acc,p.1=k→p.2.1=gE→p.2.2=v)∧K ((k,gE,v)::acc) v.ca H
       | false=>K acc v.ca H)
     | 6=>match draw with
       | true=>(as.map (iA H)).all (cn 8)=true∧∃ gE,(as.map (iA H)).map I.ca=gE∧∃ v,fw v=true∧nj P k gE v∧(∀ p∈acc,p.1=k→p.2.1=gE→p.2.2=v)∧K ((k,gE,v)::acc) v.ca H
       | false=>∃ v H',oU P 6 lo (.fn k) as H v H'∧K acc v H'
     | mode=>match draw with
       | true=>False
       | false=>∃ v H',oU P mode lo (.fn k) as H v H'∧K acc v H'
   | .yield l=>match draw with
     | true=>False
     | false=>∃ v H',oU P mode lo (.yield l) args H v H'∧K acc v H'
   | _=>False
 | []=>False
def ln (P:Program) (lo:Nat) (draw:Bool) (k:jv) (acc:c4) (vs:List I) (H:List ar) (K:c4→I→List ar→Prop):Prop:=match k with
 | .call mode=>lP P lo draw mode acc vs H K
 | k=>bN P lo k vs H (K acc)
def nZ (ip:Option Nat) (T:List I) (v:I) (K:List I→Prop):Prop:=match ip with
 | none=>K T
 | some t=>kj v fun v=>jk T t v K
def pf (g:Option (Nat×Bool)) (T:List I) (skip run:Prop):Prop:=match g with
 | none=>run
 | some (t,want)=>hF T t fun v=>match v with
   | .bool b=>(match want with
     | true=>(match b with | true=>run | false=>skip)
     | false=>(match b with | true=>skip | false=>run))
   | .tuple []=>skip
   | _=>False
def hz (P:Program) (lo:Nat) (draw:Bool) (ch:dM) (acc:c4) (T:List I) (H:List ar) (K:c4→List I→List ar→Prop):Prop :=
 pf ch.guard T (m1 T ch.dst (.tuple []) fun bd=>K acc bd H) (gm ch.Gg T fun vs g3=>ln P lo draw ch.k acc vs H fun eM v H'=>mg v fun v=>nZ ch.ip g3 v fun ei=>m1 ei ch.dst v fun dE=>K eM dE H')
def gV (P:Program) (lo:Nat) (draw:Bool):List dM→c4→List I→List ar→(List I→List ar→Prop)→Prop
 | [],_,T,H,K=>K T H
 | ch::r,acc,T,H,K=>hz P lo draw ch acc T H fun eM bd H'=>match draw with
   | true=>gV P lo draw r eM bd H' K
   | false=>gV P lo draw r [] bd H' K
def z_ (it:Nat) (dst:Option Nat) (T:List I) (H:List ar) (K:List I→List ar→Prop):Prop:=hF T it fun v=>match v with
 | .ptr r 0=>∃ m since seen clock es,H[r]?=some (.iter m since seen clock)∧H[m]?=some (.map es clock)∧since≤clock∧(∀ e∈es,e.1<since) ∧
   ((∀ e∈es,e.1∈seen)→m1 T dst (.tuple [.bool false]) fun bd=>K bd H) ∧
   ∀ e∈es,e.1 ∉ seen→m1 T dst (.tuple [.bool true,e.2.1,e.2.2]) fun bd=>K bd (H.set r (.iter m since (seen++[e.1]) clock))
 | _=>False
inductive BK (f:List I→List ar→(cN→List I→List ar→Prop)→Prop) (T:List I) (H:List ar) (Q:cN→List I→List ar→Prop):Prop where
 | intro (hX:Nat→List I→List ar→Prop) (m:Nat) (aQ:hX m T H) (step:∀ m T H,hX m T H→f T H fun e bd H'=>match e with
   | .normal=>∃ ho,ho<m∧hX ho bd H'
   | e=>Q e bd H')
def xr (k:Option (List Bool)) (T:List I) (K:List I→Prop):Prop:=match k with
 | some k=>kW k T K
 | none=>K T
theorem DV (k:Option (List Bool)) (T:List I) (K:List I→Prop):xr k T K=K (match k with | some k=>eW k T | none=>T):=by
 cases k with
 | none=>rfl
 | some k=>exact zD k T K
def oa:List I→(List I→Prop)→Prop
 | [],K=>K []
 | h::t,K=>oa t fun iB=>K (h::iB)
theorem z6:∀ (T:List I) (K:List I→Prop),oa T K=K T
 | [],K=>rfl
 | h::t,K=>by rw [oa,z6 t]
def oD (P:Program) (A:dt) (fn:FuncId) (lo:Nat) (rl:Option Nat) (f:I) (bp:List Nat) (as cp:Code) (T:List I) (H:List ar) (Q:cN→List I→List ar→Prop):Prop:=match f with
 | .func k first cap=>inLoop H rl=true∧∃ r H' st cI fn' bd Ai gE yA iJ,Sem P (.fn k) (first++[.yield H.length]++cap) (H++[.loop .ready none fn (T.map I.view) bp as cp A]) lo r H' ∧
   H'[H.length]?=some (.loop st cI fn' bd Ai gE yA iJ)∧st≠.busy∧(match cI with
    | none=>Q .normal (T.map I.settle) (H'.set H.length .dead)
    | some .ret=>Q .ret (T.map I.settle) (H'.set H.length .dead)
    | some (.exit id)=>Q (.exit id) (T.map I.settle) (H'.set H.length .dead)
    | _=>False)
 | _=>False
def dN (P:Program) (A:dt) (fn:FuncId) (lo:Nat) (rl:Option Nat):gB→List I→List ar→(cN→List I→List ar→Prop)→Prop
 | .skip,T,H,Q=>Q .normal T H
 | .ou draw l,T,H,Q=>gV P lo draw l [] T H (Q .normal)
 | .seq a b,T,H,Q=>dN P A fn lo rl a T H fun e bd H'=>match e with
   | .normal=>dN P A fn lo rl b bd H' Q
   | e=>Q e bd H'
 | .cond c a b,T,H,Q=>match c with
   | .m_ t=>hF T t fun v=>(match v with
     | .bool x=>(match x with | true=>dN P A fn lo rl a T H Q | false=>dN P A fn lo rl b T H Q)
     | .dw=>dN P A fn lo rl a T H Q∧dN P A fn lo rl b T H Q
     | _=>False)
   | .cv v=>(match v with
     | .bool x=>(match x with | true=>dN P A fn lo rl a T H Q | false=>dN P A fn lo rl b T H Q)
     | .dw=>dN P A fn lo rl a T H Q∧dN P A fn lo rl b T H Q
     | _=>False)
   | _=>False
 | .block id c,T,H,Q=>dN P A fn lo rl c T H fun e bd H'=>match e with
   | .exit bB=>(match Nat.beq bB id with | true=>Q .normal bd H' | false=>Q (.exit bB) bd H')
   | e=>Q e bd H'
 | .loop cB c,T,H,Q=>xr cB T fun T=>BK (fun T H Q=>oa T fun T=>dN P A fn lo rl c T H fun e bd H'=>match e with
   | .normal=>xr cB bd fun bd=>Q .normal bd H'
   | e=>Q e bd H') T H Q
 | .exit id,T,H,Q=>Q (.exit id) T H
 | .ret,T,H,Q=>Q .ret T H
 | .AP f bp as cp,T,H,Q=>match f with
   | .m_ t=>hF T t fun v=>oD P A fn lo rl v bp as cp T H Q
   | .cv v=>oD P A fn lo rl v bp as cp T H Q
   | _=>False
 | .z9 it dst l,T,H,Q=>z_ it dst T H fun bd H'=>gV P lo false l [] bd H' (Q .normal)
 | .two l1 l2,T,H,Q=>gV P lo true l1 [] T H (Q .normal)∧gV P lo true l2 [] T H (Q .normal)
def mE (o:Oper) (mode:Nat):Option Nat:=match mode with
 | 0=>none
 | 4=>none
 | _=>match o.op with
   | .move (.tmp t) | .assign (.tmp t)=>some t
   | _=>none
def iv (P:Program) (ops:Array Oper) (o:Oper) (an:bY):Option dM:=match o.guard with
 | none=>some ⟨o.dst,hR (dB o an.mode) an.cz (opsOf o),none,mE o an.mode,gW P o an.mode⟩
 | some (j,want)=>match (ops[j]?).bind (·.dst) with
   | some d=>some ⟨o.dst,hR (dB o an.mode) an.cz (opsOf o),some (d,want),mE o an.mode,gW P o an.mode⟩
   | none=>none
def e4 (P:Program) (ops:Array Oper):List Oper→List bY→Option (List dM)
 | [],_=>some []
 | o::r,as=>match iv P ops o (as.headD {}),e4 P ops r as.tail with
   | some ch,some l=>some (ch::l)
   | _,_=>none
def EB (ch:dM):Bool:=match ch.k with | .call m=>!(Nat.beq m 3 || Nat.beq m 6) | _=>false
def ig (ch:dM):Bool:=match ch.k with | .call _=>true | _=>false
def oJ (l:List dM):Bool:=l.any EB && Nat.ble (l.countP ig) 1
def xv (P:Program) (ops:Array Oper) (draw:Bool) (as:List bY):Option gB:=match draw,ops.toList with
 | false,o::rest=>(match o.op,o.guard with
   | .next (.tmp it) false,none=>(e4 P ops rest as.tail).map (.z9 it o.dst)
   | _,_=>(e4 P ops (o::rest) as).map (.ou false))
 | d,l=>(e4 P ops l as).map fun l'=>.ou (d && !oJ l') l'
def k1 (P:Program) (ops:Array Oper) (an:List bY):List Nat→Option (List dM)
 | []=>some []
 | i::r=>match ops[i]? with
   | some o=>match iv P ops o (an.getD i {}),k1 P ops an r with
     | some ch,some l=>some (ch::l)
     | _,_=>none
   | none=>none
def mS (ch:dM):Bool:=match ch.k with | .call _=>false | _=>true
def xw (P:Program) (ops:Array Oper) (an:List bY) (x:List Nat×Nat×Nat):Option gB :=
 match k1 P ops an (List.range ops.size),k1 P ops an x.1 with
 | some l1,some l2=>match l1.all mS && l2.all mS with
   | true=>some (.two l1 l2)
   | false=>none
 | _,_=>none
def ow (x:Operand):kn:=match x with
 | .tmp t=>.m_ t
 | x=>.cv (az [] x)
def eu (P:Program) (A:dt):Code→Nat→Option gB
 | .skip,_=>some .skip
 | .region id ops draw,_=>match A.ij with
   | []=>match kg A id draw with
     | some p=>xw P ops (A.ops.getD id []) p
     | none=>xv P ops draw (A.ops.getD id [])
   | _=>none
 | .seq a b,a2=>match eu P A a a2,eu P A b a2 with
   | some x,some y=>some (.seq x y)
   | _,_=>none
 | .cond c a b,a2=>match eu P A a a2,eu P A b a2 with
   | some x,some y=>some (.cond (ow c) x y)
   | _,_=>none
 | .block id c,_=>(eu P A c id).map (.block id)
 | .loop c,a2=>(eu P A c a2).map (.loop (l4 a2 A.ih))
 | .exit id,_=>some (.exit id)
 | .ret,_=>some .ret
 | .scope c,a2=>eu P A c a2
 | .label _,_=>some .skip
 | .rangeFunc f bp as cp,_=>some (.AP (ow f) bp.toList as cp)
 | _,_=>none
end
section
variable {P:Program}
theorem zz (o:Oper) (mode:Nat) (T:List I) (v:I) (K:List I→Prop):nZ (mE o mode) T v K=K (inPlace o mode T v):=by
 by_cases aQ:mode=0
 ·subst aQ;rfl
 by_cases ba:mode=4
 ·subst ba;rfl
 have e1:mE o mode=(match o.op with | .move (.tmp t) | .assign (.tmp t)=>some t | _=>none):=by
  unfold mE;split
  ·exact absurd rfl aQ
  ·exact absurd rfl ba
  ·rfl
 have b9:inPlace o mode T v=(match o.op with | .move (.tmp t) | .assign (.tmp t)=>gZ T t v.view | _=>T):=by
  unfold inPlace;split
  ·exact absurd rfl aQ
  ·exact absurd rfl ba
  ·rfl
 rw [e1,b9];cases o.op <;> try rfl
 case move x=>cases x <;> first | rfl | (simp only [nZ,kk,kb])
 case assign x=>cases x <;> first | rfl | (simp only [nZ,kk,kb])
theorem oR {lo:Nat} {draw:Bool} {ops:Array Oper} {o:Oper} {an:bY} {ch:dM} (ai:iv P ops o an=some ch) {acc:c4} {T:List I} {H:List ar} {K:c4→List I→List ar→Prop}
  (h:hz P lo draw ch acc T H K) :
  (ey ops o T=some false∧K acc (put T o.dst (.tuple [])) H) ∨
  (ey ops o T=some true∧ln P lo draw (gW P o an.mode) acc (fj (dB o an.mode) (rd T an.cz (opsOf o)).1) H fun eM v H'=>K eM (put (inPlace o an.mode (rd T an.cz (opsOf o)).2 v) o.dst v) H'):=by
 unfold iv at ai;split at ai
 ·rename_i aO;cases ai;simp only [hz,pf,jf,nF,zz,xN] at h;exact .inr ⟨by simp [ey,aO],h⟩
 ·rename_i j want aO;split at ai
  ·rename_i d a1;cases ai;simp only [hz,pf,jf,nF,zz,xN,iN] at h;(have hw:∀ b,dc T d=.bool b→ey ops o T=some (b == want):=fun b af=>by simp [ey,aO,a1,af]);split at h
   ·rename_i b af;have hw:=hw b af;cases want <;> cases b <;> simp only at h
    ·exact .inr ⟨hw,h⟩
    ·exact .inl ⟨hw,h⟩
    ·exact .inl ⟨hw,h⟩
    ·exact .inr ⟨hw,h⟩
   ·rename_i af;exact .inl ⟨by simp [ey,aO,a1,af],h⟩
   ·exact h.elim
  ·cases ai
theorem fV {C:b6} {lo:Nat} {ops:Array Oper} {o:Oper} {an:bY} {T:List I} {H:List ar} {v:I} {H':List ar} (hw:ey ops o T=some true)
  (h:a3 P C lo o an.mode (fj (dB o an.mode) (rd T an.cz (opsOf o)).1) H=some (v,H')):ds P C lo ops o an ⟨T,H⟩=some ⟨put (inPlace o an.mode (rd T an.cz (opsOf o)).2 v) o.dst v,H'⟩:=by
 simp only [ds,hw,Ab.execOp];unfold fj at h;cases ao:dB o an.mode <;> rw [ao] at h <;> simp only at h ⊢ <;> rw [h] <;> rfl
theorem oL {C:b6} {lo:Nat} {ops:Array Oper} {o:Oper} {an:bY} {T:List I} {H:List ar} (hw:ey ops o T=some false):ds P C lo ops o an ⟨T,H⟩=some ⟨put T o.dst (.tuple []),H⟩:=by
 simp only [ds,hw]
theorem xT {o:Oper} {mode z5:Nat} (h:gW P o mode=.call z5):z5=mode∧∃ c f,o.op=.call c∧c.callee=.value f:=by
 cases aC:o.op
 case call c =>
  simp only [gW,aC] at h;cases ak:c.callee with
  | value f=>simp only [ak] at h;cases h;exact ⟨rfl,c,f,rfl,ak⟩
  | invoke x n=>simp only [ak] at h;cases h
  | builtin b =>
    simp only [ak] at h;repeat' (first | contradiction | split at h)
 all_goals simp only [gW,aC] at h
 all_goals (try unfold oy at h)
 all_goals (repeat' (first | contradiction | split at h))
theorem oA {lo:Nat} {draw:Bool} {k:jv} {acc:c4} {vs:List I} {H:List ar} {K:c4→I→List ar→Prop} (h:ln P lo draw k acc vs H K) :
  (∃ mode,k=.call mode∧lP P lo draw mode acc vs H K)∨bN P lo k vs H (K acc):=by
 unfold ln at h;split at h
 ·exact .inl ⟨_,rfl,h⟩
 ·exact .inr h
theorem ja {C:b6} {lo mode:Nat} {k:FuncId} {first cap args:List I} {H:List ar}:hr C lo mode H (.func k first cap::args)=eN C lo mode (.fn k) (first++args++cap) H:=rfl
theorem xM {C:b6} {acc:c4} (cm:iD C acc) {lo:Nat} {k:FuncId} {as:List I} {v:I} (aB:as.all (cn 8)=true) (hm:(k,as.map I.ca,v)∈acc) (H:List ar) :
  eN C lo 3 (.fn k) as H=some (v.ca,H):=by
 obtain ⟨r,H2,ab,ae⟩:=cm _ hm;simp only [eN,aB,ab,sc,ae,sg]
theorem EP {C:b6} {acc:c4} (cm:iD C acc) {lo:Nat} {k:FuncId} {as:List I} {v:I} (H:List ar) (aB:(as.map (iA H)).all (cn 8)=true) (ah:fw v=true) (hm:(k,(as.map (iA H)).map I.ca,v)∈acc) :
  eN C lo 6 (.fn k) as H=some (v.ca,H):=by
 obtain ⟨r,H2,ab,ae⟩:=cm _ hm;simp only [eN,aB,ab,sc,ae,ah]
theorem BC {lo:Nat} {ops:Array Oper} {o:Oper} {an:bY} {ch:dM} (ai:iv P ops o an=some ch) {acc:c4} (hH:hZ P acc) {T:List I} {H:List ar} {K:c4→List I→List ar→Prop}
  (h:hz P lo true ch acc T H K):∃ eM bd H',hZ P eM∧(∀ p∈acc,p∈eM)∧(∀ C,iD C eM→ds P C lo ops o an ⟨T,H⟩=some ⟨bd,H'⟩)∧K eM bd H':=by
 rcases oR ai h with ⟨hw,al⟩ | ⟨hw,al⟩
 ·exact ⟨acc,_,_,hH,fun _ h=>h,fun C _=>oL hw,al⟩
 ·rcases oA al with ⟨mode,hm,al⟩ | al
  ·obtain ⟨rfl,c,f,aC,ak⟩:=xT hm;generalize fr:fj (dB o an.mode) (rd T an.cz (opsOf o)).1=vs at al;(have aq:∀ C,a3 P C lo o an.mode vs H=hr C lo an.mode H vs:=fun C=>by simp only [a3,aC,ak]);unfold lP at al;split at al
   ·split at al
    ·(rename_i args _ k first cap);rw [jB,jB] at al;split at al
     ·rename_i hd;obtain ⟨aB,al⟩:=al;rw [nw] at al;obtain ⟨v,jX,mf,al⟩:=al;refine ⟨_,_,_,⟨fun p aB=>?_,fun p aB q a_ ab ae=>?_⟩,fun p aB=>tV _ aB,fun C cm=>fV hw ?_,al⟩
      ·rcases sB.1 aB with rfl | aB
       ·exact jX
       ·exact hH.1 p aB
      ·rcases sB.1 aB with rfl | aB <;> rcases sB.1 a_ with rfl | a_
       ·rfl
       ·exact (mf q a_ ab.symm ae.symm).symm
       ·exact mf p aB ab ae
       ·exact hH.2 p aB q a_ ab ae
      ·rw [fr,aq C,hd,ja,sx];exact xM cm aB (tZ) H
     ·rename_i hd;obtain ⟨aB,gE,rfl,v,ah,jX,mf,al⟩:=al;refine ⟨_,_,_,⟨fun p aB=>?_,fun p aB q a_ ab ae=>?_⟩,fun p aB=>tV _ aB,fun C cm=>fV hw ?_,al⟩
      ·rcases sB.1 aB with rfl | aB
       ·exact jX
       ·exact hH.1 p aB
      ·rcases sB.1 aB with rfl | aB <;> rcases sB.1 a_ with rfl | a_
       ·rfl
       ·exact (mf q a_ ab.symm ae.symm).symm
       ·exact mf p aB ab ae
       ·exact hH.2 p aB q a_ ab ae
      ·rw [fr,aq C,hd,ja,sx];exact EP cm H aB ah (tZ)
     ·exact al.elim
    ·exact al.elim
    ·exact al.elim
   ·exact al.elim
  ·obtain ⟨v,H',ab,ae⟩:=ox al;exact ⟨acc,_,_,hH,fun _ h=>h,fun C _=>fV hw (ab C),ae⟩
theorem Gw {lo:Nat} {ops:Array Oper} {o:Oper} {an:bY} {ch:dM} (ai:iv P ops o an=some ch) {acc:c4} {T:List I} {H:List ar} {K:c4→List I→List ar→Prop}
  (h:hz P lo false ch acc T H K):iF P lo ops o an ⟨T,H⟩ fun aD=>K acc aD.T aD.H:=by
 rcases oR ai h with ⟨hw,al⟩ | ⟨hw,al⟩
 ·exact .inl ⟨_,_,lU,oL hw,al⟩
 ·rcases oA al with ⟨mode,hm,al⟩ | al
  ·obtain ⟨rfl,c,f,aC,ak⟩:=xT hm;generalize fr:fj (dB o an.mode) (rd T an.cz (opsOf o)).1=vs at al;(have aq:∀ C,a3 P C lo o an.mode vs H=hr C lo an.mode H vs:=fun C=>by simp only [a3,aC,ak]);unfold lP at al;split at al
   ·split at al
    ·(rename_i args _ k first cap);rw [jB,jB] at al;split at al
     ·rename_i hd;obtain ⟨aB,al⟩:=al;rw [nw] at al;obtain ⟨v,jX,al⟩:=al
      obtain ⟨C,bm,cm⟩:=nq (acc:=[(k,(first++(args++cap)).map I.ca,v)]) (P:=P) ⟨fun p aB=>by simp only [sS] at aB;subst aB;exact jX,fun p aB q a_ _ _=>by
       simp only [sS] at aB a_;subst aB;subst a_;rfl⟩
      refine .inl ⟨C,_,bm,fV hw (v:=v.ca) (H':=H) ?_,al⟩;rw [fr,aq C,hd,ja,sx];exact xM cm aB (tZ) H
     ·rename_i hd;obtain ⟨v,H',⟨C,bm,dT⟩,al⟩:=al;refine .inl ⟨C,_,bm,fV hw (v:=v) (H':=H') ?_,al⟩;rw [fr,aq C,hd,ja,sx];exact dT
     ·obtain ⟨v,H',⟨C,bm,dT⟩,al⟩:=al;refine .inl ⟨C,_,bm,fV hw (v:=v) (H':=H') ?_,al⟩;rw [fr,aq C,ja,sx];exact dT
    ·obtain ⟨v,H',⟨C,bm,dT⟩,al⟩:=al;refine .inl ⟨C,_,bm,fV hw (v:=v) (H':=H') ?_,al⟩;rw [fr,aq C];exact dT
    ·exact al.elim
   ·exact al.elim
  ·obtain ⟨v,H',ab,ae⟩:=ox al;exact .inl ⟨_,_,lU,fV hw (ab _),ae⟩
end
end Go.Proofs.Ytkoioidpbbbaiaa.Ab


namespace Go.Proofs.Ytkoioidpbbbaiaa.Ab
open Go
section
variable {P:Program}
theorem iF.mono {lo:Nat} {ops:Array Oper} {o:Oper} {an:bY} {s:a6} {K K':a6→Prop} (h:iF P lo ops o an s K) (al:∀ s,K s→K' s):iF P lo ops o an s K':=by
 rcases h with ⟨C,aD,ab,ae,aF⟩ | ⟨it,r,m,since,seen,es,clock,aA,aG,aT,bq,bf,bc,da,du,dP⟩
 ·exact .inl ⟨C,aD,ab,ae,al _ aF⟩
 ·exact .inr ⟨it,r,m,since,seen,es,clock,aA,aG,aT,bq,bf,bc,da,fun h=>al _ (du h),fun e ab ae=>al _ (dP e ab ae)⟩
theorem AU {lo:Nat} {ops:Array Oper} {K K':a6→Prop} (al:∀ s,K s→K' s):∀ {l:List Oper} {as:List bY} {s:a6},runN P lo ops l as s K→runN P lo ops l as s K'
 | [],_,s,h=>al s h
 | _::_,_,_,h=>iF.mono h fun _ aX=>AU al aX
theorem zO {f g:a6→(cN→a6→Prop)→Prop} (nH:∀ s Q cJ,(∀ e s,Q e s→cJ e s)→f s Q→g s cJ) {Q cJ:cN→a6→Prop} (a_:∀ e s,Q e s→cJ e s):∀ {n:Nat} {s:a6},fy f n s Q→fy g n s cJ
 | 0,s,h=>h
 | n+1,s,h=>nH s _ _ (fun e aD aX=>by
   cases e with
   | normal=>exact zO nH a_ aX
   | ret=>exact a_ _ _ aX
   | exit id=>exact a_ _ _ aX) h
theorem oQ {A:dt} {fn:FuncId} {lo:Nat} {rl:Option Nat}:∀ {c:Code} {a2:Nat} {s:a6} {Q cJ:cN→a6→Prop},(∀ e s,Q e s→cJ e s)→c' P A fn lo rl c a2 s Q→c' P A fn lo rl c a2 s cJ:=by
 intro c
 induction c with
 | skip=>intro a2 s Q cJ a_ h;exact a_ _ _ h
 | label l=>intro a2 s Q cJ a_ h;exact a_ _ _ h
 | ret=>intro a2 s Q cJ a_ h;exact a_ _ _ h
 | exit id=>intro a2 s Q cJ a_ h;exact a_ _ _ h
 | goto l=>intro a2 s Q cJ a_ h;exact h
 | refuse y=>intro a2 s Q cJ a_ h;exact h
 | region id ops draw =>
   intro a2 s Q cJ a_ h;simp only [c'] at h ⊢;split at h
   ·obtain ⟨acc,s1,s2,ab,ae,aF,ba⟩:=h;exact ⟨acc,s1,s2,ab,ae,a_ _ _ aF,a_ _ _ ba⟩
   cases draw with
   | true =>
     rcases h with ⟨acc,aD,ab,ae,aF⟩ | ⟨C,aD,ab,ae,aF⟩
     ·exact .inl ⟨acc,aD,ab,ae,a_ _ _ aF⟩
     ·exact .inr ⟨C,aD,ab,ae,a_ _ _ aF⟩
   | false=>exact AU (fun s h=>a_ _ _ h) h
 | seq a b fh ft =>
   intro a2 s Q cJ a_ h;refine fh (fun e aD aX=>?_) h;cases e with
   | normal=>exact ft a_ aX
   | ret=>exact a_ _ _ aX
   | exit id=>exact a_ _ _ aX
 | cond c a b fh ft =>
   intro a2 s Q cJ a_ h;rcases h with ⟨t,ax,h⟩ | ⟨ax,ab,ae⟩
   ·refine .inl ⟨t,ax,?_⟩;cases t with
    | true=>exact fh a_ h
    | false=>exact ft a_ h
   ·exact .inr ⟨ax,fh a_ ab,ft a_ ae⟩
 | block id c a8 =>
   intro a2 s Q cJ a_ h;refine a8 (fun e aD aX=>?_) h;cases e with
   | normal=>exact a_ _ _ aX
   | ret=>exact a_ _ _ aX
   | exit bB =>
     simp only at aX ⊢;by_cases aE:bB=id
     ·simp only [aE,if_true] at aX ⊢;exact a_ _ _ aX
     ·simp only [aE,if_false] at aX ⊢;exact a_ _ _ aX
 | loop c a8 =>
   intro a2 s Q cJ a_ h;obtain ⟨n,h⟩:=h;refine ⟨n,?_⟩;refine zO ?_ a_ h;intro s Q cJ a_ h;exact a8 a_ h
 | scope c a8=>intro a2 s Q cJ a_ h;exact a8 a_ h
 | rangeFunc f bp as cp _ _ =>
   intro a2 s Q cJ a_ h;obtain ⟨C,e,aD,ab,ae,aF⟩:=h;exact ⟨C,e,aD,ab,ae,a_ _ _ aF⟩
theorem ov {lo:Nat} {ops:Array Oper}:∀ {l:List Oper} {as:List bY} {rl:List dM} {acc:c4} {T:List I} {H:List ar} {K:List I→List ar→Prop},e4 P ops l as=some rl→gV P lo false rl acc T H K →
  runN P lo ops l as ⟨T,H⟩ fun aD=>K aD.T aD.H
 | [],as,rl,acc,T,H,K,ao,h=>by simp only [e4,Option.some.injEq] at ao;subst ao;exact h
 | o::r,as,rl,acc,T,H,K,ao,h=>by
   simp only [e4] at ao;split at ao
   ·rename_i ch l' ab ae;simp only [Option.some.injEq] at ao;subst ao;exact iF.mono (Gw ab h) fun aD aX=>ov ae aX
   ·cases ao
theorem nB {C:b6} {lo:Nat} {ops:Array Oper} {o:Oper} {r:List Oper} {as:List bY} {s:a6}:eb P C lo ops (o::r) as s=(ds P C lo ops o (as.headD {}) s).bind (eb P C lo ops r as.tail):=by
 rw [eb];unfold ds;cases hw:ey ops o s.T with
 | none=>rfl
 | some b=>cases b <;> rfl
theorem Ar {lo:Nat} {ops:Array Oper}:∀ {l:List Oper} {as:List bY} {rl:List dM} {acc:c4} {T:List I} {H:List ar} {K:List I→List ar→Prop},e4 P ops l as=some rl→hZ P acc→gV P lo true rl acc T H K →
  ∃ eM bd H',hZ P eM∧(∀ p∈acc,p∈eM)∧(∀ C,iD C eM→eb P C lo ops l as ⟨T,H⟩=some ⟨bd,H'⟩)∧K bd H'
 | [],as,rl,acc,T,H,K,ao,cq,h=>by simp only [e4,Option.some.injEq] at ao;subst ao;exact ⟨acc,T,H,cq,fun _ h=>h,fun _ _=>rfl,h⟩
 | o::r,as,rl,acc,T,H,K,ao,cq,h=>by
   simp only [e4] at ao;split at ao
   ·rename_i ch l' ab ae;simp only [Option.some.injEq] at ao;subst ao;obtain ⟨BV,g3,H1,aA,aG,aT,bq⟩:=BC ab cq h;obtain ⟨BW,ei,H2,bl,cr,eY,lN⟩:=Ar ae aA bq;refine ⟨BW,ei,H2,bl,fun p aB=>cr p (aG p aB),fun C cm=>?_,lN⟩;rw [nB,aT C (fun p aB=>cm p (cr p aB)),sc];exact eY C cm
   ·cases ao
theorem Gx {lo:Nat} {ops:Array Oper} {o:Oper} {an:bY} {ch:dM} (ai:iv P ops o an=some ch) {acc:c4} {T:List I} {H:List ar} {K:c4→List I→List ar→Prop}
  (h:hz P lo false ch acc T H K):∃ C aD,c3 P C∧ds P C lo ops o an ⟨T,H⟩=some aD∧K acc aD.T aD.H:=by
 rcases oR ai h with ⟨hw,al⟩ | ⟨hw,al⟩
 ·exact ⟨_,_,lU,oL hw,al⟩
 ·rcases oA al with ⟨mode,hm,al⟩ | al
  ·obtain ⟨rfl,c,f,aC,ak⟩:=xT hm;generalize fr:fj (dB o an.mode) (rd T an.cz (opsOf o)).1=vs at al;(have aq:∀ C,a3 P C lo o an.mode vs H=hr C lo an.mode H vs:=fun C=>by simp only [a3,aC,ak]);unfold lP at al;split at al
   ·split at al
    ·(rename_i args _ k first cap);rw [jB,jB] at al;split at al
     ·rename_i hd;obtain ⟨aB,al⟩:=al;rw [nw] at al;obtain ⟨v,jX,al⟩:=al
      obtain ⟨C,bm,cm⟩:=nq (acc:=[(k,(first++(args++cap)).map I.ca,v)]) (P:=P) ⟨fun p aB=>by simp only [sS] at aB;subst aB;exact jX,fun p aB q a_ _ _=>by
       simp only [sS] at aB a_;subst aB;subst a_;rfl⟩
      refine ⟨C,_,bm,fV hw (v:=v.ca) (H':=H) ?_,al⟩;rw [fr,aq C,hd,ja,sx];exact xM cm aB (tZ) H
     ·rename_i hd;obtain ⟨v,H',⟨C,bm,dT⟩,al⟩:=al;refine ⟨C,_,bm,fV hw (v:=v) (H':=H') ?_,al⟩;rw [fr,aq C,hd,ja,sx];exact dT
     ·obtain ⟨v,H',⟨C,bm,dT⟩,al⟩:=al;refine ⟨C,_,bm,fV hw (v:=v) (H':=H') ?_,al⟩;rw [fr,aq C,ja,sx];exact dT
    ·obtain ⟨v,H',⟨C,bm,dT⟩,al⟩:=al;refine ⟨C,_,bm,fV hw (v:=v) (H':=H') ?_,al⟩;rw [fr,aq C];exact dT
    ·exact al.elim
   ·exact al.elim
  ·obtain ⟨v,H',ab,ae⟩:=ox al;exact ⟨_,_,lU,fV hw (ab _),ae⟩
theorem BB {lo:Nat} {ops:Array Oper} {o:Oper} {an:bY} {ch:dM} (ai:iv P ops o an=some ch) (aI:ig ch=false) {acc:c4} {T:List I} {H:List ar} {K:c4→List I→List ar→Prop}
  (h:hz P lo false ch acc T H K):∃ aD,(∀ C,ds P C lo ops o an ⟨T,H⟩=some aD)∧K acc aD.T aD.H:=by
 have Dc:ch.k=gW P o an.mode:=by
  unfold iv at ai;split at ai
  ·cases ai;rfl
  ·split at ai
   ·cases ai;rfl
   ·cases ai
 rcases oR ai h with ⟨hw,al⟩ | ⟨hw,al⟩
 ·exact ⟨_,fun C=>oL hw,al⟩
 ·rcases oA al with ⟨mode,hm,al⟩ | al
  ·unfold ig at aI;rw [Dc,hm] at aI;cases aI
  ·obtain ⟨v,H',ab,ae⟩:=ox al;exact ⟨_,fun C=>fV hw (ab C),ae⟩
theorem Aq {lo:Nat} {ops:Array Oper}:∀ {l:List Oper} {as:List bY} {rl:List dM} {acc:c4} {T:List I} {H:List ar} {K:List I→List ar→Prop},e4 P ops l as=some rl→rl.countP ig=0→gV P lo false rl acc T H K →
  ∃ aD,(∀ C,eb P C lo ops l as ⟨T,H⟩=some aD)∧K aD.T aD.H
 | [],as,rl,acc,T,H,K,ao,_,h=>by simp only [e4,Option.some.injEq] at ao;subst ao;exact ⟨⟨T,H⟩,fun _=>rfl,h⟩
 | o::r,as,rl,acc,T,H,K,ao,aI,h=>by
   simp only [e4] at ao;split at ao
   ·rename_i ch l' ab ae;simp only [Option.some.injEq] at ao;subst ao;rw [List.countP_cons] at aI;have zd:ig ch=false:=by
     cases aj:ig ch with
     | true=>rw [aj] at aI;simp at aI
     | false=>rfl
    rw [zd] at aI;obtain ⟨s1,aA,aG⟩:=BB ab zd h;obtain ⟨s2,bl,cr⟩:=Aq ae (by simpa using aI) aG;refine ⟨s2,fun C=>?_,cr⟩;rw [nB,aA C,sc];exact bl C
   ·cases ao
theorem As {lo:Nat} {ops:Array Oper}:∀ {l:List Oper} {as:List bY} {rl:List dM} {acc:c4} {T:List I} {H:List ar} {K:List I→List ar→Prop},e4 P ops l as=some rl→rl.countP ig≤1→gV P lo false rl acc T H K →
  ∃ C aD,c3 P C∧eb P C lo ops l as ⟨T,H⟩=some aD∧K aD.T aD.H
 | [],as,rl,acc,T,H,K,ao,_,h=>by simp only [e4,Option.some.injEq] at ao;subst ao;exact ⟨_,⟨T,H⟩,lU,rfl,h⟩
 | o::r,as,rl,acc,T,H,K,ao,aI,h=>by
   simp only [e4] at ao;split at ao
   ·rename_i ch l' ab ae;simp only [Option.some.injEq] at ao;subst ao;rw [List.countP_cons] at aI;cases aj:ig ch with
    | true =>
      rw [aj] at aI;obtain ⟨C,s1,h0,aA,aG⟩:=Gx ab h;have aI:l'.countP ig+1≤1:=aI;obtain ⟨s2,bl,cr⟩:=Aq ae (by omega) aG;refine ⟨C,s2,h0,?_,cr⟩;rw [nB,aA,sc];exact bl C
    | false =>
      rw [aj] at aI;obtain ⟨s1,aA,aG⟩:=BB ab aj h;obtain ⟨C,s2,db,bl,cr⟩:=As ae (by simpa using aI) aG;refine ⟨C,s2,db,?_,cr⟩;rw [nB,aA C,sc];exact bl
   ·cases ao
theorem Gy {lo:Nat} {ch:dM} (aI:mS ch=true) {acc:c4} {T:List I} {H:List ar} {K K':c4→List I→List ar→Prop} (fG:K acc=K' acc) (h:hz P lo true ch acc T H K):hz P lo true ch acc T H K':=by
 have e:∀ (vs:List I) (H:List ar) (F:c4→I→List ar→Prop),ln P lo true ch.k acc vs H F=bN P lo ch.k vs H (F acc):=fun vs H F=>by
  unfold mS at aI;unfold ln;split
  ·rename_i m al;rw [al] at aI;cases aI
  ·rfl
 unfold hz at h ⊢;simp only [e,fG] at h ⊢;exact h
theorem xP {lo:Nat} {ops:Array Oper} {an:List bY}:∀ {O:List Nat} {rl:List dM} {acc:c4} {T:List I} {H:List ar} {K:List I→List ar→Prop},k1 P ops an O=some rl→rl.all mS=true→hZ P acc→gV P lo true rl acc T H K →
  ∃ bd H',(∀ C,iD C acc→cR P C lo ops an O ⟨T,H⟩=some ⟨bd,H'⟩)∧K bd H'
 | [],rl,acc,T,H,K,ao,_,cq,h=>by simp only [k1,Option.some.injEq] at ao;subst ao;exact ⟨T,H,fun _ _=>rfl,h⟩
 | i::r,rl,acc,T,H,K,ao,aI,cq,h=>by
   simp only [k1] at ao;split at ao
   ·rename_i o hi;split at ao
    ·rename_i ch l' ab ae;simp only [Option.some.injEq] at ao;subst ao;simp only [List.all_cons,sn] at aI;have aX:=Gy aI.1 (K':=fun eM bd H'=>eM=acc∧gV P lo true l' acc bd H' K) (by funext bd H';simp) h;obtain ⟨BV,g3,H1,_,_,aT,rfl,bq⟩:=BC ab cq aX;obtain ⟨ei,H2,eY,lN⟩:=xP ae aI.2 cq bq;refine ⟨ei,H2,fun C cm=>?_,lN⟩;simp only [cR,hi];rw [aT C cm,sc];exact eY C cm
    ·cases ao
   ·cases ao
theorem DZ {A:dt} {fn:FuncId} {lo:Nat} {rl:Option Nat} {id:Nat} {ops:Array Oper} {draw:Bool} {a2:Nat} {x:List Nat×Nat×Nat} {rc:gB} (aL:A.ij=[]) (ax:kg A id draw=some x) (ao:xw P ops (A.ops.getD id []) x=some rc)
  {T:List I} {H:List ar} {Q:cN→List I→List ar→Prop} (h:dN P A fn lo rl rc T H Q):c' P A fn lo rl (.region id ops draw) a2 ⟨T,H⟩ fun e s=>Q e s.T s.H:=by
 have al:e2 A.ij id ⟨T,H⟩=⟨T,H⟩:=by rw [aL];rfl
 unfold xw at ao;split at ao
 ·rename_i l1 l2 ab ae;split at ao
  ·rename_i aI;simp only [Option.some.injEq] at ao;subst ao;rw [sn] at aI;have aQ:hZ P []:=⟨fun p aB=>by simp at aB,fun p aB=>by simp at aB⟩;obtain ⟨ei,H2,bl,cr⟩:=xP ab aI.1 aQ h.1;obtain ⟨dE,hC,a7,a9⟩:=xP ae aI.2 aQ h.2;simp only [c',ax,al];exact ⟨[],⟨ei,H2⟩,⟨dE,hC⟩,aQ,fun C _ cm=>⟨bl C cm,a7 C cm⟩,cr,a9⟩
  ·cases ao
 ·cases ao
theorem DY {A:dt} {fn:FuncId} {lo:Nat} {rl:Option Nat} {id:Nat} {ops:Array Oper} {draw:Bool} {a2:Nat} {rc:gB} (aL:A.ij=[]) (ax:kg A id draw=none) (ao:xv P ops draw (A.ops.getD id [])=some rc)
  {T:List I} {H:List ar} {Q:cN→List I→List ar→Prop} (h:dN P A fn lo rl rc T H Q):c' P A fn lo rl (.region id ops draw) a2 ⟨T,H⟩ fun e s=>Q e s.T s.H:=by
 have al:e2 A.ij id ⟨T,H⟩=⟨T,H⟩:=by rw [aL];rfl
 have gen:∀ {d:Bool} {l:List Oper},ops.toList=l→draw=d→((e4 P ops l (A.ops.getD id [])).map fun l'=>gB.ou (d && !oJ l') l')=some rc→c' P A fn lo rl (.region id ops draw) a2 ⟨T,H⟩ fun e s=>Q e s.T s.H:=fun {d l} kM a1 eC=>by
  clear ao;simp only [sb] at eC;obtain ⟨AO,eC,rfl⟩:=eC;subst a1;cases draw with
  | true =>
    simp only [c',ax];cases ah:oJ AO with
    | false =>
      rw [ah] at h;obtain ⟨eM,bd,H',aA,_,aT,bq⟩:=Ar eC ⟨fun p aB=>by simp at aB,fun p aB=>by simp at aB⟩ h;exact .inl ⟨eM,⟨bd,H'⟩,aA,fun C _ cm=>by rw [al,kM];exact aT C cm,bq⟩
    | true =>
      rw [ah] at h;simp only [oJ,sn] at ah;obtain ⟨C,aD,db,bl,cr⟩:=As eC (by simpa using ah.2) h;exact .inr ⟨C,aD,db,by rw [al,kM];exact bl,cr⟩
  | false =>
    simp only [c',ax];rw [al,kM];exact ov eC h
 unfold xv at ao;split at ao
 ·rename_i o rest kM;split at ao
  ·rename_i it aC aO;simp only [sb] at ao;obtain ⟨AO,ao,rfl⟩:=ao;simp only [c',ax];rw [al,kM];refine .inr ?_;simp only [dN,z_,iN] at h;split at h
   ·rename_i r ai;obtain ⟨m,since,seen,clock,es,aA,aG,aT,bq,bf,bc⟩:=h;simp only [xN] at bf bc;exact ⟨.tmp it,r,m,since,seen,es,clock,aC,aO,ai,aA,aG,aT,bq,fun h=>ov ao (bf h),fun e ab ae=>ov ao (bc e ab ae)⟩
   ·exact h.elim
  ·exact gen kM rfl ao
 ·exact gen rfl rfl ao
theorem fy.more {f:a6→(cN→a6→Prop)→Prop} {Q:cN→a6→Prop} (aP:∀ s Q cJ,(∀ e s,Q e s→cJ e s)→f s Q→f s cJ):∀ {n:Nat} {s:a6},fy f n s Q→fy f (n+1) s Q
 | 0,s,h=>h.elim
 | n+1,s,h=>aP _ _ _ (fun e aD aX=>by
    cases e with
    | normal=>exact fy.more aP aX
    | ret=>exact aX
    | exit id=>exact aX) h
theorem D4 {f:a6→(cN→a6→Prop)→Prop} {Q:cN→a6→Prop} (hX:Nat→a6→Prop) (step:∀ m s,hX m s→f s fun e aD=>match e with | .normal=>∃ ho,ho<m∧hX ho aD | e=>Q e aD)
  (aP:∀ s Q cJ,(∀ e s,Q e s→cJ e s)→f s Q→f s cJ):∀ (m:Nat) (s:a6),hX m s→fy f (m+1) s Q:=by
 intro m
 induction m using Nat.strongRecOn with
 | _ m a8 =>
   intro s h;refine aP _ _ _ (fun e aD aX=>?_) (step m s h);cases e with
   | normal =>
     obtain ⟨ho,hm,aX⟩:=aX
     have:∀ k,fy f (ho+1+k) aD Q:=fun k=>by
      induction k with
      | zero=>exact a8 ho hm aD aX
      | succ k DQ=>exact fy.more aP DQ
     (have e:m=ho+1+(m-(ho+1)):=by omega);rw [e];exact this _
   | ret=>exact aX
   | exit id=>exact aX
theorem G9 {A:dt} {fn:FuncId} {lo:Nat} {rl:Option Nat}:∀ {c:Code} {a2:Nat} {rc:gB} {T:List I} {H:List ar} {Q:cN→List I→List ar→Prop},eu P A c a2=some rc→dN P A fn lo rl rc T H Q →
  c' P A fn lo rl c a2 ⟨T,H⟩ fun e s=>Q e s.T s.H:=by
 intro c
 induction c with
 | skip=>intro a2 rc T H Q ao h;simp only [eu,Option.some.injEq] at ao;subst ao;exact h
 | label l=>intro a2 rc T H Q ao h;simp only [eu,Option.some.injEq] at ao;subst ao;exact h
 | ret=>intro a2 rc T H Q ao h;simp only [eu,Option.some.injEq] at ao;subst ao;exact h
 | exit id=>intro a2 rc T H Q ao h;simp only [eu,Option.some.injEq] at ao;subst ao;exact h
 | goto l=>intro a2 rc T H Q ao h;simp [eu] at ao
 | refuse y=>intro a2 rc T H Q ao h;simp [eu] at ao
 | region id ops draw =>
   intro a2 rc T H Q ao h;simp only [eu] at ao;split at ao
   ·rename_i aL;split at ao
    ·rename_i p ax;exact DZ aL ax ao h
    ·rename_i ax;exact DY aL ax ao h
   ·cases ao
 | seq a b fh ft =>
   intro a2 rc T H Q ao h;simp only [eu] at ao;split at ao
   ·rename_i x y aj aY;simp only [Option.some.injEq] at ao;subst ao;show c' P A fn lo rl a a2 ⟨T,H⟩ _;refine oQ (fun e s aX=>?_) (fh aj h);cases e with
    | normal=>exact ft aY aX
    | ret=>exact aX
    | exit id=>exact aX
   ·cases ao
 | cond c a b fh ft =>
   intro a2 rc T H Q ao h;simp only [eu] at ao;split at ao
   ·rename_i x y aj aY;simp only [Option.some.injEq] at ao;subst ao
    have key:∀ v,az T c=v→(match v with
      | .bool t=>(match t with | true=>dN P A fn lo rl x T H Q | false=>dN P A fn lo rl y T H Q)
      | .dw=>dN P A fn lo rl x T H Q∧dN P A fn lo rl y T H Q
      | _=>False)→c' P A fn lo rl (.cond c a b) a2 ⟨T,H⟩ fun e s=>Q e s.T s.H:=fun v ad h=>by
     cases v with
     | bool t =>
       refine .inl ⟨t,ad,?_⟩;cases t with
       | true=>exact fh aj h
       | false=>exact ft aY h
     | dw=>exact .inr ⟨ad,fh aj h.1,ft aY h.2⟩
     | _=>exact h.elim
    cases c with
    | tmp t=>simp only [ow,dN,iN] at h;exact key _ rfl h
    | const v=>exact key (az [] (.const v)) rfl h
    | func f=>exact key (az [] (.func f)) rfl h
    | global g=>exact key (az [] (.global g)) rfl h
   ·cases ao
 | block id c a8 =>
   intro a2 rc T H Q ao h;simp only [eu,sb] at ao;obtain ⟨x,aj,rfl⟩:=ao;show c' P A fn lo rl c id ⟨T,H⟩ _;refine oQ (fun e s aX=>?_) (a8 aj h);cases e with
   | normal=>exact aX
   | ret=>exact aX
   | exit bB =>
     simp only at aX ⊢;by_cases aE:bB=id
     ·subst aE;simp only [if_true];rw [uV] at aX;exact aX
     ·simp only [aE,if_false]
      have:Nat.beq bB id=false:=by
       cases af:Nat.beq bB id with
       | false=>rfl
       | true=>exact absurd (sR af) aE
      rw [this] at aX;exact aX
 | loop c a8 =>
   intro a2 rc T H Q ao h;simp only [eu,sb] at ao;obtain ⟨x,aj,rfl⟩:=ao;simp only [dN,DV,z6] at h;obtain ⟨hX,m,hm,DL⟩:=h;have kG:∀ s:a6,e2 A.ih a2 s=⟨match l4 a2 A.ih with | some k=>eW k s.T | none=>s.T,s.H⟩:=fun s=>by
    unfold e2;cases l4 a2 A.ih <;> rfl
   refine ⟨m+1,D4 (f:=fun aD=>c' P A fn lo rl c a2 (e2 A.ih a2 aD)) (fun m s=>hX m (e2 A.ih a2 s).T s.H) ?_ (fun s Q cJ a_ h=>oQ a_ h) m ⟨T,H⟩ (by rw [kG];exact hm)⟩;intro m s kB;rw [kG] at kB;have h:=a8 aj (DL m _ s.H kB);show c' P A fn lo rl c a2 (e2 A.ih a2 s) _;rw [kG];refine oQ (fun e aD aX=>?_) h;cases e with
   | normal=>simp only at aX ⊢;rw [kG];exact aX
   | ret=>exact aX
   | exit id=>exact aX
 | scope c a8=>intro a2 rc T H Q ao h;exact a8 ao h
 | rangeFunc f bp as cp _ _ =>
   intro a2 rc T H Q ao h;simp only [eu,Option.some.injEq] at ao;subst ao;have key:∀ v,az T f=v→oD P A fn lo rl v bp.toList as cp T H Q→c' P A fn lo rl (.rangeFunc f bp as cp) a2 ⟨T,H⟩ fun e s=>Q e s.T s.H:=fun v ad h=>by
    unfold oD at h;split at h
    ·(rename_i k first cap);obtain ⟨hc,r,H',st,cI,fn',bd,Ai,gE,yA,iJ,ah,ao,cG,a_⟩:=h;have fin:∀ (e:cN) (H2:List ar),exec P A (k6 (.fn k) (first++[.yield H.length]++cap) (H++[.loop .ready none fn (T.map I.view) bp.toList as cp A]) lo r H') fn lo 0 rl (.rangeFunc f bp as cp) a2 ⟨T,H⟩=some (e,⟨T.map I.settle,H2⟩)→Q e (T.map I.settle) H2 →
       c' P A fn lo rl (.rangeFunc f bp as cp) a2 ⟨T,H⟩ fun e s=>Q e s.T s.H:=fun e H2 he a_=>⟨_,e,_,EE ah,he,a_⟩
     have hex:∀ (e:cN),(match cI with | none=>some cN.normal | some .ret=>some .ret | some (.exit id)=>some (.exit id) | _=>none)=some e →
       exec P A (k6 (.fn k) (first++[.yield H.length]++cap) (H++[.loop .ready none fn (T.map I.view) bp.toList as cp A]) lo r H') fn lo 0 rl (.rangeFunc f bp as cp) a2 ⟨T,H⟩=some (e,⟨T.map I.settle,H'.set H.length .dead⟩):=fun e he=>by
      simp only [exec,ad,hc,ED,ao,cG,if_false];split at he <;> simp_all
     split at a_
     ·exact fin _ _ (hex .normal rfl) a_
     ·exact fin _ _ (hex .ret rfl) a_
     ·exact fin _ _ (hex (.exit _) rfl) a_
     ·exact a_.elim
    ·exact h.elim
   cases f with
   | tmp t=>simp only [ow,dN,iN] at h;exact key _ rfl h
   | const v=>exact key (az [] (.const v)) rfl h
   | func g=>exact key (az [] (.func g)) rfl h
   | global g=>exact key (az [] (.global g)) rfl h
end
end Go.Proofs.Ytkoioidpbbbaiaa.Ab
