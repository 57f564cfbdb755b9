
import Derived.Test.YtfakoboiahbhaaaGreatJa2
import Derived.Maps.RangeRun
set_option linter.unusedSimpArgs false
set_option linter.unusedVariables false
set_option linter.unusedSectionVars false

open Array renaming getD_eq_getD_getElem?→sB,getElem?_eq_getElem→sA,getElem?_eq_some_iff→sY,getElem?_setIfInBounds_ne→vw,toArray_toList→uy
open Bool renaming and_eq_true→sx,false_eq_true→tG,or_eq_true→tI
open Classical renaming choose_spec→vG
open List renaming all_cons→tF,all_eq_true→sv,append_assoc→sD,cons_append→uA,drop_eq_getElem_cons→sQ,eq_nil_iff_forall_not_mem→uQ,getD_eq_getElem?_getD→sE,getElem?_append_left→sy,getElem?_append_right→sJ,getElem?_cons_zero→ud,getElem?_eq_getElem→sm,getElem?_eq_none→tx,getElem?_eq_some_iff→sb,getElem?_map→ss,getElem?_range→vg,getElem?_set_ne→sj,getElem?_set_self→si,length_cons→sM,length_map→sX,length_nil→uS,length_set→tc,mapM_cons→v7,map_congr_left→tz,map_cons→sG,map_drop→ug,map_eq_nil_iff→we,map_id→vh,map_take→ue,mem_cons→sq,mem_cons_of_mem→tV,mem_cons_self→uo,mem_iff_getElem?→tg,mem_map→sk,mem_of_getElem?→sH,mem_range→sK,mem_singleton→sO,nodup_range→t_,of_mem_zip→vJ,pairwise_cons→tB,pairwise_lt_range→uR,pairwise_map→tW,take_append_drop→uT,zip_cons_cons→v9
open Nat renaming beq_eq→uV,beq_refl→uU,ble_eq→uh,ble_eq_true_of_le→uj,blt_eq→te,eq_of_beq_eq_true→tb,le_of_ble_eq_true→tU,le_refl→sd,lt_or_ge→sT
open Option renaming bind_eq_some_iff→sg,bind_some→sc,isNone_iff_eq_none→tr,isSome_eq_false_iff→tq,isSome_iff_exists→tw,map_eq_some_iff→sa,map_some→sf
namespace Go.Proofs.YtfakoboiahbhaaaGreat.Ab
open Go
section
variable {P:Program} {C:b7}
theorem Cl (bu:da P C) {lo:Nat} {o:Oper} {an:b2} {s aF:a6} (h:Ab.execOp P C lo o an s=some aF):bb lo s.H aF.H:=by
 obtain ⟨r,H',aD,rfl⟩:=o3 h;exact Ex bu aD
theorem o4 (bu:da P C) {lo:Nat} {ops:Array Oper}:∀ (l:List Oper) (as:List b2) (s aF:a6),eO P C lo ops l as s=some aF→bb lo s.H aF.H
 | [],as,s,aF,h=>by simp only [eO,Option.some.injEq] at h;subst h;exact bb.refl _ _
 | o::l,as,s,aF,h=>by
   simp only [eO] at h;split at h
   ·simp only [sg] at h;obtain ⟨s1,ad,af⟩:=h;exact (Cl bu ad).trans (o4 bu l _ _ _ af)
   ·have:=o4 bu l _ _ _ h;exact this
   ·simp at h
theorem zu (mF:List (Nat×List Bool)) (id:Nat) (s:a6):(e2 mF id s).H=s.H:=by
 unfold e2;split <;> rfl
theorem zE {lo:Nat} {f:a6→Option (cz×a6)} (aP:∀ s e aF,f s=some (e,aF)→bb lo s.H aF.H):∀ (n:Nat) (s:a6) (e:cz) (aF:a6),ia f n s=some (e,aF)→bb lo s.H aF.H
 | 0,s,e,aF,h=>by simp [ia] at h
 | n+1,s,e,aF,h=>by
   simp only [ia] at h;split at h
   ·rename_i s1 ad;exact (aP _ _ _ ad).trans (zE aP n _ _ _ h)
   ·exact aP _ _ _ h
theorem o5 (bu:da P C) {A:db} {fn:FuncId} {lo d:Nat} {rl:Option Nat}:∀ (c:Code) (a1:Nat) (s:a6) (e:cz) (aF:a6),exec P A C fn lo d rl c a1 s=some (e,aF)→bb lo s.H aF.H:=by
 intro c
 induction c with
 | skip=>intro a1 s e aF h;simp only [exec,Option.some.injEq,Prod.mk.injEq] at h;obtain ⟨_,rfl⟩:=h;exact bb.refl _ _
 | region id ops draw =>
   intro a1 s e aF h;simp only [exec] at h;split at h
   ·cases h
   simp only [sa,Prod.mk.injEq] at h;obtain ⟨s1,h,_,rfl⟩:=h;have:=o4 bu _ _ _ _ h
   rwa [zu] at this
 | seq a b fh fs =>
   intro a1 s e aF h;simp only [exec] at h;split at h
   ·rename_i s1 ad;exact (fh _ _ _ _ ad).trans (fs _ _ _ _ h)
   ·exact fh _ _ _ _ h
 | cond c a b fh fs =>
   intro a1 s e aF h;simp only [exec] at h;split at h
   ·exact fh _ _ _ _ h
   ·exact fs _ _ _ _ h
   ·simp at h
 | block id c a9 =>
   intro a1 s e aF h;simp only [exec] at h;split at h
   ·rename_i bz s1 ad;split at h <;> simp only [Option.some.injEq,Prod.mk.injEq] at h <;> obtain ⟨_,rfl⟩:=h <;> exact a9 _ _ _ _ ad
   ·exact a9 _ _ _ _ h
 | loop c a9 =>
   intro a1 s e aF h;simp only [exec] at h;exact zE (fun s e aF h=>by have:=a9 _ _ _ _ h;rwa [zu] at this) _ _ _ _ h
 | exit id=>intro a1 s e aF h;simp only [exec,Option.some.injEq,Prod.mk.injEq] at h;obtain ⟨_,rfl⟩:=h;exact bb.refl _ _
 | ret=>intro a1 s e aF h;simp only [exec,Option.some.injEq,Prod.mk.injEq] at h;obtain ⟨_,rfl⟩:=h;exact bb.refl _ _
 | scope c a9=>intro a1 s e aF h;simp only [exec] at h;exact a9 _ _ _ _ h
 | label l=>intro a1 s e aF h;simp only [exec,Option.some.injEq,Prod.mk.injEq] at h;obtain ⟨_,rfl⟩:=h;exact bb.refl _ _
 | goto l=>intro a1 s e aF h;simp [exec] at h
 | refuse y=>intro a1 s e aF h;simp [exec] at h
 | rangeFunc g bn a b fh fs =>
   intro a1 s e aF h;simp only [exec] at h;have key:∀ {H':List ar} {r:I} {bZ:e_} {args:List I} {x:ar},C bZ args (s.H++[x]) lo=some (r,H')→bb lo s.H (H'.set s.H.length .dead):=fun {H' r bZ args x} al=>by
    have ao:=bu.low al;refine ⟨?_,fun id ad af=>?_⟩
    ·have:=ao.1;simp at this ⊢;omega
    ·rw [sj (by omega),ao.2 id ad (by simp;omega),sy af]
   split at h
   ·split at h
    ·rename_i r H' al;split at h
     ·split at h
      ·simp at h
      ·split at h
       ·simp only [Option.some.injEq,Prod.mk.injEq] at h;obtain ⟨_,rfl⟩:=h;exact key al
       ·simp only [Option.some.injEq,Prod.mk.injEq] at h;obtain ⟨_,rfl⟩:=h;exact key al
       ·simp only [Option.some.injEq,Prod.mk.injEq] at h;obtain ⟨_,rfl⟩:=h;exact key al
       ·simp at h
     ·simp at h
    ·simp at h
   ·simp at h
end
section
variable {P:Program} {F:Fence} {n:Nat} {b:Frame} {a:Act} {k:List Item} {cs:List Frame} {w:World} {Q:Exit→Act→World→Prop}
theorem lp {c:Code}:step P (lone (b.atR a (.code (.scope c)::k)) cs w)=.next (lone (b.atR a (.code c::.inScope c::k)) cs w) :=
 step_lone_go (by simp [stepG,stepG.exec,Frame.atR])
theorem Gd {c:Code}:step P (lone (b.atR a (.inScope c::k)) cs w)=.next (lone (b.atR a k) cs w) :=
 step_lone_go (by simp [stepG,stepG.exec,Frame.atR])
theorem BA {c:Code} (h:c.wpIn F n P Q a w) (aO:∀ l a w,¬ Q (.goto l) a w):(Code.scope c).wpIn F n P Q a w:=by
 intro b k cs Dy ag aj;have aU:(lone (b.atR a (.code (.scope c)::k)) cs w).fenced P F:=fenced_calm ag aj rfl;obtain ⟨e,kn,lv,aZ,hB⟩:=h b (.inScope c::k) cs Dy ag aj;have ak:∀ id,exitTo id (.inScope c::k)=exitTo id k:=fun id=>by simp [exitTo]
 cases e with
 | normal=>exact ⟨.normal,kn,lv,aZ,.head aU lp (StepsIn.trans hB (.one (fenced_calm ag aj rfl) Gd))⟩
 | exit id =>
   exact ⟨.exit id,kn,lv,aZ,fun k' av=>.head aU lp (hB.1 k' (by rw [ak];exact av)),
    fun nJ av=>let ⟨k₁,ad,af⟩:=hB.2 nJ (by rw [ak];exact av);⟨k₁,ad,.head aU lp af⟩⟩
 | goto l=>exact absurd aZ (aO l kn lv)
 | ret=>exact ⟨_,kn,lv,aZ,.of_steps (.one aU lp) hB⟩
 | panic GH=>exact ⟨_,kn,lv,aZ,.of_steps (.one aU lp) hB⟩
 | outgrown=>exact ⟨_,kn,lv,aZ,.of_steps (.one aU lp) hB⟩
end
end Go.Proofs.YtfakoboiahbhaaaGreat.Ab


namespace Go.Proofs.YtfakoboiahbhaaaGreat.Ab
open Go
section
variable {P:Program} {B N:Nat} {J:List Nat} {w:World} {H:List ar} {U:Nat→Option aH} {S:Nat→Nat→Prop}
theorem A8:∀ (T:List I) (bg:List Value) (bA:Nat→aH) (S:Nat→Nat→Prop),(∀ i j,bA i=bA j→i=j)→(∀ i id,bA i≠.obj id)→(∀ i id j,bA i≠.cell id j) →
  a8 bA U J S w T bg→aK B U J S w H →
  ∃ S':Nat→Nat→Prop,(∀ b o,S b o→S' b o)∧(∀ b o,S' b o→S b o∨∃ i,U b=some (bA i))∧aK B U J S' w H∧a8 bA U J S' w (T.map I.settle) bg∧a8 bA U J S' w (T.map I.view) bg:=by
 intro T
 induction T with
 | nil=>intro bg bA S _ _ _ ae ah;exact ⟨S,fun _ _ h=>h,fun _ _ h=>.inl h,ah,by simpa using ae,by simpa using ae⟩
 | cons u T a9 =>
   intro bg bA S aw b6 cg ae ah;obtain ⟨v,hO,rfl,aj,aq,ay⟩:=ae.gS;have first:∃ a7:Nat→Nat→Prop,(∀ b o,S b o→a7 b o)∧(∀ b o,a7 b o→S b o∨U b=some (bA 0))∧aK B U J a7 w H∧Rel J a7 w u.view v∧Rel J a7 w u.settle v∧aV U J a7 w (bA 0) u.settle v:=by
    by_cases hu:u.cQ=true
    ·have ai:u.settle=u:=by
      (cases u <;> try rfl);rename_i c n k;cases k <;> first | rfl | simp [I.cQ] at hu
     exact ⟨S,fun _ _ h=>h,fun _ _ h=>.inl h,ah,aj.view hu,by rw [ai];exact aj,by rw [ai];exact aq⟩
    ·obtain ⟨cells,len,z,rfl⟩:∃ cells len z,u=.ax cells len (.uniq z):=by
      unfold I.cQ at hu;split at hu
      ·exact ⟨_,_,_,rfl⟩
      ·simp at hu
     obtain ⟨a7,aJ,aQ,cn,r1,r2,eI⟩:=ka ah aj aq;exact ⟨a7,aJ,aQ,ah.settle aJ (fun b o h=>(aQ b o h).imp id fun h=>⟨_,h,b6 0,cg 0⟩) cn,r1,r2,eI⟩
   (obtain ⟨a7,aJ,aQ,bV,dw,Dq,pO⟩:=first);have pV:a8 (fun i=>bA (i+1)) U J a7 w T hO:=by
    refine ⟨ay.len,fun i bF bm hu ae=>(ay.rel i bF bm hu ae).mono (Ext.refl J) fun b o ai=>⟨aJ b o ai,rfl⟩,fun i bF bm hu ae=>?_⟩;refine (ay.own i bF bm hu ae).mono (Ext.refl J) (fun b o ai=>⟨aJ b o ai,rfl⟩) fun b ag=>⟨ag,rfl,fun o ai=>?_⟩;rcases aQ b o ai with h | h
    ·exact h
    ·rw [ag] at h;injection h with h;exact absurd (aw _ _ h) (by omega)
   obtain ⟨S',dy,dm,b9,dX,c_⟩:=a9 hO (fun i=>bA (i+1)) a7 (fun i j h=>by have:=aw _ _ h;omega) (fun i=>b6 (i+1)) (fun i=>cg (i+1)) pV bV;have cl:∀ b o,a7 b o→S' b o∧w.cell? ⟨b,o,none⟩=w.cell? ⟨b,o,none⟩:=fun b o ai=>⟨dy b o ai,rfl⟩;refine ⟨S',fun b o h=>dy b o (aJ b o h),fun b o h=>?_,b9,?_,?_⟩
   ·rcases dm b o h with h | ⟨i,h⟩
    ·exact (aQ b o h).imp id fun h=>⟨0,h⟩
    ·exact .inr ⟨i+1,h⟩
   ·refine a8.cons (Dq.mono (Ext.refl J) cl) (pO.mono (Ext.refl J) cl fun b ag=>⟨ag,rfl,fun o h=>?_⟩) dX;rcases dm b o h with h | ⟨i,h⟩
    ·exact h
    ·rw [ag] at h;injection h with h;exact absurd (aw _ _ h) (by omega)
   ·exact a8.cons (dw.mono (Ext.refl J) cl) (aV.b3 (I.dg _)) c_
theorem yD (ah:aK B U J S w H) (o:Obj):bh U S w U S (w.alloc o) :=
 ⟨rfl,rfl,rfl,by simp,fun b ag _=>heap_alloc_old w o b ag,fun b cL ai=>⟨ai,by obtain ⟨v,ae⟩:=ah.cc b cL ai;exact oW o (mJ ae)⟩,fun _ _ ai=>.inl ai,fun _ ag=>.inl ag⟩
theorem Dt (ah:aK B U J S w H) (o:Obj):aK B U J S (w.alloc o) H:=by
 have aA:=yD ah o;refine ah.frame aA (fun b l ag _=>⟨ag,heap_alloc_old w o b (ah.base b l ag).2,fun _ h=>h⟩) (fun b cL ai=>?_) fun b l ag=>?_
 ·obtain ⟨v,ae⟩:=ah.cc b cL ai;exact ⟨v,((aA.set b cL ai).2).trans ae⟩
 ·have:=ah.base b l ag;exact ⟨this.1,by simp;omega⟩
theorem zG (ah:aK B U J S w H) {id b:Nat} {L:Loop} (fg:U b=some (.obj id)) (fp:w.heap[b]?=some (.loop L)) (ir:Loop) :
  bh U S w U S (w.putObj b (.loop ir))∧aK B U J S (w.putObj b (.loop ir)) (H.set id .dead)∧(w.putObj b (.loop ir)).heap[b]?=some (.loop ir):=by
 have ag:b<w.heap.size:=(sY.1 fp).1;have bO:(w.putObj b (.loop ir)).heap.size=w.heap.size:=by simp [World.putObj]
 have h6:∀ au,au≠b→(w.putObj b (.loop ir)).heap[au]?=w.heap[au]?:=fun au h=>World.putObj_heap_other h;have bN:∀ au o,S au o→au≠b:=fun au o ai e=>by
  subst e;obtain ⟨v,ae⟩:=ah.cc au o ai;simp [World.cell?,fp] at ae
 have bw:∀ au o,au≠b→(w.putObj b (.loop ir)).cell? ⟨au,o,none⟩=w.cell? ⟨au,o,none⟩:=fun au o h=>by
  simp only [World.cell?,h6 au h]
 have aA:bh U S w U S (w.putObj b (.loop ir)):=by
  refine ⟨rfl,rfl,rfl,by omega,fun au bt aN=>h6 au (fun e=>by subst e;rw [fg] at aN;cases aN),fun au o ai=>⟨ai,bw au o (bN au o ai)⟩,fun _ _ h=>.inl h,fun _ h=>.inl h⟩
 refine ⟨aA,⟨by simpa using ah.cD,fun bz o aq=>?_,fun au o ai=>?_,fun au l bt=>?_,by rw [bO];exact ah.cV⟩,World.putObj_heap_same ag⟩
 ·by_cases cr:bz=id
  ·subst cr;(have aS:bz<H.length:=by have:=(sb.1 aq).1;simpa using this);rw [si aS] at aq;cases aq;trivial
  ·rw [sj (Ne.symm cr)] at aq;refine (ah.obj bz o aq).frame (Ext.refl J) aA.set fun au l bt ao=>⟨bt,h6 au (fun e=>?_),fun _ h=>h⟩;subst e;rw [fg] at bt;cases bt;rcases ao with h | ⟨j,h⟩
   ·cases h;exact cr rfl
   ·cases h
 ·obtain ⟨v,ae⟩:=ah.cc au o ai;exact ⟨v,(bw au o (bN au o ai)).trans ae⟩
 ·rw [bO];exact ah.base au l bt
theorem D2 (ah:aK B U J S w H) {id b:Nat} {L:Loop} {st:LoopState} {cE:Option Code} {fn:FuncId} {T:List I} {bn:List Nat} {as cp:Code} {an:db}
  (aE:H[id]?=some (.loop st cE fn T bn as cp an)) (ag:J[id]?=some b) (fp:w.heap[b]?=some (.loop L)) (hp:LoopState) (hk:Option Code) :
  bh U S w U S (w.putObj b (.loop { L with state:=hp,pending:=hk }))∧aK B U J S (w.putObj b (.loop { L with state:=hp,pending:=hk })) (H.set id (.loop hp hk fn T bn as cp an)) ∧
   (w.putObj b (.loop { L with state:=hp,pending:=hk })).heap[b]?=some (.loop { L with state:=hp,pending:=hk }):=by
 obtain ⟨lx,ly,au,oK,aC,aI,aR,bk,bc,bf,c9,dr,dS⟩:=ah.obj id _ aE;rw [ag] at aC;cases aC;rw [fp] at aR;cases aR;obtain ⟨aA,b9,jH⟩:=zG ah aI fp { L with state:=hp,pending:=hk };refine ⟨aA,⟨by simpa using b9.cD,fun bz o aq=>?_,b9.cc,b9.base,b9.cV⟩,jH⟩;by_cases cr:bz=id
 ·subst cr;rw [si (sb.1 aE).1] at aq;cases aq;exact ⟨lx,ly,b,_,ag,aI,jH,rfl,rfl,trivial,c9,fun i u v hu ae=>⟨(dr i u v hu ae).1,(dr i u v hu ae).2.mono (Ext.refl J) aA.set⟩,dS⟩
 ·refine b9.obj bz o ?_;rw [sj (Ne.symm cr)] at aq ⊢;exact aq
end
end Go.Proofs.YtfakoboiahbhaaaGreat.Ab


namespace Go.Proofs.YtfakoboiahbhaaaGreat.Ab
open Go
section
variable {P:Program} {B N:Nat} {J:List Nat} {w:World} {H:List ar} {U:Nat→Option aH} {S:Nat→Nat→Prop}
theorem Gq {bA:Nat→aH} {us:List I} {xs:List Value} (ao:us.length=xs.length) (h:∀ (j:Nat) (u:I) (v:Value),us[j]?=some u→xs[j]?=some v→Rel J S w u v∧u.plain=true):a8 bA U J S w us xs :=
 ⟨ao,fun j u v hu ae=>(h j u v hu ae).1,fun j u v hu ae=>aV.b3 (h j u v hu ae).2⟩
def xk (F:Fence) (P:Program) (Q:Exit→Act→World→Prop) (cE:Option Code) (aM:Act) (w':World):Prop:=match cE with
 | none=>Q .normal aM w'
 | some c=>c.wpIn F 0 P Q aM w'
theorem Ag {F:Fence} (bE:ei F) {C:b7} (bu:da P C) {T:List I} {a:Act} (aL:cv B N U J S w ⟨T,H⟩ a) (mr:a8 .slot U J S w (T.map I.view) a.tmps.toList)
  {lo k:Nat} {first cap:List I} {vs ws:Array Value} (aP:Rel J S w (.func k first cap) (.func (.func k) vs ws))
  {as cp:Code} {an:db} {fn fn':FuncId} {bn:Array Tmp} (a_:codeOk an as=true) (ba:codeOk an cp=true) {r:I} {H':List ar}
  (h:C (.fn k) (first++[.yield H.length]++cap) (H++[.loop .ready none fn (T.map I.view) bn.toList as cp an]) lo=some (r,H'))
  {st:LoopState} {cE:Option Code} {f_:FuncId} {dR:List I} {dN:List Nat} {gz gA:Code} {gx:db} (ao:H'[H.length]?=some (.loop st cE f_ dR dN gz gA gx)) (cB:st≠.busy)
  {bG:World} (nu:bh (dk U) S w (dk U) S bG) (bV:aK B (dk U) J S bG H) {mark:List Deferred} {dfr:Nat} (hm:Marks N (dk U) bG mark) (y6:∀ d∈mark,∀ r,d.target=.collected r→U r=none∧w.heap.size≤r) {Q:Exit→Act→World→Prop}
  (bo:∀ aM w',Step B N U J S w ⟨T,H'.set H.length .dead⟩ aM w'→xk F P Q cE aM w') :
  CallsIn F 0 P k (vs++#[Value.func (.yield bG.heap.size) #[] #[]]++ws) (bG.alloc (.loop { state:=.ready,pending:=none,fn:=fn',tmps:=a.tmps,params:=bn,assign:=as,body:=cp,defers:=dfr }))
   (rangePost F 0 P bG.heap.size Q { a with defers:=mark++a.defers }):=by
 generalize fp:({ state:=.ready,pending:=none,fn:=fn',tmps:=a.tmps,params:=bn,assign:=as,body:=cp,defers:=dfr }:Loop)=L;have yE:=kr bV (.loop L) (.obj H.length);have Dr:=nL bV (.loop L) (.obj H.length);have mx:Ext J (J++[bG.heap.size]):=Ext.append J _;have pd:∀ b o,S b o→S b o∧(bG.alloc (.loop L)).cell? ⟨b,o,none⟩=w.cell? ⟨b,o,none⟩:=(nu.trans yE).set;have CA:=Dr.push bG.heap.size (o:=.loop .ready none fn (T.map I.view) bn.toList as cp an)
  ⟨a_,ba,bG.heap.size,L,Ext.last bV _,by simp [lay],World.alloc_heap_new bG _,by rw [←fp],by rw [←fp],trivial,by rw [←fp];simpa using mr.len.symm,
   fun i u v hu ae=>by
    rw [←fp] at ae;refine ⟨?_,((mr.rel i u v hu (by simpa using ae)).mono mx pd)⟩;simp only [ss,sa] at hu;obtain ⟨x,_,rfl⟩:=hu
    exact I.dg x,by rw [←fp],by rw [←fp],by rw [←fp]⟩
 have eS:nc (lay (dk U) bG.heap.size (.obj H.length)):=fun b i ag=>by
  unfold lay at ag;split at ag
  ·simp at ag
  ·exact C5 b i ag
 have CH:a8 (fun i=>.arg i) (lay (dk U) bG.heap.size (.obj H.length)) (J++[bG.heap.size]) S (bG.alloc (.loop L)) (first++[.yield H.length]++cap) (vs.toList++[Value.func (.yield bG.heap.size) #[] #[]]++ws.toList):=by
  cases aP with
  | func _ _ _ _ _ aJ aQ bR bY r1 r2 =>
    refine Gq (by simp [aJ,aQ]) fun j u v hu ae=>?_;rcases sT j first.length with ad | ad
    ·rw [sD,sy ad] at hu;rw [sD,sy (by simp;omega)] at ae;exact ⟨(r1 j u v hu (by simpa using ae)).mono mx pd,bR u (sH hu)⟩
    ·rw [sD,sJ ad] at hu;rw [sD,sJ (by simp;omega)] at ae;(have bO:vs.toList.length=first.length:=by simp [aJ]);rw [bO] at ae;rcases sT (j-first.length) 1 with af | af
     ·(have aU:j-first.length=0:=by omega);rw [aU] at hu ae;simp at hu ae;subst hu ae;exact ⟨.yield _ _ (Ext.last bV _),rfl⟩
     ·rw [sJ (by simpa using af)] at hu ae;exact ⟨(r2 _ u v hu (by simpa using ae)).mono mx pd,bY u (sH hu)⟩
 have fb:=(bu.ok h).2 B _ _ S _ _ CA eS CH;have hB:(vs.toList++[Value.func (.yield bG.heap.size) #[] #[]]++ws.toList).toArray=vs++#[Value.func (.yield bG.heap.size) #[] #[]]++ws:=by
  apply Array.ext';simp
 rw [hB] at fb;refine bE.calls (CallsIn.mono fb fun e bX he=>?_);cases e with
 | panicked c=>exact he.elim
 | outgrown=>exact he.elim
 | returned x =>
   obtain ⟨bq,cj,bK,xf,ek,cm,_,_⟩:=he;obtain ⟨_,_,au,jm,aC,aI,aR,bk,bc,_⟩:=cm.obj _ _ ao;have dE:cj[H.length]?=some bG.heap.size:=xf _ _ (Ext.last bV _);rw [dE] at aC;cases aC;obtain ⟨Cj,Cz,_⟩:=zG cm aI aR { jm with state:=.exhausted };have lW:bh (dk U) S bG bq bK (bX.putObj bG.heap.size (.loop { jm with state:=.exhausted })):=(yE.trans ek).trans Cj;obtain ⟨q1,aW⟩:=z0 none aL (mx.trans xf) (nu.trans lW) Cz (.junk undef) (aV.b3 rfl);refine ⟨jm.pending,_,run_endLoop aR (by rw [bk];exact cB),?_⟩;rw [←bc] at bo;refine bo _ _ ⟨_,cj,bK,mx.trans xf,q1,⟨aW.T,aW.H,aW.M.1,fun d a2=>?_,List.pairwise_append.2 ⟨hm.2.2,aW.M.2.2,fun d a2 gX nz e=>?_⟩⟩⟩
   rotate_left
   ·obtain ⟨hK,de,_⟩:=hm.2.1 d a2;obtain ⟨r1,b6,_,_,Eo⟩:=aL.M.2.1 gX nz;have:=(y6 d a2 hK de).2;have:=(sY.1 Eo).1;rw [de,b6] at e;cases e;omega
   rcases List.mem_append.1 a2 with a2 | a2
   ·obtain ⟨hK,de,df,jX,kX⟩:=hm.2.1 d a2;have dw:hK<bG.heap.size:=(sY.1 kX).1;refine ⟨hK,de,df,?_,(lW.cC hK dw jX).trans kX⟩;have aU:=(y6 d a2 hK de).1;have af:bq hK=none:=by
     cases bL:bq hK with
     | none=>rfl
     | some l =>
       rcases lW.own hK (by simp [bL]) with bS | bS
       ·exact absurd jX bS
       ·omega
    simp [back,aU,af]
   ·exact aW.M.2.1 d a2
end
end Go.Proofs.YtfakoboiahbhaaaGreat.Ab


namespace Go.Proofs.YtfakoboiahbhaaaGreat.Ab
open Go
def toExit:cz→Exit
 | .normal=>.normal
 | .ret=>.ret
 | .exit id=>.exit id
def jl (F:Fence) (rl:Option Nat) (J:List Nat):Prop:=(rl=none∧F=Fence.wide)∨∃ l b,rl=some l∧J[l]?=some b∧F=Fence.wide.inRound b
theorem jl.lX {F:Fence} {rl:Option Nat} {J:List Nat} (h:jl F rl J):ei F:=by
 rcases h with ⟨_,rfl⟩ | ⟨l,b,_,_,rfl⟩
 ·exact .inl rfl
 ·exact .inr ⟨b,rfl⟩
theorem jl.ext {F:Fence} {rl:Option Nat} {J bU:List Nat} (h:jl F rl J) (bJ:Ext J bU):jl F rl bU:=by
 rcases h with h | ⟨l,b,ad,af,aG⟩
 ·exact .inl h
 ·exact .inr ⟨l,b,ad,bJ _ _ af,aG⟩
theorem ks {p:Nat→Prop} (h:∃ n,p n):∃ n,p n∧∀ m,p m→n≤m:=by
 obtain ⟨n,aN⟩:=h
 induction n using Nat.strongRecOn with
 | _ n a9 =>
   by_cases ao:∃ m,m<n∧p m
   ·obtain ⟨m,hm,aB⟩:=ao;exact a9 m hm aB
   ·exact ⟨n,aN,fun m hm=>Nat.le_of_not_lt fun aS=>ao ⟨m,aS,hm⟩⟩
section
variable {P:Program}
theorem D1 {F:Fence} {c:Code} {f:a6→Option (cz×a6)} {e:cz} {aF:a6} {Q:Exit→Act→World→Prop} {B N:Nat} {J:List Nat} {w:World} {U:Nat→Option aH} {S:Nat→Nat→Prop} {s:a6} {a:Act} {n:Nat}
  (h:ia f n s=some (e,aF)) (aL:cv B N U J S w s a) (bo:∀ aM w',Step B N U J S w aF aM w'→Q (toExit e) aM w')
  (kz:∀ (s1:a6) (e1:cz) (s2:a6),f s1=some (e1,s2)→∀ (cF:Exit→Act→World→Prop) (aC:Act) (bG:World),(∀ l a w,cF (.goto l) a w→Q (.goto l) a w)→Step B N U J S w s1 aC bG →
   (∀ aM w',Step B N U J S w s2 aM w'→cF (toExit e1) aM w')→c.wpIn F 0 P cF aC bG):(Code.loop c).wpIn F 0 P Q a w:=by
 classical
 let Inv:Nat→Act→World→Prop:=fun n aM w'=>∃ s1,ia f n s1=some (e,aF)∧Step B N U J S w s1 aM w'
 let gp:Act→World→Nat:=fun aM w'=>if h:∃ n,Inv n aM w' then Classical.choose (ks h) else 0
 have my:∀ aM w',(∃ n,Inv n aM w')→Inv (gp aM w') aM w'∧∀ m,Inv m aM w'→gp aM w'≤m:=fun aM w' h=>by
  have:gp aM w'=Classical.choose (ks h):=by simp only [gp,dif_pos h]
  rw [this];exact vG (ks h)
 refine wpIn_loop (fun aM w'=>∃ n,Inv n aM w') gp ⟨n,s,h,Step.here aL⟩ fun aC bG kv=>?_;obtain ⟨⟨s1,ad,gG⟩,_⟩:=my aC bG kv;cases aN:gp aC bG with
 | zero=>rw [aN] at ad;simp [ia] at ad
 | succ m =>
   rw [aN] at ad;simp only [ia] at ad;split at ad
   ·rename_i s2 pt;refine kz s1 .normal s2 pt _ aC bG (fun l a w h=>h) gG fun aM w' dL=>?_;have hinv:Inv m aM w':=⟨s2,ad,dL⟩;exact ⟨⟨m,hinv⟩,Nat.lt_succ_of_le ((my aM w' ⟨m,hinv⟩).2 m hinv)⟩
   ·rename_i eS;refine kz s1 e aF ad _ aC bG (fun l a w h=>h) gG fun aM w' dL=>?_;cases e with
    | normal=>exact absurd ad (eS aF)
    | ret=>exact bo aM w' dL
    | exit id=>exact bo aM w' dL
theorem nv {C:b7} (bu:da P C) (eo:P.follows .mixedOrders=true) {A:db} {fn:FuncId} {lo d:Nat} {rl:Option Nat} :
  ∀ (c:Code) (a1:Nat) (s:a6) (e:cz) (aF:a6),exec P A C fn lo d rl c a1 s=some (e,aF)→codeOk A c=true →
    ∀ (F:Fence) (Q:Exit→Act→World→Prop) (B N:Nat) (J:List Nat) (w:World) (U:Nat→Option aH) (S:Nat→Nat→Prop) (a:Act),jl F rl J→(∀ l a w,¬ Q (.goto l) a w) →
      cv B N U J S w s a→(∀ aM w',Step B N U J S w aF aM w'→Q (toExit e) aM w')→c.wpIn F 0 P Q a w:=by
 intro c
 induction c with
 | skip =>
   intro a1 s e aF h _ F Q B N J w U S a bE aO aL bo;simp only [exec,Option.some.injEq,Prod.mk.injEq] at h;obtain ⟨rfl,rfl⟩:=h;exact wpIn_skip (bo a w (Step.here aL))
 | label l =>
   intro a1 s e aF h _ F Q B N J w U S a bE aO aL bo;simp only [exec,Option.some.injEq,Prod.mk.injEq] at h;obtain ⟨rfl,rfl⟩:=h;exact wpIn_label (bo a w (Step.here aL))
 | ret =>
   intro a1 s e aF h _ F Q B N J w U S a bE aO aL bo;simp only [exec,Option.some.injEq,Prod.mk.injEq] at h;obtain ⟨rfl,rfl⟩:=h;exact wpIn_ret (bo a w (Step.here aL))
 | exit id =>
   intro a1 s e aF h _ F Q B N J w U S a bE aO aL bo;simp only [exec,Option.some.injEq,Prod.mk.injEq] at h;obtain ⟨rfl,rfl⟩:=h;exact wpIn_exit (bo a w (Step.here aL))
 | goto l=>intro a1 s e aF h;simp [exec] at h
 | refuse y=>intro a1 s e aF h;simp [exec] at h
 | region id ops draw =>
   intro a1 s e aF h bP F Q B N J w U S a bE aO aL bo;simp only [exec] at h;split at h
   ·cases h
   rename_i kN;simp only [sa,Prod.mk.injEq] at h;obtain ⟨s1,h,rfl,rfl⟩:=h;refine An bE.lX eo bu (fun a2=>?_) h (aL.cC _ _) bo;simp only [codeOk,xE,kN] at bP;simpa [a2] using bP
 | seq x y nT xj =>
   intro a1 s e aF h bP F Q B N J w U S a bE aO aL bo;simp only [codeOk,sx] at bP;simp only [exec] at h;split at h
   ·rename_i s1 ad;refine wpIn_seq (nT _ _ _ _ ad bP.1 F _ B N J w U S a bE (fun l a w=>aO l a w) aL fun aM w' ai=>?_);obtain ⟨b4,c0,a7,aJ,aQ,cf⟩:=ai;exact xj _ _ _ _ h bP.2 F Q B N c0 w' b4 a7 aM (bE.ext aJ) aO cf fun gT hq dL=>bo gT hq (dL.trans aJ aQ)
   ·rename_i eS;refine wpIn_seq (nT _ _ _ _ h bP.1 F _ B N J w U S a bE (fun l a w=>aO l a w) aL fun aM w' ai=>?_);cases e with
    | normal=>exact absurd h (eS aF)
    | ret=>exact bo aM w' ai
    | exit id=>exact bo aM w' ai
 | cond x t f nS nR =>
   intro a1 s e aF h bP F Q B N J w U S a bE aO aL bo;simp only [codeOk,sx] at bP;simp only [exec] at h;have aj:=aL.aA x;split at h
   ·rename_i ag;rw [ag] at aj;exact wpIn_cond_true aj.hY (nS _ _ _ _ h bP.1 F Q B N J w U S a bE aO aL bo)
   ·rename_i ag;rw [ag] at aj;exact wpIn_cond_false aj.hY (nR _ _ _ _ h bP.2 F Q B N J w U S a bE aO aL bo)
   ·simp at h
 | block id c a9 =>
   intro a1 s e aF h bP F Q B N J w U S a bE aO aL bo;simp only [exec] at h;refine wpIn_block ?_;split at h
   ·rename_i bz s1 ad;refine a9 _ _ _ _ ad bP F _ B N J w U S a bE (fun l a w=>aO l a w) aL fun aM w' ai=>?_;by_cases aE:bz=id
    ·simp only [aE,if_true,Option.some.injEq,Prod.mk.injEq] at h;obtain ⟨rfl,rfl⟩:=h;simp only [toExit,Exit.inBlock,aE,if_true];exact bo aM w' ai
    ·simp only [aE,if_false,Option.some.injEq,Prod.mk.injEq] at h;obtain ⟨rfl,rfl⟩:=h;simp only [toExit,Exit.inBlock,aE,if_false];exact bo aM w' ai
   ·rename_i eS;refine a9 _ _ _ _ h bP F _ B N J w U S a bE (fun l a w=>aO l a w) aL fun aM w' ai=>?_;cases e with
    | normal=>exact bo aM w' ai
    | ret=>exact bo aM w' ai
    | exit bz=>exact absurd h (eS bz aF)
 | scope c a9 =>
   intro a1 s e aF h bP F Q B N J w U S a bE aO aL bo;simp only [exec] at h;exact BA (a9 _ _ _ _ h bP F Q B N J w U S a bE aO aL bo) aO
 | loop c a9 =>
   intro a1 s e aF h bP F Q B N J w U S a bE aO aL bo;simp only [exec] at h;refine D1 h aL bo fun s1 e1 s2 ad cF aC bG Dn gG pb=>?_;obtain ⟨b4,c0,a7,aJ,aQ,cf⟩:=gG;exact a9 _ _ _ _ ad bP F cF B N c0 bG b4 a7 aC (bE.ext aJ) (fun l a w aZ=>aO l a w (Dn l a w aZ)) (cf.cC _ _) fun aM w' dL=>pb aM w' (dL.trans aJ aQ)
 | rangeFunc g bn as cp fh fs =>
   intro a1 s e aF h bP F Q B N J w U S a bE aO aL bo;simp only [codeOk,sx] at bP;simp only [exec] at h;split at h
   ·(rename_i k first cap g4 ma);have zg:=aL.aA g;rw [ma] at zg;split at h
    ·rename_i r H' al;split at h
     ·rename_i st cE f_ dR dN gz gA gx ao;split at h
      ·simp at h
      ·rename_i cB;have pb:∀ aM w',Step B N U J S w ⟨s.T.map I.settle,H'.set s.H.length .dead⟩ aM w'→xk F P Q cE aM w':=fun aM w' ai=>by
        split at h
        ·simp only [Option.some.injEq,Prod.mk.injEq] at h;obtain ⟨rfl,rfl⟩:=h;exact bo aM w' ai
        ·simp only [Option.some.injEq,Prod.mk.injEq] at h;obtain ⟨rfl,rfl⟩:=h;exact wpIn_ret (bo aM w' ai)
        ·simp only [Option.some.injEq,Prod.mk.injEq] at h;obtain ⟨rfl,rfl⟩:=h;exact wpIn_exit (bo aM w' ai)
        ·simp at h
       obtain ⟨a7,dy,dm,bV,ky,pe⟩:=A8 s.T a.tmps.toList .slot S (fun i j h=>by cases h;rfl) (fun i id=>by simp) (fun i id j=>by simp) aL.T aL.H;have dv:bh U S w U a7 w:=bh.settle dy fun b o h=>(dm b o h).imp id fun ⟨i,h⟩=>⟨_,h⟩;have cf:cv B N U J a7 w ⟨s.T.map I.settle,s.H⟩ a:=⟨ky,bV,aL.M.aA dv⟩;have kO:(s.T.map I.settle).map I.view=s.T.map I.view:=by
        rw [List.map_map];apply tz;intro u _;exact ya u
       (have mr:a8 .slot U J a7 w ((s.T.map I.settle).map I.view) a.tmps.toList:=by rw [kO];exact pe);rw [←kO] at al;have yS:∀ aM w',Step B N U J a7 w ⟨s.T.map I.settle,H'.set s.H.length .dead⟩ aM w'→xk F P Q cE aM w':=fun aM w' ai=>pb aM w' (Step.trans (Ext.refl J) dv ai);have dw:=zg.mono (Ext.refl J) (S':=a7) (w':=w) (fun b o h=>⟨dy b o h,rfl⟩);obtain ⟨⟨f0,CU,iG,Dg⟩,_⟩:=bu.ok al;have yT:U w.heap.size=none:=by
        cases ak:U w.heap.size with
        | none=>rfl
        | some l=>have:=(aL.H.base _ l ak).2;omega
       generalize C3:a.eval g=GK at dw;cases dw with
       | func _ _ _ vs ws aJ aQ bR bY r1 r2 =>
         refine wpIn_rangeFunc fun fn' _=>?_;have kL:∀ (l:Nat) (w0:World),(resolve a.eval (rangeCall g l) 0).run P w0=.ok { target:=.fn (.func k) ws,args:=vs++#[Value.func (.yield l) #[] #[]] } w0:=fun l w0=>by
          have:(#[Operand.const (Value.func (.yield l) #[] #[])]:Array Operand).map a.eval=#[Value.func (.yield l) #[] #[]]:=by simp [Act.eval]
          simp only [resolve,rangeCall,C3,Deferred.ofValue,this,Sem.run_pure]
         have hinv:∀ (l:Nat) (w0:World),(invoke (.fn (.func k) ws) (vs++#[Value.func (.yield l) #[] #[]])).run P w0=.ok (.enter k (vs++#[Value.func (.yield l) #[] #[]]++ws)) w0:=fun l w0=>by
          simp only [invoke,AU CU iG Dg]
         (have py:Rel J a7 w (.func k first cap) (.func (.func k) vs ws):=.func k first cap vs ws aJ aQ bR bY r1 r2);(have yW:F.depth.isSome=true→1≤0:=fun iI=>by rw [bE.lX.depth] at iI;cases iI);rcases bE with ⟨rfl,rfl⟩ | ⟨ct,dB,rfl,ag,rfl⟩
         ·have cm:=mq cf.H;have fb:=Ag (.inl rfl) bu cf mr py bP.1 bP.2 al ao cB (yD cm (.deferred (some []))) (Dt cm (.deferred (some []))) (fn':=fn') (dfr:=w.heap.size)
           (mark:=[{ target:=.collected w.heap.size,args:=#[] }]) ⟨by have:=aL.M.1;simp;omega,fun d a2=>by
            simp only [sO] at a2;subst a2;exact ⟨w.heap.size,rfl,aL.M.1,nE yT,World.alloc_heap_new w _⟩,List.pairwise_singleton _ _⟩ (fun d a2 hK nK=>by
            simp only [sO] at a2;subst a2
            cases nK;exact ⟨yT,sd _⟩) yS
          (have bO:(w.alloc (.deferred (some []))).heap.size=w.heap.size+1:=by simp);rw [bO] at fb;exact ⟨_,_,_,_,_,k,_,_,run_enterLoop_outer fn' a.tmps bn as cp,kL _ _,fun _ _=>trivial,hinv _ _,yW,fb⟩
         ·have cm:=mq cf.H;simp only [inLoop] at g4;split at g4
          ·rename_i bB;obtain ⟨_,_,au,oK,aC,aI,aR,_⟩:=aL.H.obj ct _ bB;rw [ag] at aC;cases aC;have fb:=Ag (.inr ⟨dB,rfl⟩) bu cf mr py bP.1 bP.2 al ao cB (bh.refl _ _ _) cm (fn':=fn') (dfr:=oK.defers)
            (mark:=[]) ⟨aL.M.1,fun d a2=>by simp at a2,List.Pairwise.nil⟩ (fun d a2=>by simp at a2) yS
           exact ⟨_,_,_,_,_,k,_,_,run_enterLoop_inner aR fn' a.tmps bn as cp,kL _ _,fun _ _=>trivial,hinv _ _,yW,fb⟩
          ·simp at g4
     ·simp at h
    ·simp at h
   ·simp at h
end
end Go.Proofs.YtfakoboiahbhaaaGreat.Ab


namespace Go.Proofs.YtfakoboiahbhaaaGreat.Ab
open Go
def hP (U:Nat→Option aH):Nat→Option aH:=fun b=>match U b with
 | some (.arg i)=>some (.slot i)
 | some (.obj id)=>some (.obj id)
 | some (.cell id j)=>some (.cell id j)
 | _=>none
def k8 (t:Nat) (U:Nat→Option aH):Nat→Option aH:=fun b=>match U b with
 | some (.slot i)=>if i=t then some .res else none
 | some (.obj id)=>some (.obj id)
 | some (.cell id j)=>some (.cell id j)
 | _=>none
section
variable {P:Program} {B N:Nat} {J:List Nat} {w:World} {H:List ar} {U:Nat→Option aH} {S:Nat→Nat→Prop}
theorem relabel {az:Nat→Option aH} (ah:aK B U J S w H) (ad:∀ b,U b=none→az b=none) (af:∀ b l,U b=some l→((∃ id,l=.obj id)∨∃ id j,l=.cell id j)→az b=some l) :
  bh U S w az S w∧aK B az J S w H:=by
 have aN:∀ b,az b≠none→U b≠none:=fun b h aU=>h (ad b aU);refine ⟨⟨rfl,rfl,rfl,sd _,fun _ _ _=>rfl,fun _ _ h=>⟨h,rfl⟩,fun _ _ h=>.inl h,fun b h=>.inl (aN b h)⟩,⟨ah.cD,fun id o aq=>?_,ah.cc,fun b l ag=>?_,ah.cV⟩⟩
 ·refine (ah.obj id o aq).frame (Ext.refl J) (fun _ _ h=>⟨h,rfl⟩) fun b l ag ao=>⟨af b l ag ?_,rfl,fun _ h=>h⟩;rcases ao with rfl | ⟨j,rfl⟩
  ·exact .inl ⟨id,rfl⟩
  ·exact .inr ⟨id,j,rfl⟩
 ·cases h:U b with
  | none=>rw [ad b h] at ag;cases ag
  | some l'=>exact ah.base b l' h
theorem oE (ah:aK B U J S w H):bh U S w (hP U) S w∧aK B (hP U) J S w H :=
 relabel ah (fun b h=>by simp [hP,h]) fun b l h ao=>by
  rcases ao with ⟨id,rfl⟩ | ⟨id,j,rfl⟩ <;> simp [hP,h]
theorem Ey (t:Nat) (ah:aK B U J S w H):bh U S w (k8 t U) S w∧aK B (k8 t U) J S w H :=
 relabel ah (fun b h=>by simp [k8,h]) fun b l h ao=>by
  rcases ao with ⟨id,rfl⟩ | ⟨id,j,rfl⟩ <;> simp [k8,h]
theorem x5 (ah:aK B U J S w H) {args:List I} {vs:List Value} (ae:a8 (fun i=>.arg i) U J S w args vs) (n:Nat) :
  cv B w.heap.size (hP U) J S w ⟨args++List.replicate (n-args.length) .junk,H⟩ { tmps:=vs.toArray++Array.replicate (n-vs.toArray.size) undef,defers:=[] }:=by
 have ao:=ae.len;refine ⟨?_,(oE ah).2,sd _,fun d a2=>by simp at a2,List.Pairwise.nil⟩;have xa:(vs.toArray++Array.replicate (n-vs.toArray.size) undef).toList=vs++List.replicate (n-vs.length) undef:=by simp
 simp only [xa];have key:∀ (i:Nat) (u:I) (v:Value),(args++List.replicate (n-args.length) .junk)[i]?=some u→(vs++List.replicate (n-vs.length) undef)[i]?=some v →
   Rel J S w u v∧aV (hP U) J S w (.slot i) u v:=fun i u v hu ak=>by
  rcases sT i args.length with ad | ad
  ·rw [sy ad] at hu;rw [sy (by omega)] at ak;exact ⟨ae.rel i u v hu ak,(ae.own i u v hu ak).mono (Ext.refl J) (fun _ _ h=>⟨h,rfl⟩) fun b ag=>⟨by simp [hP,ag],rfl,fun _ h=>h⟩⟩
  ·rw [sJ ad] at hu;rw [List.getElem?_replicate] at hu;split at hu
   ·cases hu;exact ⟨.junk v,aV.b3 rfl⟩
   ·simp at hu
 exact ⟨by simp [ao],fun i u v hu ak=>(key i u v hu ak).1,fun i u v hu ak=>(key i u v hu ak).2⟩
theorem nW {fn:Func} {tmps:Array Value} {R:Ending→World→Prop} {lA:Nat→Option aH} {S0:Nat→Nat→Prop} {w0:World} :
  ∀ (ds:List Deferred) (w:World),(∀ d∈ds,∃ r,d.target=.collected r∧w0.heap.size≤r∧U r=none∧w.heap[r]?=some (.deferred (some [])))→ds.Pairwise (fun a b=>a.target≠b.target)→bh lA S0 w0 U S w→aK B U J S w H →
    (∀ w',(∀ b l,U b=some l→w'.heap[b]?=w.heap[b]?)→(∀ b o,S b o→w'.cell? ⟨b,o,none⟩=w.cell? ⟨b,o,none⟩)→bh lA S0 w0 U S w'→aK B U J S w' H→∃ v,(results fn tmps).run P w'=.ok v w'∧R (.returned v) w')→LeavesInM Fence.wide 0 P fn tmps R ds .returning w
 | [],w,_,_,aA,ah,jB=>jB w (fun _ _ _=>rfl) (fun _ _ _=>rfl) aA ah
 | d::ds,w,a2,aB,aA,ah,jB=>by
   obtain ⟨r,ad,af,aG,a5⟩:=a2 d (by simp);have aj:r<w.heap.size:=(sY.1 a5).1;(have bO:(w.putObj r (.deferred none)).heap.size=w.heap.size:=by simp [World.putObj]);have h6:∀ b,b≠r→(w.putObj r (.deferred none)).heap[b]?=w.heap[b]?:=fun b h=>World.putObj_heap_other h;have bN:∀ b o,S b o→b≠r:=fun b o ai e=>by
    subst e;obtain ⟨v,ae⟩:=ah.cc b o ai;simp [World.cell?,a5] at ae
   have bw:∀ b o,b≠r→(w.putObj r (.deferred none)).cell? ⟨b,o,none⟩=w.cell? ⟨b,o,none⟩:=fun b o h=>by
    simp only [World.cell?,h6 b h]
   (have kD:∀ b l,U b=some l→b≠r:=fun b l h e=>by subst e;rw [aG] at h;cases h);have dv:bh lA S0 w0 U S (w.putObj r (.deferred none)):=by
    refine ⟨aA.os,aA.tape,aA.output,by rw [bO];exact aA.size,fun b ag aN=>?_,fun b o ai=>?_,aA.fresh,aA.own⟩
    ·rw [h6 b (by omega)];exact aA.cC b ag aN
    ·obtain ⟨aJ,aQ⟩:=aA.set b o ai;exact ⟨aJ,(bw b o (bN b o aJ)).trans aQ⟩
   have cl:∀ b o,S b o→S b o∧(w.putObj r (.deferred none)).cell? ⟨b,o,none⟩=w.cell? ⟨b,o,none⟩:=fun b o ai=>⟨ai,bw b o (bN b o ai)⟩;have gC:aK B U J S (w.putObj r (.deferred none)) H :=
    ⟨ah.cD,fun id o aq=>(ah.obj id o aq).frame (Ext.refl J) cl fun b l ag _=>⟨ag,h6 b (kD b l ag),fun _ h=>h⟩,fun b o ai=>by
     obtain ⟨v,ae⟩:=ah.cc b o ai
     exact ⟨v,(bw b o (bN b o ai)).trans ae⟩,fun b l ag=>by rw [bO];exact ah.base b l ag,by rw [bO];exact ah.cV⟩
   refine ⟨by simp,.inl ⟨r,_,ad,run_takeDeferred a5,?_⟩⟩;have zc:=tB.1 aB;refine nW ds _ (fun gX nz=>?_) zc.2 dv gC (fun w' dd aJ aQ cn=>jB w' (fun b l h=>(dd b l h).trans (h6 b (kD b l h))) (fun b o h=>(aJ b o h).trans (bw b o (bN b o h))) aQ cn)
   ·obtain ⟨r',q1,aW,cx,dC⟩:=a2 gX (by simp [nz])
    have:r'≠r:=fun e=>zc.1 gX nz (by rw [ad,q1,e])
    exact ⟨r',q1,aW,cx,(h6 r' this).trans dC⟩
end
end Go.Proofs.YtfakoboiahbhaaaGreat.Ab


namespace Go.Proofs.YtfakoboiahbhaaaGreat.Ab
open Go
section
variable {P:Program} {B N:Nat} {J:List Nat} {w:World} {H:List ar} {U:Nat→Option aH} {S:Nat→Nat→Prop}
theorem o_ {bA:Nat→aH} {T:List I} {bg:Array Value} (bW:a8 bA U J S w T bg.toList) (t:Nat):Rel J S w (c3 T t) (bg.getD t undef)∧aV U J S w (bA t) (c3 T t) (bg.getD t undef):=by
 rw [f',sE];cases h:T[t]? with
 | none=>exact ⟨.junk _,aV.b3 rfl⟩
 | some u =>
   have ao:=bW.len;have aS:t<T.length:=(sb.1 h).1;(have mh:t<bg.size:=by rw [←Array.length_toList,←ao];exact aS);(have ak:bg.toList[t]?=some (bg.getD t undef):=by simp [sB,mh]);exact ⟨bW.rel t u _ h ak,bW.own t u _ h ak⟩
theorem mY (ah:aK B U J S w H) {T:List I} {bg:Array Value} (bW:a8 .slot U J S w T bg.toList) {g:ResultVar→Sem Value} (ca:∀ t,g (.tmp t)=pure (bg.getD t undef))
  (b5:∀ a t,g (.cell a t)=do loadVar t (←asAddr (bg.getD a undef))):∀ (rs:List ResultVar) (vs:List I),fk P H T rs=some vs →
  ∃ xs,(rs.mapM g).run P w=.ok xs w∧vs.length=xs.length∧∀ (j:Nat) (u:I) (x:Value),vs[j]?=some u→xs[j]?=some x→Rel J S w u x∧((u.plain=true∧True)∨∃ t,(u=c3 T t∧x=bg.getD t undef)∧aV U J S w (.slot t) u x)
 | [],vs,h=>by
   simp only [fk,Option.some.injEq] at h;subst h;exact ⟨[],by simp,rfl,by simp⟩
 | .tmp t::r,vs,h=>by
   simp only [fk,sa] at h;obtain ⟨cU,h,rfl⟩:=h;obtain ⟨xs,q1,aW,cx⟩:=mY ah bW ca b5 r cU h;obtain ⟨r1,r2⟩:=o_ bW t;refine ⟨bg.getD t undef::xs,by rw [v7];simp [ca,q1],by simp [aW],fun j u x hu ak=>?_⟩;cases j with
   | zero=>simp only [ud,Option.some.injEq] at hu ak;subst hu ak;exact ⟨r1,.inr ⟨t,⟨rfl,rfl⟩,r2⟩⟩
   | succ j=>exact cx j u x (by simpa using hu) (by simpa using ak)
 | .cell a t::r,vs,h=>by
   simp only [fk] at h;split at h
   ·rename_i v cU ae hG;simp only [Option.some.injEq] at h;subst h;obtain ⟨xs,q1,aW,cx⟩:=mY ah bW ca b5 r cU hG;have aj:=(o_ bW a).1;obtain ⟨x,aJ,aQ,cn⟩:=lj ah ae aj;have aB:∃ lJ,bg.getD a undef=.pointer (some lJ):=by
     unfold dP at ae;generalize bg.getD a undef=He at aj ⊢;split at ae
     ·rename_i heq;rw [heq] at aj;cases aj;exact ⟨_,rfl⟩
     ·rename_i heq;rw [heq] at aj;cases aj;exact ⟨_,rfl⟩
     ·simp at ae
    obtain ⟨lJ,aB⟩:=aB;rw [aB] at aJ;(have DM:(loadVar t lJ).run P w=.ok x w:=by simpa [Instr.loadAt,Instr.sureAddr] using aJ);refine ⟨x::xs,by rw [v7];simp [b5,aB,asAddr,DM,q1],by simp [aW],fun j u y hu ak=>?_⟩;cases j with
    | zero=>simp only [ud,Option.some.injEq] at hu ak;subst hu ak;exact ⟨aQ,.inl ⟨cn,trivial⟩⟩
    | succ j=>exact cx j u y (by simpa using hu) (by simpa using ak)
   ·simp at h
theorem xI (ah:aK B U J S w H) {T:List I} {bg:Array Value} (bW:a8 .slot U J S w T bg.toList) {fn:Func} {vs:List I} (h:fk P H T fn.results.toList=some vs) :
  ∃ v,(results fn bg).run P w=.ok v w∧a0 B U J S w H (hj vs) v w:=by
 have run:∀ xs,(fn.results.toList.mapM (fun (x:ResultVar)=>match x with | .tmp t=>(pure (bg.getD t undef):Sem Value) | .cell a t=>do loadVar t (←asAddr (bg.getD a undef)))).run P w=.ok xs w →
   (results fn bg).run P w=.ok (if h:xs.toArray.size=1 then xs.toArray[0] else .tuple xs.toArray) w:=fun xs ak=>by
  have aO:results fn bg=(do
    let vs ←fn.results.mapM (fun (x:ResultVar)=>match x with | .tmp t=>(pure (bg.getD t undef):Sem Value) | .cell a t=>do loadVar t (←asAddr (bg.getD a undef)))
    pure (if h:vs.size=1 then vs[0] else .tuple vs)):=by
   unfold results;congr 1
  rw [aO,Array.mapM_eq_mapM_toList];simp only [Sem.run_bind,Sem.run_map,ak,Result.andThen_ok,Sem.run_pure]
 match vs,h with
 | [u],h =>
   obtain ⟨xs,q1,aW,cx⟩:=mY ah bW (g:=fun x=>match x with | .tmp t=>pure (bg.getD t undef) | .cell a t=>do loadVar t (←asAddr (bg.getD a undef))) (fun _=>rfl) (fun _ _=>rfl) _ _ h
   match xs,aW with
   | [x],_ =>
     obtain ⟨r1,r2⟩:=cx 0 u x rfl rfl;refine ⟨x,by rw [run _ q1];rfl,?_⟩;rcases r2 with ⟨aB,_⟩ | ⟨t,_,aq⟩
     ·exact a0.same ah r1 aB
     ·obtain ⟨aA,b9⟩:=Ey t ah;exact ⟨k8 t U,J,S,Ext.refl J,aA,b9,r1,aq.mono (Ext.refl J) (fun _ _ h=>⟨h,rfl⟩) fun b ag=>⟨by simp [k8,ag],rfl,fun _ h=>h⟩⟩
 | [],h =>
   obtain ⟨xs,q1,aW,cx⟩:=mY ah bW (g:=fun x=>match x with | .tmp t=>pure (bg.getD t undef) | .cell a t=>do loadVar t (←asAddr (bg.getD a undef))) (fun _=>rfl) (fun _ _=>rfl) _ _ h
   match xs,aW with
   | [],_=>exact ⟨.tuple #[],by rw [run _ q1];rfl,a0.same ah (.tuple [] #[] rfl (by simp) (by simp)) rfl⟩
 | fx::gl::us,h =>
   obtain ⟨a7,dy,dm,bV,ky,pe⟩:=A8 T bg.toList .slot S (fun i j h=>by cases h;rfl) (fun i id=>by simp) (fun i id j=>by simp) bW ah;have dv:bh U S w U a7 w:=bh.settle dy fun b o h=>(dm b o h).imp id fun ⟨i,h⟩=>⟨_,h⟩;obtain ⟨xs,q1,aW,cx⟩:=mY ah bW (g:=fun x=>match x with | .tmp t=>pure (bg.getD t undef) | .cell a t=>do loadVar t (←asAddr (bg.getD a undef))) (fun _=>rfl) (fun _ _=>rfl) _ _ h
   refine ⟨.tuple xs.toArray,by
    rw [run _ q1]
    have:¬ xs.toArray.size=1:=by simp at aW ⊢;omega
    rw [dif_neg this],a0.after (Ext.refl J) dv (a0.same bV (.tuple _ _ (by simp at aW ⊢;omega) ?_ ?_) rfl)⟩
   ·intro y aY;obtain ⟨x,_,rfl⟩:=sk.1 aY;exact I.dg x
   ·intro j y x aY ak;simp only [ss,sa] at aY;obtain ⟨u,hu,rfl⟩:=aY;obtain ⟨r1,r2⟩:=cx j u x hu (by simpa using ak);rcases r2 with ⟨aB,_⟩ | ⟨t,⟨rfl,rfl⟩,_⟩
    ·rw [I.kj aB];exact r1.mono (Ext.refl J) fun b o h=>⟨dy b o h,rfl⟩
    ·have:=(o_ pe t).1;have ae:c3 (T.map I.view) t=(c3 T t).view:=by
      rw [f',f',sE,sE,ss];cases T[t]? <;> rfl
     rw [ae] at this;exact this
end
end Go.Proofs.YtfakoboiahbhaaaGreat.Ab


namespace Go.Proofs.YtfakoboiahbhaaaGreat.Ab
open Go
def jg (bn:List Nat) (U:Nat→Option aH):Nat→Option aH:=fun b=>match U b with
 | some (.arg i)=>(bn[i]?).map .slot
 | some (.obj id)=>some (.obj id)
 | some (.cell id j)=>some (.cell id j)
 | _=>none
section
variable {P:Program} {B N:Nat} {J:List Nat} {w:World} {H:List ar} {U:Nat→Option aH} {S:Nat→Nat→Prop}
theorem Gg (bn:List Nat) (ah:aK B U J S w H):bh U S w (jg bn U) S w∧aK B (jg bn U) J S w H :=
 relabel ah (fun b h=>by simp [jg,h]) fun b l h ao=>by
  rcases ao with ⟨id,rfl⟩ | ⟨id,j,rfl⟩ <;> simp [jg,h]
theorem A7:∀ (bn:List Nat) (us:List I) (T a':List I) (xs bg:List Value),il bn us T=some a'→us.length=xs.length→T.length=bg.length →
  bn.length=us.length∧a'.length=T.length∧((bn.zip xs).foldl (fun (l:List Value) (p:Nat×Value)=>l.set p.1 p.2) bg).length=bg.length ∧
  ∀ (i:Nat) (u:I) (x:Value),a'[i]?=some u→((bn.zip xs).foldl (fun (l:List Value) (p:Nat×Value)=>l.set p.1 p.2) bg)[i]?=some x →
    (T[i]?=some u∧bg[i]?=some x)∨∃ (j:Nat),bn[j]?=some i∧us[j]?=some u∧xs[j]?=some x
 | [],[],T,a',xs,bg,h,ao,ay=>by
   simp only [il,Option.some.injEq] at h;subst h;exact ⟨rfl,rfl,by simp,fun i u x hu ak=>.inl ⟨hu,by simpa using ak⟩⟩
 | p::bn,x'::us,T,a',jj::xs,bg,h,ao,ay=>by
   simp only [il,gR] at h;obtain ⟨ad,af,aG,a5⟩:=A7 bn us (T.set p x') a' xs (bg.set p jj) h (by simpa using ao) (by simpa using ay);refine ⟨by simp [ad],by simpa using af,by simpa using aG,fun i u x hu ak=>?_⟩;rcases a5 i u x hu (by simpa using ak) with ⟨aJ,aQ⟩ | ⟨j,aJ,aQ,cn⟩
   ·by_cases zb:p=i
    ·subst zb;(have dI:p<T.length:=by have:=(sb.1 aJ).1;simpa using this);(have kU:p<bg.length:=by omega);rw [si dI] at aJ;rw [si kU] at aQ;exact .inr ⟨0,rfl,by simpa using aJ,by simpa using aQ⟩
    ·rw [sj zb] at aJ aQ;exact .inl ⟨aJ,aQ⟩
   ·exact .inr ⟨j+1,by simpa using aJ,by simpa using aQ,by simpa using cn⟩
 | [],_::_,T,a',xs,bg,h,ao,ay=>by simp [il] at h
 | _::_,[],T,a',xs,bg,h,ao,ay=>by simp [il] at h
 | _::_,_::_,T,a',[],bg,h,ao,ay=>by simp at ao
theorem E_ (L:Loop) (vs:List Value):(iY L vs).toList=(L.params.toList.zip vs).foldl (fun (l:List Value) (p:Nat×Value)=>l.set p.1 p.2) L.tmps.toList:=by
 unfold iY;rw [←Array.foldl_toList,Array.toList_zip];generalize L.params.toList.zip vs=gm;generalize L.tmps=bg
 induction gm generalizing bg with
 | nil=>rfl
 | cons z gm a9=>simp only [List.foldl_cons];rw [a9];simp
theorem cv.loop {s:a6} {a:Act} (aL:cv B N U J S w s a) {id b:Nat} {L:Loop} {st:LoopState} {cE:Option Code} {fn:FuncId} {T:List I} {bn:List Nat} {as cp:Code} {an:db}
  (aE:s.H[id]?=some (.loop st cE fn T bn as cp an)) (ag:J[id]?=some b) (fp:w.heap[b]?=some (.loop L)) (hp:LoopState) (hk:Option Code) :
  bh U S w U S (w.putObj b (.loop { L with state:=hp,pending:=hk }))∧cv B N U J S (w.putObj b (.loop { L with state:=hp,pending:=hk })) ⟨s.T,s.H.set id (.loop hp hk fn T bn as cp an)⟩ a:=by
 obtain ⟨aA,ah,_⟩:=D2 aL.H aE ag fp hp hk;obtain ⟨_,_,au,oK,aC,aI,_⟩:=aL.H.obj id _ aE;rw [ag] at aC;cases aC;refine ⟨aA,⟨⟨aL.T.len,fun i u v hu ae=>(aL.T.rel i u v hu ae).mono (Ext.refl J) aA.set,fun i u v hu ae=>?_⟩,ah,aL.M.aA aA⟩⟩;refine (aL.T.own i u v hu ae).mono (Ext.refl J) aA.set fun au bt=>⟨bt,World.putObj_heap_other (fun e=>?_),fun _ h=>h⟩;subst e;rw [aI] at bt;cases bt
theorem B_ (eo:P.follows .mixedOrders=true) {C:b7} (bu:da P C) {k:Nat} {f:Func} {c:Code} (aP:P.funcs[k]?=some f) (ag:f.body=some c) {A:db} (bP:codeOk A c=true)
  {lo d:Nat} {args:List I} {e:cz} {s:a6} (h:exec P A C k lo d none c 0 ⟨args++List.replicate (f.ntmps-args.length) .junk,H⟩=some (e,s)) (he:e=.normal∨e=.ret) {vs:List I}
  (aj:fk P s.H s.T f.results.toList=some vs) {xs:List Value} (ah:aK B U J S w H) (ae:a8 (fun i=>.arg i) U J S w args xs) :
  CallsIn Fence.wide 0 P k xs.toArray w (fS B U J S w s.H (hj vs)):=by
 refine callsIn_of_wp_marks aP ag trivial ?_;have aL:=x5 ah ae f.ntmps;have dv:=(oE ah).1;refine nv bu eo c 0 _ _ _ h bP Fence.wide _ B w.heap.size J w (hP U) S _ (.inl ⟨rfl,rfl⟩) (fun l a w aO=>aO.elim) aL fun aM w' ai=>?_;obtain ⟨b4,c0,a7,aJ,aQ,cf⟩:=ai;have iK:LeavesInM Fence.wide 0 P f aM.tmps (fS B U J S w s.H (hj vs)) aM.defers .returning w':=by
  refine nW (U:=b4) (S:=a7) (J:=c0) (B:=B) (H:=s.H) (lA:=U) (S0:=S) (w0:=w) aM.defers w' cf.M.2.1 cf.M.2.2 (dv.trans aQ) cf.H fun bX dy dm mB mC=>?_
  have bW:a8 .slot b4 c0 a7 bX s.T aM.tmps.toList:=⟨cf.T.len,fun i u v hu ae=>(cf.T.rel i u v hu ae).mono (Ext.refl _) (fun b o h=>⟨h,dm b o h⟩),fun i u v hu ae =>
   (cf.T.own i u v hu ae).mono (Ext.refl _) (fun b o h=>⟨h,dm b o h⟩) fun b ag=>⟨ag,dy b _ ag,fun _ h=>h⟩⟩
  obtain ⟨v,q1,aW⟩:=xI mC bW aj;exact ⟨v,q1,a0.after aJ mB aW⟩
 rcases he with rfl | rfl
 ·exact iK
 ·exact iK
end
end Go.Proofs.YtfakoboiahbhaaaGreat.Ab


namespace Go.Proofs.YtfakoboiahbhaaaGreat.Ab
open Go
section
variable {P:Program} {B N:Nat} {J:List Nat} {w:World} {H:List ar} {U:Nat→Option aH} {S:Nat→Nat→Prop}
def lh (l:Nat) (H:List ar) (fn:FuncId) (T:List I) (bn:List Nat) (as cp:Code) (an:db):cz→I×List ar
 | .normal=>(.bool true,H.set l (.loop .ready none fn T bn as cp an))
 | .ret=>(.bool false,H.set l (.loop .done (some .ret) fn T bn as cp an))
 | .exit id=>(.bool false,H.set l (.loop .done (some (.exit id)) fn T bn as cp an))
theorem B' (eo:P.follows .mixedOrders=true) {C:b7} (bu:da P C) {l lo d:Nat} {fn fn':FuncId} {j5 cE:Option Code} {T a' dR dD:List I} {bn dN fP:List Nat} {as cp gz gA fB fC:Code} {an gx fA:db} {f_ fE:FuncId} {args:List I}
  (ao:H[l]?=some (.loop .ready j5 fn T bn as cp an)) (eD:il bn args T=some a') {s1 s2:a6} {e:cz} {j6:Option Code}
  (ad:exec P an C fn lo d (some l) as 0 ⟨a',H⟩=some (.normal,s1)) (jM:s1.H[l]?=some (.loop .ready cE f_ dR dN gz gA gx))
  (af:exec P an C fn' lo d (some l) cp 0 ⟨s1.T,s1.H.set l (.loop .busy cE f_ dR dN gz gA gx)⟩=some (e,s2)) (gb:s2.H[l]?=some (.loop .busy j6 fE dD fP fB fC fA))
  {xs:List Value} {b:Nat} (ah:aK B U J S w H) (ae:a8 (fun i=>.arg i) U J S w args xs) (ag:J[l]?=some b) :
  ∃ L,w.heap[b]?=some (.loop L)∧xs.length=L.params.size ∧
    RoundIn Fence.wide 0 P b L.fn (iY L xs) L.assign L.body w (fS B U J S w (lh l s2.H fE dD fP fB fC fA e).2 (lh l s2.H fE dD fP fB fC fA e).1):=by
 obtain ⟨a_,ba,au,L,aC,aI,aR,bk,bc,bf,c9,dr,dS,gw,BK⟩:=ah.obj l _ ao;rw [ag] at aC;cases aC;have cB:=A7 bn args T a' xs L.tmps.toList eD ae.len (by simpa using c9.symm);obtain ⟨ca,b5,en,iD⟩:=cB;refine ⟨L,aR,by rw [←ae.len,←ca,←dS];simp,?_⟩;refine roundIn_of_wpIn trivial ?_;have xa:(iY L xs).toList=(bn.zip xs).foldl (fun (l:List Value) (p:Nat×Value)=>l.set p.1 p.2) L.tmps.toList:=by rw [E_,dS]
 obtain ⟨dv,gC⟩:=Gg bn ah;have aL:cv B w.heap.size (jg bn U) J S w ⟨a',H⟩ { tmps:=iY L xs,defers:=[] }:=by
  refine ⟨?_,gC,sd _,fun d a2=>by simp at a2,List.Pairwise.nil⟩;simp only [xa];have key:∀ (i:Nat) (u:I) (x:Value),a'[i]?=some u→((bn.zip xs).foldl (fun (l:List Value) (p:Nat×Value)=>l.set p.1 p.2) L.tmps.toList)[i]?=some x →
    Rel J S w u x∧aV (jg bn U) J S w (.slot i) u x:=fun i u x hu ak=>by
   rcases iD i u x hu ak with ⟨aJ,aQ⟩ | ⟨j,aJ,aQ,cn⟩
   ·obtain ⟨bR,bY⟩:=dr i u x aJ (by simpa using aQ);exact ⟨bY,aV.b3 bR⟩
   ·exact ⟨ae.rel j u x aQ cn,(ae.own j u x aQ cn).mono (Ext.refl J) (fun _ _ h=>⟨h,rfl⟩) fun b ag=>⟨by simp [jg,ag,aJ],rfl,fun _ h=>h⟩⟩
  exact ⟨by rw [b5,en,←c9];simp,fun i u x hu ak=>(key i u x hu ak).1,fun i u x hu ak=>(key i u x hu ak).2⟩
 rw [gw,BK];refine nv bu eo as 0 _ _ _ ad a_ _ _ B w.heap.size J w (jg bn U) S _ (.inr ⟨l,b,rfl,ag,rfl⟩) (fun l a w aO=>aO) aL fun aC bG ai=>?_;obtain ⟨b4,c0,a7,aJ,aQ,cf⟩:=ai;have gD:c0[l]?=some b:=aJ _ _ ag;obtain ⟨_,_,au,oL,d1,d2,d3,d4,d5,_⟩:=cf.H.obj l _ jM;rw [gD] at d1;cases d1;obtain ⟨ek,Cx⟩:=cf.loop jM gD d3 .busy cE;have CK:(Instr.beginRound b).run P bG=.ok () (bG.putObj b (.loop { oL with state:=.busy,pending:=cE })):=by
  rw [run_beginRound d3 d4]
  have:({ oL with state:=.busy,pending:=cE }:Loop)={ oL with state:=.busy }:=by rw [←d5]
  rw [this]
 refine ⟨_,CK,?_⟩;refine wpIn_mono (Q:=fun cW aM w'=>(∀ t,cW≠Exit.goto t)∧roundPost P b (fS B U J S w (lh l s2.H fE dD fP fB fC fA e).2 (lh l s2.H fE dD fP fB fC fA e).1) cW aM w') ?_ (fun e a w h=>h.2);refine nv bu eo cp 0 _ _ _ af ba _ _ B w.heap.size c0 _ b4 a7 _ (.inr ⟨l,b,rfl,gD,rfl⟩) (fun l a w aO=>aO.1 l rfl) Cx fun aI bX ai=>?_;obtain ⟨bq,cj,bK,cn,mD,yQ⟩:=ai;have gE:cj[l]?=some b:=cn _ _ gD;obtain ⟨_,_,au,jm,f1,f2,f3,f4,f5,_⟩:=yQ.H.obj l _ gb;rw [gE] at f1;cases f1;have lW:bh U S w bq bK bX:=((dv.trans aQ).trans ek).trans mD;have fin:∀ (st:LoopState) (jump:Option Code),a0 B U J S w (s2.H.set l (.loop st jump fE dD fP fB fC fA)) (.bool jump.isNone) (.bool jump.isNone) (bX.putObj b (.loop { jm with state:=st,pending:=jump })):=fun st jump=>by
  obtain ⟨Ck,Cy⟩:=yQ.loop gb gE f3 st jump;exact ⟨bq,cj,bK,aJ.trans cn,lW.trans Ck,Cy.H,.bool _,aV.b3 rfl⟩
 refine ⟨fun t ay=>(by cases e <;> cases ay),?_⟩;cases e with
 | normal=>exact ⟨_,_,run_endRound none f3,fin .ready none⟩
 | ret=>exact ⟨_,_,run_endRound (some .ret) f3,fin .done (some .ret)⟩
 | exit id=>exact ⟨_,_,run_endRound (some (.exit id)) f3,fin .done (some (.exit id))⟩
theorem Ca (eo:P.follows .mixedOrders=true) (A:FuncId→db) {tab:b7} (ay:da P tab)
  (bP : ∀ k f c, (A k).bad = false → P.funcs[k]? = some f → f.body = some c → codeOk (A k) c = true ∧ f.name ≠ "runtime.NumGoroutine") : ∀ d, da P (fX P A tab d)
 | 0=>⟨fun h=>by simp [fX] at h,fun h=>by simp [fX] at h⟩
 | d+1=>by
   have bu:=Ca eo A ay bP d;have yN:∀ {k:FuncId} {args:List I} {H:List ar} {lo:Nat} {r:I} {H':List ar},fX P A tab (d+1) (.fn k) args H lo=some (r,H')→tab (.fn k) args H lo=some (r,H') ∨
     ∃ f c e s vs,(A k).bad=false∧P.funcs[k]?=some f∧f.body=some c∧exec P (A k) (fX P A tab d) k lo d none c 0 ⟨args++List.replicate (f.ntmps-args.length) .junk,H⟩=some (e,s)∧(e=.normal∨e=.ret) ∧
       fk P s.H s.T f.results.toList=some vs∧r=hj vs∧H'=s.H:=fun {k args H lo r H'} h=>by
    simp only [fX] at h;split at h
    ·rename_i x ak;cases h;exact .inl ak
    ·right;split at h
     ·simp at h
     rename_i nw;split at h
     ·rename_i f aP;split at h
      ·rename_i c ag;split at h
       ·rename_i s ai;simp only [sa,Prod.mk.injEq] at h;obtain ⟨vs,aj,rfl,rfl⟩:=h;exact ⟨f,c,_,s,vs,nw,aP,ag,ai,.inl rfl,aj,rfl,rfl⟩
       ·rename_i s ai;simp only [sa,Prod.mk.injEq] at h;obtain ⟨vs,aj,rfl,rfl⟩:=h;exact ⟨f,c,_,s,vs,nw,aP,ag,ai,.inr rfl,aj,rfl,rfl⟩
       ·simp at h
      ·simp at h
     ·simp at h
   have BF:∀ {l:Nat} {args:List I} {H:List ar} {lo:Nat} {r:I} {H':List ar},fX P A tab (d+1) (.yield l) args H lo=some (r,H') →
     ∃ j5 fn T bn as cp an a' s1 cE f_ dR dN gz gA gx e s2 j6 fE dD fP fB fC fA,lo≤l∧H[l]?=some (.loop .ready j5 fn T bn as cp an)∧il bn args T=some a' ∧
       exec P an (fX P A tab d) fn lo d (some l) as 0 ⟨a',H⟩=some (.normal,s1)∧s1.H[l]?=some (.loop .ready cE f_ dR dN gz gA gx) ∧
       exec P an (fX P A tab d) f_ lo d (some l) cp 0 ⟨s1.T,s1.H.set l (.loop .busy cE f_ dR dN gz gA gx)⟩=some (e,s2)∧s2.H[l]?=some (.loop .busy j6 fE dD fP fB fC fA) ∧
       (r,H')=lh l s2.H fE dD fP fB fC fA e:=fun {l args H lo r H'} h=>by
    simp only [fX] at h;split at h
    ·simp at h
    ·rename_i bB;split at h
     ·rename_i j5 fn T bn as cp an ao;split at h
      ·rename_i a' eD;split at h
       ·rename_i s1 ad;split at h
        ·rename_i cE f_ dR dN gz gA gx jM;split at h
         ·rename_i e s2 af;split at h
          ·rename_i j6 fE dD fP fB fC fA gb;refine ⟨j5,fn,T,bn,as,cp,an,a',s1,cE,f_,dR,dN,gz,gA,gx,e,s2,j6,fE,dD,fP,fB,fC,fA,by omega,ao,eD,ad,jM,af,gb,?_⟩;cases e <;> simp only [Option.some.injEq] at h <;> exact h.symm
          ·simp at h
         ·simp at h
        ·simp at h
       ·simp at h
      ·simp at h
     ·simp at h
   refine ⟨fun {bZ args H lo r H'} h=>?_,fun {bZ args H lo r H'} h=>?_⟩
   ·cases bZ with
    | fn k =>
      rcases yN h with h | ⟨f,c,e,s,vs,_,_,_,aG,_,_,_,rfl⟩
      ·exact ay.low h
      ·exact o5 bu c 0 _ e s aG
    | yield l =>
      obtain ⟨j5,fn,T,bn,as,cp,an,a',s1,cE,f_,dR,dN,gz,gA,gx,e,s2,j6,fE,dD,fP,fB,fC,fA,bB,ao,eD,ad,jM,af,gb,aj⟩:=BF h;have de:=o5 bu as 0 _ _ s1 ad;have df:=o5 bu cp 0 _ e s2 af;(have jX:bb lo s2.H (lh l s2.H fE dD fP fB fC fA e).2:=by cases e <;> exact bb.set _ _ bB);rw [←aj] at jX;exact (de.trans ((bb.set s1.H _ bB).trans df)).trans jX
   ·cases bZ with
    | fn k =>
      rcases yN h with h | ⟨f,c,e,s,vs,nw,aP,ag,aG,he,aj,rfl,rfl⟩
      ·exact ay.ok h
      obtain ⟨bD,bQ⟩:=bP k f c nw aP ag;exact ⟨⟨f,aP,by simp [ag],bQ⟩,fun B U J S w xs ah _ ae=>B_ eo bu aP ag bD aG he aj ah ae⟩
    | yield l =>
      obtain ⟨j5,fn,T,bn,as,cp,an,a',s1,cE,f_,dR,dN,gz,gA,gx,e,s2,j6,fE,dD,fP,fB,fC,fA,bB,ao,eD,ad,jM,af,gb,aj⟩:=BF h;intro B U J S w xs b ah _ ae ag;have:=B' eo bu ao eD ad jM af gb ah ae ag;rw [←aj] at this;exact this
end
end Go.Proofs.YtfakoboiahbhaaaGreat.Ab


namespace Go.Proofs.YtfakoboiahbhaaaGreat.Ab
open Go
def Sem (P:Program) (bZ:e_) (args:List I) (H:List ar) (lo:Nat) (r:I) (H':List ar):Prop:=bb lo H H'∧jr P bZ args H H' r
def lC (P:Program) (k:FuncId) (args:List I) (v:I):Prop:=Sem P (.fn k) args [] 0 v []∧ch 8 v=true
abbrev dh:=List (FuncId×List I×I)
def ht (P:Program) (acc:dh):Prop:=(∀ p∈acc,lC P p.1 p.2.1 p.2.2)∧∀ p∈acc,∀ q∈acc,p.1=q.1→p.2.1=q.2.1→p.2.2=q.2.2
def hR (C:b7) (acc:dh):Prop:=∀ p∈acc,∃ r a3,C (.fn p.1) p.2.1 [] 0=some (r,a3)∧bI a3 0 a3.length 0 8 r=some p.2.2
section
variable {P:Program}
theorem oY {C:b7} (h:∀ bZ args H lo r H',C bZ args H lo=some (r,H')→Sem P bZ args H lo r H'):da P C :=
 ⟨fun al=>(h _ _ _ _ _ _ al).1,fun al=>(h _ _ _ _ _ _ al).2⟩
theorem da.Ha {C:b7} (bu:da P C) {bZ:e_} {args:List I} {H:List ar} {lo:Nat} {r:I} {H':List ar} (h:C bZ args H lo=some (r,H')):Sem P bZ args H lo r H':=⟨bu.low h,bu.ok h⟩
theorem yy:da P (fun _ _ _ _=>none):=oY fun _ _ _ _ _ _ h=>by cases h
noncomputable def k1 (bZ:e_) (args:List I) (H:List ar) (lo:Nat) (r:I) (H':List ar):b7:=fun t a h l =>
 open Classical in if t=bZ∧a=args∧h=H∧l=lo then some (r,H') else none
theorem Ev (bZ:e_) (args:List I) (H:List ar) (lo:Nat) (r:I) (H':List ar):k1 bZ args H lo r H' bZ args H lo=some (r,H'):=by simp [k1]
theorem Ew {bZ:e_} {args:List I} {H:List ar} {lo:Nat} {r:I} {H':List ar} (h:Sem P bZ args H lo r H'):da P (k1 bZ args H lo r H') :=
 oY fun t a aX l r' a3 al=>by
  unfold k1 at al;split at al
  ·rename_i he;obtain ⟨rfl,rfl,rfl,rfl⟩:=he;cases al;exact h
  ·cases al
theorem zO {f:I→Option I}:∀ {l:List I},(∀ u∈l,f u=some u)→d' f l=some l
 | [],_=>rfl
 | u::l,h=>by
   simp only [d',h u (by simp),zO (l:=l) fun v ae=>h v (by simp [ae]),sf]
theorem o9 {H:List ar} {lo id0 n:Nat}:∀ {d:Nat} {v:I},ch d v=true→bI H lo id0 n d v=some v
 | 0,v,h=>by simp [ch] at h
 | d+1,v,h=>by
   have key:∀ {l:List I},l.all (ch d)=true→d' (bI H lo id0 n d) l=some l:=fun h=>zO fun u hu=>o9 (by rw [sv] at h;exact h u hu);cases v <;> simp only [ch,tG] at h <;> try rfl
   case ax cells len c=>simp only [bI,key h,sf]
   case bT cells=>simp only [bI,key h,sf]
   case agg cs=>simp only [bI,key h,sf]
   case tuple cs=>simp only [bI,key h,sf]
   case func f a b =>
    simp only [sx] at h;simp only [bI,key h.1,key h.2]
theorem oQ {acc:dh} (h:ht P acc):∃ C,da P C∧hR C acc:=by
 classical
 obtain ⟨ad,af⟩:=h;have key:∀ x:e_×List I×List ar×Nat,∃ o:Option (I×List ar),(∀ r H',o=some (r,H')→Sem P x.1 x.2.1 x.2.2.1 x.2.2.2 r H') ∧
   ∀ p∈acc,x=(.fn p.1,p.2.1,[],0)→∃ r a3,o=some (r,a3)∧bI a3 0 a3.length 0 8 r=some p.2.2:=fun x=>by
  by_cases ak:∃ p∈acc,x=(.fn p.1,p.2.1,[],0)
  ·obtain ⟨p,aB,rfl⟩:=ak;obtain ⟨q1,aW⟩:=ad p aB;refine ⟨some (p.2.2,[]),fun r' H' e=>by cases e;exact q1,fun q aZ e=>?_⟩;simp only [Prod.mk.injEq,e_.fn.injEq] at e;exact ⟨p.2.2,[],rfl,by rw [o9 aW,af p aB q aZ e.1 e.2.1]⟩
  ·exact ⟨none,(fun r H' e=>nomatch e),fun p aB e=>absurd ⟨p,aB,e⟩ ak⟩
 let C:b7:=fun t a H l=>Classical.choose (key (t,a,H,l))
 have bu:∀ t a H l,_:=fun t a H l=>vG (key (t,a,H,l));exact ⟨C,oY fun t a H l r H' al=>(bu t a H l).1 r H' al,fun p aB=>(bu _ _ _ _).2 p aB rfl⟩
def yi (o:Oper) (s:a6) (K:a6→Prop):Prop :=
 ∃ it r m since seen es clock,o.op=.next it false∧o.guard=none∧Ab.aA s.T it=.ptr r 0∧s.H[r]?=some (.iter m since seen clock)∧s.H[m]?=some (.map es clock)∧since≤clock∧(∀ e∈es,e.1<since) ∧
   ((∀ e∈es,e.1∈seen)→K ⟨put s.T o.dst (.tuple [.bool false]),s.H⟩) ∧
   ∀ e∈es,e.1 ∉ seen→K ⟨put s.T o.dst (.tuple [.bool true,e.2.1,e.2.2]),s.H.set r (.iter m since (seen++[e.1]) clock)⟩
section
variable {B N:Nat} {J:List Nat} {w:World} {H:List ar} {U:Nat→Option aH} {S:Nat→Nat→Prop}
theorem DL (ah:aK B U J S w H) {id m since since' kc stepped':Nat} {seen seen':List Nat} (aE:H[id]?=some (.iter m since seen kc)) {b eb:Nat}
  (aC:J[id]?=some b) (aI:U b=some (.obj id)) (aR:J[m]?=some eb) (bc:∀ o,¬ S b o) :
  bh U S w U S (w.putObj b (.mapIter (some eb) since' seen'.toArray stepped'))∧aK B U J S (w.putObj b (.mapIter (some eb) since' seen'.toArray stepped')) (H.set id (.iter m since' seen' stepped')):=by
 have hz:∀ au o,S au o→au≠b:=fun au o ai e=>bc o (e ▸ ai);have ag:=(ah.base b _ aI).2;have aA:bh U S w U S (w.putObj b (.mapIter (some eb) since' seen'.toArray stepped')) :=
  ⟨rfl,rfl,rfl,by simp,fun au _ aN=>World.putObj_heap_other (fun e=>by subst e;rw [aI] at aN;cases aN),fun au o ai=>⟨ai,oa (hz au o ai)⟩,fun au o ai=>.inl ai,fun au h=>.inl h⟩
 refine ⟨aA,by simpa using ah.cD,fun bz o aq=>?_,fun au o ai=>?_,fun au l h=>by simpa using ah.base au l h,by simpa using ah.cV⟩
 ·by_cases g2:bz=id
  ·subst g2;rw [si (sb.1 aE).1] at aq;cases aq;exact ⟨b,eb,aC,aI,aR,World.putObj_heap_same ag,bc⟩
  ·rw [sj (fun e=>g2 e.symm)] at aq;refine (ah.obj bz o aq).frame (Ext.refl J) aA.set fun au ct bt jL=>?_;have bN:au≠b:=fun e=>by
    subst e;rw [aI] at bt;cases bt;rcases jL with h | ⟨j,h⟩
    ·cases h;exact g2 rfl
    ·cases h
   exact ⟨bt,World.putObj_heap_other bN,fun o ai=>ai⟩
 ·obtain ⟨v,ae⟩:=ah.cc au o ai;exact ⟨v,(oa (hz au o ai)).trans ae⟩
theorem Er {F:Fence} (bE:ei F) {o:Oper} {s:a6} {K':a6→Prop} (h:yi o s K') {a:Act} (aL:cv B N U J S w s a)
  {K:Act→World→Prop} {Q:Exit→Act→World→Prop} (fF:∀ aF,K' aF→∀ aM w',Step B N U J S w aF aM w'→K aM w'):o.wpIn F 0 P a w K Q:=by
 obtain ⟨it,r,m,since,seen,es,clock,aD,aO,C8,aj,hm,pT,hold,dd,aJ⟩:=h;have jP:∀ c,o.op≠.defer c:=fun c al=>by rw [aD] at al;cases al
 refine ⟨fun f _=>bE.fn f,?_⟩;rw [Oper.semAt_eq _ _ _ jP];have ma:=aL.aA it;rw [C8] at ma;have gC:=mq aL.H;obtain ⟨b,eb,aC,aI,aR,bk,bc⟩:=gC.obj r _ aj;obtain ⟨GD,bx,a_,ba,br,b8,dV,fW⟩:=gC.obj m _ hm;rw [aR] at a_;cases a_;generalize ae:a.eval it=v at ma;cases ma with
 | ptr _ _ au e0 =>
   rw [aC] at e0;cases e0;have CJ:∀ x∈bx.toList,x.born<since:=fun x ak=>by
    obtain ⟨j,aw⟩:=tg.1 ak;(have ed:bx[j]?=some x:=by simpa using aw);(have aS:j<es.length:=by have:=(sY.1 ed).1;omega);rcases bH:es[j] with ⟨i,k,v⟩;(have he:es[j]?=some (i,k,v):=by rw [sm aS,bH]);rw [(fW j i k v x he ed).1];exact hold (i,k,v) (sH he)
   have done:∀ {r':I} {H':List ar} {v:Value} {w':World},a0 B (dk U) J S w H' r' v w'→K' ⟨put s.T o.dst r',H'⟩→K (a.put o.dst v) w':=fun {r' H' v w'} aB av=>by
    obtain ⟨az,bU,S',q1,aW,ga,_⟩:=n' o.dst aL aB .junk (fun _ _ _ _ _=>.junk _);exact fF _ av _ _ ⟨az,bU,S',q1,aW,ga⟩
   rcases run_next_at (P:=P) w o.type b eb since clock seen.toArray bx clock bk br CJ pT with ⟨aN,dK⟩ | ⟨x,ak,bG,zm,dK⟩
   ·(have pS:(Go.execOp a.eval o).run P w=.ok (.value (.tuple #[.bool false])) w:=by simp [Go.execOp,aD,ae,dK]);rw [pS];refine done (a0.same gC (.tuple _ _ rfl (by simp [I.plain]) fun j u bm hu bd=>?_) rfl) (dd fun e he=>?_)
    ·match j with
     | 0=>simp at hu bd;subst hu;subst bd;exact .bool _
     | j+1=>simp at hu
    ·obtain ⟨j,aw⟩:=tg.1 he;have aS:j<es.length:=(sb.1 aw).1;have ak:bx[j]?=some bx[j]:=sA (by omega);have ag:=(fW j e.1 e.2.1 e.2.2 _ aw ak).1;have l_:leftOf bx seen.toArray=#[]:=Array.eq_empty_of_size_eq_zero aN;unfold leftOf at l_;rw [Array.filter_eq_empty_iff] at l_;have:=l_ bx[j] (by simp);simpa [ag] using this
   ·have pS:(Go.execOp a.eval o).run P w=.ok (.value (.tuple #[.bool true,x.key,x.val])) (bG.putObj b (.mapIter (some eb) since (seen++[x.born]).toArray clock)):=by
     simp [Go.execOp,aD,ae,dK,Go.ChangeMaps.setBlock,World.putObj]
    rw [pS];have nQ:x∈bx.toList∧x.born ∉ seen:=by
     unfold leftOf at ak;simpa using ak
    obtain ⟨j,aw⟩:=tg.1 nQ.1;(have ed:bx[j]?=some x:=by simpa using aw);(have aS:j<es.length:=by have:=(sY.1 ed).1;omega);rcases bH:es[j] with ⟨i,k,v⟩;(have he:es[j]?=some (i,k,v):=by rw [sm aS,bH]);obtain ⟨d1,d2,d3,d4,d5⟩:=fW j i k v x he ed;have kE:(i,k,v)∈es:=sH he;refine done (r':=.tuple [.bool true,k,v]) (H':=s.H.set r (.iter m since (seen++[i]) clock)) ?_ (aJ _ kE (by rw [←d1];exact nQ.2));(have hw:aK B (dk U) J S bG s.H:=by rcases zm with rfl | rfl;exact gC;exact mo gC);(have ps:bh (dk U) S w (dk U) S bG:=by rcases zm with rfl | rfl;exact bh.refl _ _ _;exact kq _ _ _);refine a0.after (Ext.refl J) ps ?_;obtain ⟨aA,b9⟩:=DL hw (since':=since) (stepped':=clock) (seen':=seen++[i]) aj aC aI aR bc;rw [d1];refine ⟨dk U,J,S,Ext.refl J,aA,b9,.tuple _ _ rfl (fun u hu=>?_) (fun j u bm hu bd=>?_),aV.b3 rfl⟩
    ·simp only [sq,List.not_mem_nil,or_false] at hu;rcases hu with rfl | rfl | rfl
     ·rfl
     ·exact d2
     ·exact d4
    ·match j with
     | 0=>simp at hu bd;subst hu;subst bd;exact .bool _
     | 1=>simp at hu bd;subst hu;subst bd;exact (d3.mono (Ext.refl J) ps.set).mono (Ext.refl J) aA.set
     | 2=>simp at hu bd;subst hu;subst bd;exact (d5.mono (Ext.refl J) ps.set).mono (Ext.refl J) aA.set
     | j+3=>simp at hu
end
end
end Go.Proofs.YtfakoboiahbhaaaGreat.Ab


namespace Go.Proofs.YtfakoboiahbhaaaGreat.Ab
open Go
section
variable {P:Program} {B N:Nat} {J:List Nat} {w:World} {U:Nat→Option aH} {S:Nat→Nat→Prop}
theorem x0 {C:b7} {lo:Nat} {ops:Array Oper} {an:List b2} {i:Nat} {cN:Oper} (hi:ops[i]?=some cN) {R:Nat→Nat→Prop} {aF:a6}:∀ (l:List Nat) (s:a6),l.Pairwise R→i∈l →
  (∀ j∈l,R j i→∀ c2,ops[j]?=some c2→indep ops c2 (an.getD j {}) cN (an.getD i {})=true)→cu P C lo ops an l s=some aF →
  ∃ s1,dz P C lo ops cN (an.getD i {}) s=some s1∧cu P C lo ops an (l.erase i) s1=some aF
 | [],s,_,h,_,_=>by simp at h
 | j::r,s,aB,hm,jI,h=>by
   by_cases g5:j=i
   ·subst g5;simp only [cu,hi,sg] at h;obtain ⟨s1,ad,af⟩:=h;exact ⟨s1,ad,by simpa using af⟩
   ·have aj:i∈r:=by
     rcases sq.1 hm with h | h
     ·exact absurd h.symm g5
     ·exact h
    have aS:R j i:=(tB.1 aB).1 i aj;have he:(j::r).erase i=j::r.erase i:=by
     rw [List.erase_cons];simp [g5]
    rw [he];simp only [cu] at h ⊢;cases aw:ops[j]? with
    | none =>
      simp only [aw] at h;exact x0 hi r s (tB.1 aB).2 aj (fun k av=>jI k (by simp [av])) h
    | some c2 =>
      simp only [aw,sg] at h;obtain ⟨s1,ad,af⟩:=h;obtain ⟨s2,aJ,aQ⟩:=x0 hi r s1 (tB.1 aB).2 aj (fun k av=>jI k (by simp [av])) af;obtain ⟨s3,q1,aW⟩:=Bk (jI j (by simp) aS c2 aw) ad aJ;exact ⟨s3,q1,by dsimp only;rw [aW];exact aQ⟩
def c5 (O:List Nat) (listed:Array Bool):List Nat:=O.filter fun i=>!listed.getD i true
theorem As {O:List Nat} (l2:O.Nodup) {i:Nat} {listed:Array Bool}:c5 O (listed.setIfInBounds i true)=(c5 O listed).erase i:=by
 have jP:(c5 O listed).Nodup:=l2.filter _;rw [jP.erase_eq_filter];simp only [c5,List.filter_filter];congr 1;funext j;by_cases g3:j=i
 ·subst g3;rcases sT j listed.size with h | h
  ·simp [sB,h]
  ·simp [sB,h]
 ·have:(listed.setIfInBounds i true).getD j true=listed.getD j true:=by
   simp only [sB];rw [vw (Ne.symm g3)]
  rw [this];simp [g3]
def fl (n p q:Nat):List Nat:=(List.range n).map fun i=>if i=p then q else if i=q then p else i
def lE (p q j i:Nat):Prop:=(j<i∧¬ (j=p∧i=q))∨(j=q∧i=p)
theorem x8 {n p:Nat} (aZ:p+1<n):(fl n p (p+1)).Pairwise (lE p (p+1)):=by
 unfold fl;rw [tW];refine List.Pairwise.imp (fun {a b} h=>?_) uR;unfold lE;split <;> split <;> (try split) <;> (try split) <;> omega
theorem x7 {n p:Nat} (aZ:p+1<n):(fl n p (p+1)).Nodup:=by
 unfold fl List.Nodup;rw [tW];refine List.Pairwise.imp (fun {a b} h=>?_) t_;split <;> split <;> (try split) <;> (try split) <;> omega
theorem m5 {n p:Nat} (aZ:p+1<n) (i:Nat):i∈fl n p (p+1)↔i<n:=by
 unfold fl;rw [sk];constructor
 ·rintro ⟨a,cb,rfl⟩;have:=sK.1 cb;split <;> (try split) <;> omega
 ·intro h;refine ⟨if i=p then p+1 else if i=p+1 then p else i,sK.2 ?_,?_⟩
  ·split <;> (try split) <;> omega
  ·by_cases ad:i=p
   ·subst ad;simp
   ·by_cases af:i=p+1
    ·subst af;simp
    ·simp [ad,af]
theorem BU {F:Fence} (bE:ei F) {C:b7} (bu:da P C) {lo:Nat} {ops:Array Oper} {an:List b2} {p:Nat} (aZ:p+1<ops.size) (a2:nr ops an p (p+1)=true) {Q:Exit→Act→World→Prop} {s1 s2:a6} :
  ∀ (fuel:Nat) (listed:Array Bool) (s:a6) (a:Act) (w:World) (U:Nat→Option aH) (J:List Nat) (S:Nat→Nat→Prop),(c5 (List.range ops.size) listed).length≤fuel→lQ ops listed →
    ((cu P C lo ops an (c5 (List.range ops.size) listed) s=some s1∧cu P C lo ops an (c5 (fl ops.size p (p+1)) listed) s=some s2∧listed.getD p true=false∧listed.getD (p+1) true=false) ∨
      (cu P C lo ops an (c5 (List.range ops.size) listed) s=some s1∧listed.getD p true=true)∨(cu P C lo ops an (c5 (fl ops.size p (p+1)) listed) s=some s2∧listed.getD (p+1) true=true)) →
    cv B N U J S w s a→(∀ aF,aF=s1∨aF=s2→∀ aM w',Step B N U J S w aF aM w'→Q .normal aM w')→wpAnyIn F 0 P .any ops Q fuel listed a w:=by
 have cT:∀ j c2,ops[j]?=some c2→((hc ops.toList []).getD j 0=mL (hc ops.toList []) c2)∧(∀ e∈c2.after,Region.binds .any e=true→e.on<j) ∧
   ∀ i cN,i<j→ops[i]?=some cN→((hc ops.toList []).getD j 0).testBit i=true∨indep ops cN (an.getD i {}) c2 (an.getD j {})=true∨(i=p∧j=p+1):=fun j c2 aw=>by
  have aS:j<ops.size:=(sY.1 aw).1;simp only [nr,z5,sv,sK] at a2;have h:=a2 j aS;rw [aw] at h;simp only [sx,beq_iff_eq,sv,sK] at h;obtain ⟨⟨ad,af⟩,aG⟩:=h;refine ⟨ad,fun e he ag=>?_,fun i cN g3 hi=>?_⟩
  ·have:=af e (by simpa using he);simp only [ag,Bool.not_true,Bool.false_or] at this;simpa [te] using this
  ·have a5:=aG i g3;rw [hi] at a5;simp only [tI,sx] at a5;rcases a5 with (a5 | a5) | a5
   ·exact .inl a5
   ·exact .inr (.inl a5)
   ·exact .inr (.inr ⟨tb a5.1,tb a5.2⟩)
 have xH:∀ (listed:Array Bool),lQ ops listed→∀ (n k:Nat) ok,k≤n→ops[k]?=some ok→(∀ e∈ok.after,Region.binds .any e=true→listed.getD e.on false=true) →
   ∀ j,((hc ops.toList []).getD k 0).testBit j=true→listed.getD j false=true:=by
  intro listed cA n
  induction n with
  | zero =>
    intro k ok av aq eQ j aw;rw [(cT k ok aq).1] at aw;rcases mM _ j _ _ aw with h | ⟨e,he,ag,h⟩
    ·simp at h
    ·have:=(cT k ok aq).2.1 e (by simpa using he) ag;omega
  | succ n a9 =>
    intro k ok av aq eQ j aw;rw [(cT k ok aq).1] at aw;rcases mM _ j _ _ aw with h | ⟨e,he,ag,h⟩
    ·simp at h
    ·(have jG:e∈ok.after:=by simpa using he);have aS:=(cT k ok aq).2.1 e jG ag;have h5:=eQ e jG ag;rcases h with h | rfl
     ·have kC:=(sY.1 aq).1;have mj:ops[e.on]?=some ops[e.on]:=sA (by omega);have pQ:listed.getD e.on true=true:=by
       rcases sT e.on listed.size with aX | aX
       ·simp [sB,aX] at h5 ⊢;exact h5
       ·simp [sB,aX] at h5
      exact a9 e.on _ (by omega) mj (cA e.on _ mj pQ) j h
     ·exact h5
 have iL:∀ (O:List Nat) (listed:Array Bool) (i:Nat),i∈c5 O listed↔i∈O∧listed.getD i true=false:=fun O listed i=>by
  simp [c5]
 have l_:∀ (O:List Nat) (listed:Array Bool),(∀ i,i∈O↔i<ops.size)→c5 (List.range ops.size) listed=[]→c5 O listed=[]:=fun O listed l2 h=>by
  rw [uQ];intro i hi;have:=(iL _ _ _).1 hi;have af:i∈c5 (List.range ops.size) listed:=(iL _ _ _).2 ⟨sK.2 ((l2 i).1 this.1),this.2⟩;rw [h] at af;simp at af
 have yY:∀ (listed:Array Bool) (s:a6),c5 (List.range ops.size) listed=[] →
   ((cu P C lo ops an (c5 (List.range ops.size) listed) s=some s1∧cu P C lo ops an (c5 (fl ops.size p (p+1)) listed) s=some s2∧listed.getD p true=false∧listed.getD (p+1) true=false) ∨
     (cu P C lo ops an (c5 (List.range ops.size) listed) s=some s1∧listed.getD p true=true)∨(cu P C lo ops an (c5 (fl ops.size p (p+1)) listed) s=some s2∧listed.getD (p+1) true=true))→s=s1∨s=s2:=fun listed s h hinv=>by
  have af:=l_ _ listed (m5 aZ) h;rw [h,af] at hinv;simp only [cu,Option.some.injEq] at hinv;rcases hinv with h | h | h
  ·exact .inl h.1
  ·exact .inl h.1
  ·exact .inr h.1
 have front:∀ (O:List Nat) (R:Nat→Nat→Prop),O.Pairwise R→O.Nodup→(∀ i,i∈O↔i<ops.size)→∀ (listed:Array Bool) (s aF:a6) (i:Nat) (cN:Oper),lQ ops listed→ops[i]?=some cN→listed.getD i true=false →
   (∀ e∈cN.after,Region.binds .any e=true→listed.getD e.on false=true)→(∀ j,R j i→listed.getD j true=false→j<i∧¬ (j=p∧i=p+1))→cu P C lo ops an (c5 O listed) s=some aF →
   ∃ s3,dz P C lo ops cN (an.getD i {}) s=some s3∧cu P C lo ops an (c5 O (listed.setIfInBounds i true)) s3=some aF:=by
  intro O R CD CC CB listed s aF i cN cA ee ad eQ jB dK;have aS:=(sY.1 ee).1
  obtain ⟨s3,q1,aW⟩:=x0 ee (R:=R) (c5 O listed) s (CD.filter _) ((iL _ _ _).2 ⟨(CB i).2 aS,ad⟩) (fun j aw g5 c2 pP=>by
   have dx:=((iL _ _ _).1 aw).2;obtain ⟨jJ,bN⟩:=jB j g5 dx;rcases (cT i cN ee).2.2 j c2 jJ pP with h | h | h
   ·have:=xH listed cA i i cN (sd _) ee eQ j h;rcases sT j listed.size with aX | aX
    ·simp [sB,aX] at dx this;rw [this] at dx;simp at dx
    ·simp [sB,aX] at dx
   ·exact h
   ·exact absurd h bN) dK
  exact ⟨s3,q1,by rw [As CC];exact aW⟩
 intro fuel
 induction fuel with
 | zero =>
   intro listed s a w U J S pA cA hinv aL bo;have h4:c5 (List.range ops.size) listed=[]:=List.length_eq_zero_iff.1 (by omega);refine ⟨?_,bo s (yY listed s h4 hinv) a w (Step.here aL)⟩;rw [uQ];intro i hi;obtain ⟨ad,o,aq,_⟩:=mem_ready.1 hi
   have:i∈c5 (List.range ops.size) listed:=(iL _ _ _).2 ⟨sK.2 (sY.1 aq).1,by simp [ad]⟩
   rw [h4] at this;simp at this
 | succ fuel a9 =>
   intro listed s a w U J S pA cA hinv aL bo;refine ⟨fun aj=>?_,fun i hi=>?_⟩
   ·have h4:c5 (List.range ops.size) listed=[]:=by
     rw [uQ];intro i
     induction i using Nat.strongRecOn with
     | _ i xi =>
       intro hi;obtain ⟨aS,dx⟩:=(iL _ _ _).1 hi;have aS:=sK.1 aS;have aq:ops[i]?=some ops[i]:=sA aS
       have:i∈Region.ready .any ops listed:=mem_ready.2 ⟨by simpa using dx,_,aq,fun e he ag=>by
        have h3:=(cT i _ aq).2.1 e he ag;have kG:=xi e.on h3;have ao:listed.getD e.on true=true:=by
         cases ak:listed.getD e.on true with
         | true=>rfl
         | false=>exact absurd ((iL _ _ _).2 ⟨sK.2 (by omega),ak⟩) kG
        rcases sT e.on listed.size with aX | aX
        ·simp [sB,aX] at ao ⊢;exact ao
        ·rcases sT i listed.size with l1 | l1
         ·omega
         ·simp [sB,l1] at dx⟩
       rw [aj] at this;simp at this
    exact bo s (yY listed s h4 hinv) a w (Step.here aL)
   ·obtain ⟨ad,cN,ee,eQ⟩:=mem_ready.1 hi;have aS:=(sY.1 ee).1;(have iF:listed.getD i true=false:=by simpa using ad);have kE:i∈c5 (List.range ops.size) listed:=(iL _ _ _).2 ⟨sK.2 aS,iF⟩;have kx:∀ i,i∈List.range ops.size↔i<ops.size:=fun i=>sK;have bO:i<listed.size:=by
     rcases sT i listed.size with aX | aX
     ·exact aX
     ·simp [sB,aX] at iF
    have nN:(listed.setIfInBounds i true).getD i true=true:=by
     simp [sB,bO]
    have bN:∀ k,k≠i→(listed.setIfInBounds i true).getD k true=listed.getD k true:=fun k av=>by
     simp only [sB];rw [vw (Ne.symm av)]
    obtain ⟨s3,q1,C7⟩:∃ s3,dz P C lo ops cN (an.getD i {}) s=some s3 ∧
      ((cu P C lo ops an (c5 (List.range ops.size) (listed.setIfInBounds i true)) s3=some s1∧cu P C lo ops an (c5 (fl ops.size p (p+1)) (listed.setIfInBounds i true)) s3=some s2∧(listed.setIfInBounds i true).getD p true=false∧(listed.setIfInBounds i true).getD (p+1) true=false) ∨
        (cu P C lo ops an (c5 (List.range ops.size) (listed.setIfInBounds i true)) s3=some s1∧(listed.setIfInBounds i true).getD p true=true)∨(cu P C lo ops an (c5 (fl ops.size p (p+1)) (listed.setIfInBounds i true)) s3=some s2∧(listed.setIfInBounds i true).getD (p+1) true=true)):=by
     rcases hinv with ⟨ca,b5,en,iD⟩ | ⟨ca,b5⟩ | ⟨ca,b5⟩
     ·by_cases mb:i=p
      ·obtain ⟨s3,aJ,aQ⟩:=front _ _ uR t_ kx listed s s1 i cN cA ee iF eQ (fun j aw _=>⟨aw,by omega⟩) ca;exact ⟨s3,aJ,.inr (.inl ⟨aQ,by rw [←mb];exact nN⟩)⟩
      ·by_cases mc:i=p+1
       ·obtain ⟨s3,aJ,aQ⟩:=front _ _ (x8 aZ) (x7 aZ) (m5 aZ) listed s s2 i cN cA ee iF eQ (fun j aw _=>by unfold lE at aw;omega) b5;exact ⟨s3,aJ,.inr (.inr ⟨aQ,by rw [←mc];exact nN⟩)⟩
       ·obtain ⟨s3,aJ,aQ⟩:=front _ _ uR t_ kx listed s s1 i cN cA ee iF eQ (fun j aw _=>⟨aw,by omega⟩) ca;obtain ⟨G',cn,mD⟩:=front _ _ (x8 aZ) (x7 aZ) (m5 aZ) listed s s2 i cN cA ee iF eQ (fun j aw _=>by unfold lE at aw;omega) b5;rw [aJ] at cn;cases cn;exact ⟨s3,aJ,.inl ⟨aQ,mD,by rw [bN _ (Ne.symm mb)];exact en,by rw [bN _ (Ne.symm mc)];exact iD⟩⟩
     ·obtain ⟨s3,aJ,aQ⟩:=front _ _ uR t_ kx listed s s1 i cN cA ee iF eQ (fun j aw dx=>⟨aw,fun e=>by rw [e.1,b5] at dx;simp at dx⟩) ca;refine ⟨s3,aJ,.inr (.inl ⟨aQ,?_⟩)⟩;by_cases mb:p=i
      ·rw [mb];exact nN
      ·rw [bN _ mb];exact b5
     ·obtain ⟨s3,aJ,aQ⟩:=front _ _ (x8 aZ) (x7 aZ) (m5 aZ) listed s s2 i cN cA ee iF eQ (fun j aw dx=>by
       unfold lE at aw;rcases aw with aw | ⟨rfl,_⟩
       ·exact aw
       ·rw [b5] at dx;simp at dx) ca
      refine ⟨s3,aJ,.inr (.inr ⟨aQ,?_⟩)⟩;by_cases mc:p+1=i
      ·rw [mc];exact nN
      ·rw [bN _ mc];exact b5
    refine Bn bE bu ee q1 aL fun aM w' ai=>?_;obtain ⟨b4,c0,a7,aJ,aQ,cf⟩:=ai;refine a9 (listed.setIfInBounds i true) s3 aM w' b4 c0 a7 ?_ ?_ C7 cf fun aF g7 gT hq dL=>bo aF g7 gT hq (dL.trans aJ aQ)
    ·rw [As t_,List.length_erase_of_mem kE];omega
    ·intro k ok av ao e he ag;by_cases iJ:k=i
     ·subst iJ;rw [ee] at av;cases av;exact getD_set_true (eQ e he ag)
     ·have:listed.getD k true=true:=by rw [getD_set_ne true (Ne.symm iJ)] at ao;exact ao
      exact getD_set_true (cA k ok av this e he ag)
theorem ER {F:Fence} (bE:ei F) (hm:P.follows .mixedOrders=true) {C:b7} (bu:da P C) {lo id:Nat} {ops:Array Oper} {an:List b2} {p:Nat} (aZ:p+1<ops.size) (a2:nr ops an p (p+1)=true) {Q:Exit→Act→World→Prop} {s s1 s2:a6} {a:Act}
  (ad:cu P C lo ops an (List.range ops.size) s=some s1) (af:cu P C lo ops an (fl ops.size p (p+1)) s=some s2) (aL:cv B N U J S w s a) (bo:∀ aF,aF=s1∨aF=s2→∀ aM w',Step B N U J S w aF aM w'→Q .normal aM w'):(Code.region id ops true).wpIn F 0 P Q a w:=by
 refine wpIn_region_any hm ?_;have hw:aK B U J S w.drew s.H:=mo aL.H;have aA:=kq U S w;have ga:cv B N U J S w.drew s a:=⟨⟨aL.T.len,fun i u v hu ae=>(aL.T.rel i u v hu ae).mono (Ext.refl J) aA.set,fun i u v hu ae=>(aL.T.own i u v hu ae).mono (Ext.refl J) aA.set fun b ag=>⟨ag,rfl,fun _ h=>h⟩⟩,hw,aL.M.aA aA⟩;have dx:∀ i,i<ops.size→(Array.replicate ops.size false).getD i true=false:=fun i hi=>by simp [sB,hi]
 have kK:∀ O:List Nat,(∀ i,i∈O↔i<ops.size)→c5 O (Array.replicate ops.size false)=O:=fun O l2=>by
  simp only [c5];rw [List.filter_eq_self];intro i hi;rw [dx i ((l2 i).1 hi)];rfl
 have kx:∀ i,i∈List.range ops.size↔i<ops.size:=fun i=>sK;refine BU bE bu aZ a2 (s1:=s1) (s2:=s2) (lo:=lo) ops.size (Array.replicate ops.size false) s a w.drew U J S (by rw [kK _ kx];simp) ?_ (.inl ⟨by rw [kK _ kx];exact ad,by rw [kK _ (m5 aZ)];exact af,dx _ (by omega),dx _ aZ⟩) ga fun aF g7 aM w' ai=>bo aF g7 aM w' (ai.trans (Ext.refl J) aA);intro k o aq ao;have aS:=(sY.1 aq).1;rw [dx k aS] at ao;cases ao
end
end Go.Proofs.YtfakoboiahbhaaaGreat.Ab


namespace Go.Proofs.YtfakoboiahbhaaaGreat.Ab
open Go
section
variable (P:Program)
def iv (lo:Nat) (ops:Array Oper) (o:Oper) (an:b2) (s:a6) (K:a6→Prop):Prop :=
 (∃ C aF,da P C∧dz P C lo ops o an s=some aF∧K aF)∨yi o s K
def runN (lo:Nat) (ops:Array Oper):List Oper→List b2→a6→(a6→Prop)→Prop
 | [],_,s,K=>K s
 | o::r,as,s,K=>iv P lo ops o (as.headD {}) s fun aF=>runN lo ops r as.tail aF K
def E' (lo:Nat) (ops:Array Oper) (as:List b2) (s:a6) (K:a6→Prop):Prop :=
 ∃ acc aF,ht P acc∧(∀ C,da P C→hR C acc→eO P C lo ops ops.toList as s=some aF)∧K aF
def Fa (lo:Nat) (ops:Array Oper) (as:List b2) (p:Nat) (s:a6) (K:a6→Prop):Prop :=
 ∃ acc s1 s2,ht P acc∧(∀ C,da P C→hR C acc→cu P C lo ops as (List.range ops.size) s=some s1∧cu P C lo ops as (fl ops.size p (p+1)) s=some s2)∧K s1∧K s2
def fy (f:a6→(cz→a6→Prop)→Prop):Nat→a6→(cz→a6→Prop)→Prop
 | 0,_,_=>False
 | n+1,s,Q=>f s fun e aF=>match e with
   | .normal=>fy f n aF Q
   | e=>Q e aF
def c8 (A:db) (fn:FuncId) (lo:Nat) (rl:Option Nat):Code→Nat→a6→(cz→a6→Prop)→Prop
 | .skip,_,s,Q=>Q .normal s
 | .region id ops draw,_,s,Q=>match ke A id draw with
   | some p=>Fa P lo ops (A.ops.getD id []) p (e2 A.h' id s) (Q .normal)
   | none=>match draw with
     | true=>E' P lo ops (A.ops.getD id []) (e2 A.h' id s) (Q .normal)
     | false=>runN P lo ops ops.toList (A.ops.getD id []) (e2 A.h' id s) (Q .normal)
 | .seq a b,a1,s,Q=>c8 A fn lo rl a a1 s fun e aF=>match e with
   | .normal=>c8 A fn lo rl b a1 aF Q
   | e=>Q e aF
 | .cond c a b,a1,s,Q=>(∃ t,aA s.T c=.bool t∧match t with
   | true=>c8 A fn lo rl a a1 s Q
   | false=>c8 A fn lo rl b a1 s Q)∨(aA s.T c=.dt∧c8 A fn lo rl a a1 s Q∧c8 A fn lo rl b a1 s Q)
 | .block id body,_,s,Q=>c8 A fn lo rl body id s fun e aF=>match e with
   | .exit bz=>if bz=id then Q .normal aF else Q (.exit bz) aF
   | e=>Q e aF
 | .loop body,a1,s,Q=>∃ n,fy (fun aF=>c8 A fn lo rl body a1 (e2 A.h_ a1 aF)) n s Q
 | .exit id,_,s,Q=>Q (.exit id) s
 | .ret,_,s,Q=>Q .ret s
 | .scope body,a1,s,Q=>c8 A fn lo rl body a1 s Q
 | .label _,_,s,Q=>Q .normal s
 | .rangeFunc f params assign body,a1,s,Q=>∃ C e aF,da P C∧exec P A C fn lo 0 rl (.rangeFunc f params assign body) a1 s=some (e,aF)∧Q e aF
 | _,_,_,_=>False
end
section
variable {P:Program} {B N:Nat} {J:List Nat} {w:World} {H:List ar} {U:Nat→Option aH} {S:Nat→Nat→Prop}
theorem Gc {F:Fence} (bE:ei F) {lo:Nat} {ops:Array Oper} {o:Oper} {an:b2} {s:a6} {K':a6→Prop} (h:iv P lo ops o an s K') {a:Act} (aL:cv B N U J S w s a)
  {rest:List Oper} {Q:Exit→Act→World→Prop} (fF:∀ aF,K' aF→∀ aM w',Step B N U J S w aF aM w'→wpListIn F 0 P ops Q rest aM w'):wpListIn F 0 P ops Q (o::rest) a w:=by
 rcases h with ⟨C,aF,bu,h,av⟩ | h
 ·unfold dz at h;unfold wpListIn;split at h
  ·rename_i hw;rw [lu aL hw];simp only [if_true];exact x6 bE bu h aL fun aM w' ai=>fF aF av aM w' ai
  ·rename_i hw;rw [lu aL hw];simp only [tG,if_false];simp only [Option.some.injEq] at h;subst h;exact ⟨fun f _=>bE.fn f,fF _ av _ _ (Step.here (aL.skip o.dst))⟩
  ·simp at h
 ·have aO:o.guard=none:=by obtain ⟨_,_,_,_,_,_,_,_,aO,_⟩:=h;exact aO
  unfold wpListIn;have hw:Region.wanted o (yielded ops a.tmps)=true:=by unfold Region.wanted;rw [aO]
  rw [hw];simp only [if_true];exact Er bE h aL fun aF av aM w' ai=>fF aF av aM w' ai
theorem AP {F:Fence} (bE:ei F) {lo:Nat} {ops:Array Oper} {K':a6→Prop} {Q:Exit→Act→World→Prop} :
  ∀ (rest:List Oper) (as:List b2) (s:a6) (a:Act) (w:World) (U:Nat→Option aH) (J:List Nat) (S:Nat→Nat→Prop),runN P lo ops rest as s K'→cv B N U J S w s a →
    (∀ aF,K' aF→∀ aM w',Step B N U J S w aF aM w'→Q .normal aM w')→wpListIn F 0 P ops Q rest a w
 | [],as,s,a,w,U,J,S,h,aL,bo=>bo s h a w (Step.here aL)
 | o::rest,as,s,a,w,U,J,S,h,aL,bo=>by
   refine Gc bE h aL fun aF av aM w' ai=>?_;obtain ⟨b4,c0,a7,aJ,aQ,cf⟩:=ai;exact AP bE rest as.tail aF aM w' b4 c0 a7 av cf fun Fm C9 gT hq dL=>bo Fm C9 gT hq (dL.trans aJ aQ)
theorem DZ {F:Fence} {c:Code} {f:a6→(cz→a6→Prop)→Prop} {cF:cz→a6→Prop} {Q:Exit→Act→World→Prop} {s:a6} {a:Act} {n:Nat}
  (h:fy f n s cF) (aL:cv B N U J S w s a) (bo:∀ e aF,cF e aF→∀ aM w',Step B N U J S w aF aM w'→Q (toExit e) aM w')
  (kz:∀ (s1:a6) (oM:cz→a6→Prop),f s1 oM→∀ (lD:Exit→Act→World→Prop) (aC:Act) (bG:World),(∀ l a w,lD (.goto l) a w→Q (.goto l) a w)→Step B N U J S w s1 aC bG →
   (∀ e s2,oM e s2→∀ aM w',Step B N U J S w s2 aM w'→lD (toExit e) aM w')→c.wpIn F 0 P lD aC bG):(Code.loop c).wpIn F 0 P Q a w:=by
 classical
 let Inv:Nat→Act→World→Prop:=fun n aM w'=>∃ s1,fy f n s1 cF∧Step B N U J S w s1 aM w'
 let gp:Act→World→Nat:=fun aM w'=>if h:∃ n,Inv n aM w' then Classical.choose (ks h) else 0
 have my:∀ aM w',(∃ n,Inv n aM w')→Inv (gp aM w') aM w'∧∀ m,Inv m aM w'→gp aM w'≤m:=fun aM w' h=>by
  have:gp aM w'=Classical.choose (ks h):=by simp only [gp,dif_pos h]
  rw [this];exact vG (ks h)
 refine wpIn_loop (fun aM w'=>∃ n,Inv n aM w') gp ⟨n,s,h,Step.here aL⟩ fun aC bG kv=>?_;obtain ⟨⟨s1,ad,gG⟩,_⟩:=my aC bG kv;cases aN:gp aC bG with
 | zero=>rw [aN] at ad;exact ad.elim
 | succ m =>
   rw [aN] at ad;simp only [fy] at ad;refine kz s1 _ ad _ aC bG (fun l a w h=>h) gG fun e s2 av aM w' dL=>?_;cases e with
   | normal =>
     have hinv:Inv m aM w':=⟨s2,av,dL⟩;exact ⟨⟨m,hinv⟩,Nat.lt_succ_of_le ((my aM w' ⟨m,hinv⟩).2 m hinv)⟩
   | ret=>exact bo .ret s2 av aM w' dL
   | exit id=>exact bo (.exit id) s2 av aM w' dL
theorem By (eo:P.follows .mixedOrders=true) {A:db} {fn:FuncId} {lo:Nat} {rl:Option Nat} :
  ∀ (c:Code) (a1:Nat) (s:a6) (K:cz→a6→Prop),c8 P A fn lo rl c a1 s K→codeOk A c=true →
    ∀ (F:Fence) (Q:Exit→Act→World→Prop) (B N:Nat) (J:List Nat) (w:World) (U:Nat→Option aH) (S:Nat→Nat→Prop) (a:Act),jl F rl J→(∀ l a w,¬ Q (.goto l) a w) →
      cv B N U J S w s a→(∀ e aF,K e aF→∀ aM w',Step B N U J S w aF aM w'→Q (toExit e) aM w')→c.wpIn F 0 P Q a w:=by
 intro c
 induction c with
 | skip=>intro a1 s K h _ F Q B N J w U S a bE aO aL bo;exact wpIn_skip (bo _ _ h a w (Step.here aL))
 | label l=>intro a1 s K h _ F Q B N J w U S a bE aO aL bo;exact wpIn_label (bo _ _ h a w (Step.here aL))
 | ret=>intro a1 s K h _ F Q B N J w U S a bE aO aL bo;exact wpIn_ret (bo _ _ h a w (Step.here aL))
 | exit id=>intro a1 s K h _ F Q B N J w U S a bE aO aL bo;exact wpIn_exit (bo _ _ h a w (Step.here aL))
 | goto l=>intro a1 s K h;exact h.elim
 | refuse y=>intro a1 s K h;exact h.elim
 | region id ops draw =>
   intro a1 s K h bP F Q B N J w U S a bE aO aL bo;simp only [c8] at h;simp only [codeOk,xE] at bP;split at h
   ·rename_i p kN;rw [kN] at bP;simp only [sx,te] at bP;cases draw with
    | false=>simp [ke] at kN
    | true =>
      obtain ⟨acc,s1,s2,hA,ak,C_,pG⟩:=h;obtain ⟨C,bu,cd⟩:=oQ hA;obtain ⟨lx,ly⟩:=ak C bu cd;exact ER bE.lX eo bu bP.1 bP.2 lx ly (aL.cC _ _) fun aF g7 aM w' ai=>by
       rcases g7 with rfl | rfl
       ·exact bo _ _ C_ aM w' ai
       ·exact bo _ _ pG aM w' ai
   rename_i kN;rw [kN] at bP;cases draw with
   | true =>
     obtain ⟨acc,aF,hA,ak,av⟩:=h;obtain ⟨C,bu,cd⟩:=oQ hA;exact An bE.lX eo bu (fun _=>by simpa using bP) (ak C bu cd) (aL.cC _ _) fun aM w' ai=>bo _ _ av aM w' ai
   | false=>exact wpIn_region_list (AP bE.lX ops.toList _ _ a w U J S h (aL.cC _ _) fun aF av aM w' ai=>bo _ _ av aM w' ai)
 | seq x y nT xj =>
   intro a1 s K h bP F Q B N J w U S a bE aO aL bo;simp only [codeOk,sx] at bP;refine wpIn_seq (nT _ _ _ h bP.1 F _ B N J w U S a bE (fun l a w=>aO l a w) aL fun e s1 av aM w' ai=>?_);cases e with
   | normal =>
     obtain ⟨b4,c0,a7,aJ,aQ,cf⟩:=ai;exact xj _ _ _ av bP.2 F Q B N c0 w' b4 a7 aM (bE.ext aJ) aO cf fun e s2 pG gT hq dL=>bo e s2 pG gT hq (dL.trans aJ aQ)
   | ret=>exact bo _ _ av aM w' ai
   | exit id=>exact bo _ _ av aM w' ai
 | cond x t f nS nR =>
   intro a1 s K h bP F Q B N J w U S a bE aO aL bo;simp only [codeOk,sx] at bP;rcases h with ⟨b,ag,h⟩ | ⟨ag,ad,af⟩
   ·have aj:=aL.aA x;rw [ag] at aj;cases b with
    | true=>exact wpIn_cond_true aj.hY (nS _ _ _ h bP.1 F Q B N J w U S a bE aO aL bo)
    | false=>exact wpIn_cond_false aj.hY (nR _ _ _ h bP.2 F Q B N J w U S a bE aO aL bo)
   ·have aj:=aL.aA x;rw [ag] at aj;obtain ⟨b,aj⟩:=aj.BV;cases b with
    | true=>exact wpIn_cond_true aj (nS _ _ _ ad bP.1 F Q B N J w U S a bE aO aL bo)
    | false=>exact wpIn_cond_false aj (nR _ _ _ af bP.2 F Q B N J w U S a bE aO aL bo)
 | block id c a9 =>
   intro a1 s K h bP F Q B N J w U S a bE aO aL bo;refine wpIn_block ?_;refine a9 _ _ _ h bP F _ B N J w U S a bE (fun l a w=>aO l a w) aL fun e s1 av aM w' ai=>?_;cases e with
   | normal=>exact bo _ _ av aM w' ai
   | ret=>exact bo _ _ av aM w' ai
   | exit bz =>
     simp only at av;by_cases aE:bz=id
     ·simp only [aE,if_true] at av;simp only [toExit,Exit.inBlock,aE,if_true];exact bo _ _ av aM w' ai
     ·simp only [aE,if_false] at av;simp only [toExit,Exit.inBlock,aE,if_false];exact bo _ _ av aM w' ai
 | loop c a9 =>
   intro a1 s K h bP F Q B N J w U S a bE aO aL bo;obtain ⟨n,h⟩:=h;refine DZ h aL bo fun s1 oM ad lD aC bG Dp ai fF=>?_;obtain ⟨b4,c0,a7,aJ,aQ,cf⟩:=ai;exact a9 _ _ _ ad bP F lD B N c0 bG b4 a7 aC (bE.ext aJ) (fun l a w h=>aO l a w (Dp l a w h)) (cf.cC _ _) fun e s2 av aM w' dL=>fF e s2 av aM w' (dL.trans aJ aQ)
 | scope c a9 =>
   intro a1 s K h bP F Q B N J w U S a bE aO aL bo;exact BA (a9 _ _ _ h bP F Q B N J w U S a bE aO aL bo) aO
 | rangeFunc f params assign body _ _ =>
   intro a1 s K h bP F Q B N J w U S a bE aO aL bo;obtain ⟨C,e,aF,bu,ak,av⟩:=h;exact nv bu eo _ _ _ _ _ ak bP F Q B N J w U S a bE aO aL fun aM w' ai=>bo _ _ av aM w' ai
def lB (H H':List ar):Prop:=H'.length=H.length∧∀ (id:Nat) (o:ar),H'[id]?=some o→o=.dead∨H[id]?=some o
theorem lB.refl (H:List ar):lB H H:=⟨rfl,fun _ _ h=>.inr h⟩
theorem aK.o6 {H':List ar} (ah:aK B U J S w H) (h:lB H H'):aK B U J S w H' :=
 ⟨by rw [h.1];exact ah.cD,fun id o aq=>by
  rcases h.2 id o aq with rfl | aX
  ·trivial
  ·exact ah.obj id o aX,ah.cc,ah.base,ah.cV⟩
theorem a0.o6 {H1 H':List ar} {r:I} {v:Value} {w':World} (h:lB H1 H') (aB:a0 B U J S w H1 r v w'):a0 B U J S w H' r v w':=by
 obtain ⟨bq,cj,bK,a,b,c,d⟩:=aB;exact ⟨bq,cj,bK,a,b,c.o6 h,d⟩
theorem EI (eo : P.follows .mixedOrders = true) {k : Nat} {f : Func} {c : Code} (aP : P.funcs[k]? = some f) (ag : f.body = some c) (aN : f.name ≠ "runtime.NumGoroutine") {A : db} (bP : codeOk A c = true)
  {args:List I} {v:I} (aB:ch 8 v=true)
  (h:c8 P A k 0 none c 0 ⟨args++List.replicate (f.ntmps-args.length) .junk,[]⟩ fun e s=>(e=.normal∨e=.ret)∧∃ vs r,fk P s.H s.T f.results.toList=some vs∧bI s.H 0 s.H.length 0 8 (hj vs)=some r∧(r=v∨r.settle=v)):lC P k args v:=by
 refine ⟨⟨bb.refl _ _,⟨f,aP,by simp [ag],aN⟩,fun B U J S w xs ah _ ae=>?_⟩,aB⟩;refine callsIn_of_wp_marks aP ag trivial ?_;have aL:=x5 ah ae f.ntmps;have dv:=(oE ah).1;refine By eo c 0 _ _ h bP Fence.wide _ B w.heap.size J w (hP U) S _ (.inl ⟨rfl,rfl⟩) (fun l a w aO=>aO.elim) aL fun e s av aM w' ai=>?_;obtain ⟨he,vs,r,aj,C0,eD⟩:=av;obtain ⟨b4,c0,a7,aJ,aQ,cf⟩:=ai;have iK:LeavesInM Fence.wide 0 P f aM.tmps (fS B U J S w [] v) aM.defers .returning w':=by
  refine nW (U:=b4) (S:=a7) (J:=c0) (B:=B) (H:=s.H) (lA:=U) (S0:=S) (w0:=w) aM.defers w' cf.M.2.1 cf.M.2.2 (dv.trans aQ) cf.H fun bX dy dm mB mC=>?_
  have bW:a8 .slot b4 c0 a7 bX s.T aM.tmps.toList:=⟨cf.T.len,fun i u v hu ae=>(cf.T.rel i u v hu ae).mono (Ext.refl _) (fun b o h=>⟨h,dm b o h⟩),fun i u v hu ae =>
   (cf.T.own i u v hu ae).mono (Ext.refl _) (fun b o h=>⟨h,dm b o h⟩) fun b ag=>⟨ag,dy b _ ag,fun _ h=>h⟩⟩
  obtain ⟨x,q1,aW⟩:=xI mC bW aj;have kI:=xz ah (fun id aE=>by simp at aE) C0 (a0.after aJ mB aW);refine ⟨x,q1,?_⟩;rcases eD with rfl | eD
  ·exact kI
  ·cases r with
   | ax cells len ej =>
     cases ej with
     | uniq z=>simp only [I.settle] at eD;subst eD;exact kI.settle
     | _=>simp only [I.settle] at eD;subst eD;exact kI
   | _=>simp only [I.settle] at eD;subst eD;exact kI
 rcases he with rfl | rfl
 ·exact iK
 ·exact iK
theorem Hb (eo : P.follows .mixedOrders = true) {k : Nat} {f : Func} {c : Code} (aP : P.funcs[k]? = some f) (ag : f.body = some c) (aN : f.name ≠ "runtime.NumGoroutine") {A : db} (bP : codeOk A c = true)
  {lo:Nat} {args:List I} {H H':List ar} {r:I} (ao:bb lo H H')
  (h:c8 P A k lo none c 0 ⟨args++List.replicate (f.ntmps-args.length) .junk,H⟩ fun e s=>(e=.normal∨e=.ret)∧lB s.H H'∧∃ vs,fk P s.H s.T f.results.toList=some vs∧hj vs=r):Sem P (.fn k) args H lo r H':=by
 refine ⟨ao,⟨f,aP,by simp [ag],aN⟩,fun B U J S w xs ah _ ae=>?_⟩;refine callsIn_of_wp_marks aP ag trivial ?_;have aL:=x5 ah ae f.ntmps;have dv:=(oE ah).1;refine By eo c 0 _ _ h bP Fence.wide _ B w.heap.size J w (hP U) S _ (.inl ⟨rfl,rfl⟩) (fun l a w aO=>aO.elim) aL fun e s av aM w' ai=>?_;obtain ⟨he,nC,vs,aj,rfl⟩:=av;obtain ⟨b4,c0,a7,aJ,aQ,cf⟩:=ai;have iK:LeavesInM Fence.wide 0 P f aM.tmps (fS B U J S w H' (hj vs)) aM.defers .returning w':=by
  refine nW (U:=b4) (S:=a7) (J:=c0) (B:=B) (H:=s.H) (lA:=U) (S0:=S) (w0:=w) aM.defers w' cf.M.2.1 cf.M.2.2 (dv.trans aQ) cf.H fun bX dy dm mB mC=>?_
  have bW:a8 .slot b4 c0 a7 bX s.T aM.tmps.toList:=⟨cf.T.len,fun i u v hu ae=>(cf.T.rel i u v hu ae).mono (Ext.refl _) (fun b o h=>⟨h,dm b o h⟩),fun i u v hu ae =>
   (cf.T.own i u v hu ae).mono (Ext.refl _) (fun b o h=>⟨h,dm b o h⟩) fun b ag=>⟨ag,dy b _ ag,fun _ h=>h⟩⟩
  obtain ⟨v,q1,aW⟩:=xI mC bW aj;exact ⟨v,q1,(a0.after aJ mB aW).o6 nC⟩
 rcases he with rfl | rfl
 ·exact iK
 ·exact iK
end
end Go.Proofs.YtfakoboiahbhaaaGreat.Ab


namespace Go.Proofs.YtfakoboiahbhaaaGreat.Ab
open Go
inductive jn where
 | sl (t:Nat) | jf (t:Nat) | Bs (t:Nat) | lR (v:I)
inductive e8 where
 | one | str (s:Nat) | arr (s:Nat)
inductive hV where
 | int (k:IntKind) | str (n:Nat)
inductive iu where
 | mN | nil (z:Nat) | Bq
 | zx (a:e8) | zy (a:e8) | take | Bp | Bj | Bi (s:Nat) | st (s:Nat) | box | yq | alloc (z:List I)
 | zU (z:List I) (s bytes:Nat)
 | zT (z:List I) (s bytes:Nat)
 | zC | zA (n:Nat) | min | max
 | app (s bytes:Nat)
 | yk (s bytes:Nat)
 | call (mode:Nat)
 | pick | build (z:List I) (bn:List (Nat×Nat)) | yt (k:Nat) (z:List I) (bn:List (Nat×Nat)) | yu (len s:Nat) (z:List I) (ix:List Nat) | yr (len s:Nat) (z:List I) (ix:List Nat)
 | zX | bin (op:BinOp) | oU (neq:Bool) | un (op:UnOp) | conv (k:IntKind)
 | zR (f:FuncId) (n m:Nat)
 | Bg (s:Nat) (l h m:Bool)
 | zS | zM (fi:hV) | zL (fi:hV) (ok:Bool) (zero:Option I) | zK (fi:hV) | AM | yB | zB
 | yG (off:Nat) | yM (off:Nat) (a:e8) | kQ (s:Nat) | zn (len s:Nat) | ext (i:Nat)
 | other (o:Oper) (mode:Nat)
structure dq where
 dst:Option Nat
 Gb:List jn
 guard:Option (Nat×Bool)
 ip:Option Nat
 k:iu
inductive fT where
 | skip
 | oh (draw:Bool) (l:List dq)
 | seq (a b:fT)
 | cond (c:jn) (a b:fT)
 | block (id:Nat) (c:fT)
 | loop (cC:Option (List Bool)) (c:fT)
 | exit (id:Nat)
 | ret
 | AL (f:jn) (params:List Nat) (assign body:Code)
 | zY (it:Nat) (dst:Option Nat) (l:List dq)
 | two (pre:List dq) (a b:dq) (post:List dq)
noncomputable section
def l9 (v:I) (K:I→Prop):Prop:=match v with
 | .int k n=>K (.int k n)
 | .bool b=>K (.bool b)
 | .ax c n .shared=>K (.ax c n .shared)
 | .ax c n .full=>K (.ax c n .full)
 | .ax c n (.own z)=>K (.ax c n (.own z))
 | .ax c n (.uniq z)=>K (.ax c n (.uniq z))
 | .agg cs=>K (.agg cs)
 | .ptr id off=>K (.ptr id off)
 | .bT cs=>K (.bT cs)
 | .ref id off n cap sz=>K (.ref id off n cap sz)
 | .func f a b=>K (.func f a b)
 | .yield id=>K (.yield id)
 | .map id=>K (.map id)
 | .tuple vs=>K (.tuple vs)
 | .junk=>K .junk
 | .eG=>K .eG
 | .str s=>K (.str s)
 | .raw c n z=>K (.raw c n z)
 | .ck i g n z=>K (.ck i g n z)
 | .dt=>K .dt
 | .cY as c n z bs=>K (.cY as c n z bs)
theorem nA (v:I) (K:I→Prop):l9 v K=K v:=by
 unfold l9;split <;> rfl
def hy:List I→Nat→(I→Prop)→Prop
 | [],_,K=>K .junk
 | h::_,0,K=>K h
 | _::t,n+1,K=>hy t n K
theorem iE:∀ (T:List I) (t:Nat) (K:I→Prop),hy T t K=K (c3 T t)
 | [],t,K=>rfl
 | h::T,0,K=>rfl
 | h::T,n+1,K=>by rw [hy,iE T n K];rfl
def jb:List I→Nat→I→(List I→Prop)→Prop
 | [],_,_,K=>K []
 | _::t,0,v,K=>K (v::t)
 | h::t,n+1,v,K=>jb t n v fun je=>K (h::je)
theorem j':∀ (T:List I) (t:Nat) (v:I) (K:List I→Prop),jb T t v K=K (gQ T t v)
 | [],t,v,K=>rfl
 | h::T,0,v,K=>rfl
 | h::T,n+1,v,K=>by rw [jb,j' T n v];rfl
def mW (T:List I) (d:Option Nat) (v:I) (K:List I→Prop):Prop:=match d with
 | some d=>jb T d v K
 | none=>K T
theorem xA (T:List I) (d:Option Nat) (v:I) (K:List I→Prop):mW T d v K=K (put T d v):=by
 cases d with
 | none=>rfl
 | some d=>exact j' T d v K
def kR:List Bool→List I→(List I→Prop)→Prop
 | b::bs,v::vs,K=>kR bs vs fun cU=>match b with
   | true=>K (v::cU)
   | false=>K (.junk::cU)
 | [],vs,K=>K vs
 | _::_,[],K=>K []
theorem zt:∀ (bs:List Bool) (vs:List I) (K:List I→Prop),kR bs vs K=K (eX bs vs)
 | [],vs,K=>by simp [kR,eX]
 | b::bs,[],K=>by simp [kR,eX]
 | b::bs,v::vs,K=>by rw [kR,zt bs vs];cases b <;> simp [eX]
def kh (v:I) (K:I→Prop):Prop:=match v with
 | .ax c n (.own _)=>K (.ax c n .shared)
 | .ax c n (.uniq _)=>K (.ax c n .shared)
 | .raw _ _ _=>K .junk
 | .cY _ _ _ _ _=>K .junk
 | .ck id _ n z=>K (.ref id 0 n none z)
 | v=>K v
theorem ki (v:I) (K:I→Prop):kh v K=K v.view:=by
 cases v with
 | ax c n k=>cases k <;> rfl
 | _=>rfl
def Bh (T:List I) (t:Nat) (v:I) (K:I→List I→Prop):Prop:=match v with
 | .ax c n (.uniq z)=>jb T t (.ax c n (.own z)) fun fU=>K (.ax c n .shared) fU
 | .ax c n (.own _)=>K (.ax c n .shared) T
 | .raw _ _ _=>K .junk T
 | .cY _ _ _ _ _=>K .junk T
 | .ck id _ n z=>K (.ref id 0 n none z) T
 | v=>K v T
theorem Ga (T:List I) (t:Nat) (v:I) (K:I→List I→Prop):Bh T t v K=K v.view (fR T t v):=by
 cases v with
 | ax c n k =>
   cases k with
   | uniq z=>exact j' _ _ _ _
   | _=>rfl
 | _=>rfl
def gj:List jn→List I→(List I→List I→Prop)→Prop
 | [],T,K=>K [] T
 | .lR v::r,T,K=>gj r T fun vs a'=>K (v::vs) a'
 | .jf t::r,T,K=>hy T t fun v=>jb T t .junk fun fU=>gj r fU fun vs a'=>K (v::vs) a'
 | .Bs t::r,T,K=>hy T t fun v=>kh v fun v=>jb T t .junk fun fU=>gj r fU fun vs a'=>K (v::vs) a'
 | .sl t::r,T,K=>hy T t fun v=>Bh T t v fun v fU=>gj r fU fun vs a'=>K (v::vs) a'
def hL (d_:Bool):List Bool→List Operand→List jn
 | _,[]=>[]
 | ts,.tmp t::rest=>(match ts.headD false,d_ with | true,true=>.jf t | true,false=>.Bs t | false,_=>.sl t)::hL d_ ts.tail rest
 | ts,x::rest=>.lR (match d_ with | true=>aA [] x | false=>(aA [] x).view)::hL d_ ts.tail rest
theorem iZ (d_:Bool):∀ (xs:List Operand) (ts:List Bool) (T:List I) (K:List I→List I→Prop),gj (hL d_ ts xs) T K=K (ft d_ (rd T ts xs).1) (rd T ts xs).2
 | [],ts,T,K=>by cases d_ <;> simp [hL,gj,rd,ft]
 | .tmp t::rest,ts,T,K=>by
   simp only [hL];cases bH:ts.headD false with
   | true =>
     cases d_ with
     | true =>
       simp only [gj,iE,j',rd,bH,iZ true rest];rfl
     | false =>
       simp only [gj,iE,j',ki,rd,bH,iZ false rest];rfl
   | false =>
     simp only [gj,iE,Ga,rd,bH,iZ d_ rest];cases d_
     ·simp only [ft,sG,I.kj (I.dg _)]
     ·rfl
 | .const v::rest,ts,T,K=>by
   simp only [hL,gj,rd,iZ d_ rest];cases d_ <;> rfl
 | .func v::rest,ts,T,K=>by
   simp only [hL,gj,rd,iZ d_ rest];cases d_ <;> rfl
 | .global v::rest,ts,T,K=>by
   simp only [hL,gj,rd,iZ d_ rest];cases d_ <;> rfl
end
end Go.Proofs.YtfakoboiahbhaaaGreat.Ab


namespace Go.Proofs.YtfakoboiahbhaaaGreat.Ab
open Go
noncomputable section
def eH {α:Type}:List α→Nat→(α→Prop)→Prop
 | [],_,_=>False
 | h::_,0,K=>K h
 | _::t,n+1,K=>eH t n K
theorem e3 {α:Type}:∀ {l:List α} {n:Nat} {K:α→Prop},eH l n K→∃ x,l[n]?=some x∧K x
 | [],_,_,h=>h.elim
 | h::_,0,_,k=>⟨h,rfl,k⟩
 | _::t,n+1,K,k=>by simpa using e3 (l:=t) (n:=n) (K:=K) k
theorem Es {α:Type}:∀ {l:List α} {n:Nat} {x:α} {K:α→Prop},l[n]?=some x→K x→eH l n K
 | [],_,_,_,h,_=>by simp at h
 | h::_,0,_,_,e,k=>by simp at e;subst e;exact k
 | _::t,n+1,_,K,e,k=>Es (l:=t) (n:=n) (by simpa using e) k
def ji:List I→Nat→I→(List I→Prop)→Prop
 | [],_,_,_=>False
 | _::t,0,v,K=>K (v::t)
 | h::t,n+1,v,K=>ji t n v fun je=>K (h::je)
theorem lq:∀ {l:List I} {n:Nat} {v:I} {K:List I→Prop},ji l n v K→n<l.length∧K (l.set n v)
 | [],_,_,_,h=>h.elim
 | _::_,0,_,_,k=>⟨by simp,k⟩
 | h::t,n+1,v,K,k=>by
   obtain ⟨ad,af⟩:=lq (l:=t) (n:=n) k;exact ⟨by simpa using ad,af⟩
theorem Bu:∀ {l:List I} {n:Nat} {v:I} {K:List I→Prop},n<l.length→K (l.set n v)→ji l n v K
 | [],_,_,_,h,_=>by simp at h
 | _::_,0,_,_,_,k=>k
 | h::t,n+1,v,K,e,k=>Bu (l:=t) (n:=n) (by simpa using e) k
def kg:List I→Nat→List I→(List I→Prop)→Prop
 | l,_,[],K=>K l
 | l,n,v::vs,K=>ji l n v fun l'=>kg l' (n+1) vs K
theorem m7:∀ {vs l:List I} {n:Nat} {K:List I→Prop},kg l n vs K→(n+vs.length≤l.length∨vs=[])∧K (setCells n vs l)
 | [],_,_,_,h=>⟨.inr rfl,h⟩
 | v::vs,l,n,K,h=>by
   obtain ⟨ad,af⟩:=lq h;obtain ⟨aG,a5⟩:=m7 af;refine ⟨.inl ?_,a5⟩;rcases aG with aG | rfl
   ·simp only [tc] at aG;simp only [sM];omega
   ·simp only [sM,uS];omega
theorem Gm:∀ {vs l:List I} {n:Nat} {K:List I→Prop},n+vs.length≤l.length→K (setCells n vs l)→kg l n vs K
 | [],_,_,_,_,h=>h
 | v::vs,l,n,K,ad,h=>Bu (by simp only [sM] at ad;omega) (Gm (by simp only [sM] at ad;simp only [tc];omega) h)
def oe:Nat→List I→Nat→(List I→Prop)→Prop
 | 0,_,_,K=>K []
 | s+1,l,off,K=>eH l off fun v=>kh v fun v=>l9 v fun v=>oe s l (off+1) fun vs=>K (v::vs)
theorem Ai:∀ {s:Nat} {l:List I} {off:Nat} {K:List I→Prop},oe s l off K→(off+s≤l.length∨s=0)∧K (((l.drop off).take s).map I.view)
 | 0,l,off,K,h=>⟨.inr rfl,by simpa [oe] using h⟩
 | s+1,l,off,K,h=>by
   obtain ⟨v,ae,h⟩:=e3 h;rw [ki,nA] at h;obtain ⟨ad,af⟩:=Ai h;have aS:=(sb.1 ae).1;refine ⟨.inl (by rcases ad with ad | rfl <;> omega),?_⟩;have a2:l.drop off=v::l.drop (off+1):=by
    rw [sQ aS,(sb.1 ae).2]
   rw [a2];simpa using af
def og:Nat→List I→Nat→(List I→Prop)→Prop
 | 0,_,_,K=>K []
 | s+1,l,off,K=>eH l off fun v=>l9 v fun v=>og s l (off+1) fun vs=>K (v::vs)
theorem Aj:∀ {s:Nat} {l:List I} {off:Nat} {K:List I→Prop},og s l off K→(off+s≤l.length∨s=0)∧K ((l.drop off).take s)
 | 0,l,off,K,h=>⟨.inr rfl,by simpa [og] using h⟩
 | s+1,l,off,K,h=>by
   obtain ⟨v,ae,h⟩:=e3 h;rw [nA] at h;obtain ⟨ad,af⟩:=Aj h;have aS:=(sb.1 ae).1;refine ⟨.inl (by rcases ad with ad | rfl <;> omega),?_⟩;have a2:l.drop off=v::l.drop (off+1):=by
    rw [sQ aS,(sb.1 ae).2]
   rw [a2];simpa using af
def mG (a:e8) (l:List I) (off:Nat) (K:I→Prop):Prop:=match a with
 | .one=>eH l off fun v=>kh v K
 | .str s=>oe s l off fun vs=>K (.agg vs)
 | .arr s=>off+s≤l.length∧K (.agg (((l.drop off).take s).map I.view))
def Ac (a:e8) (l:List I) (off:Nat) (K:I→Prop):Prop:=match a with
 | .one=>eH l off fun v=>kh v K
 | .str s=>og s l off fun vs=>K (.agg vs)
 | .arr s=>off+s≤l.length∧K (.agg ((l.drop off).take s))
def gU (P:Program) (t:TypeId):Option e8:=match dG P t,P.underlying t with
 | true,some (.struct _)=>(match bC P t with | some (s+1)=>some (.str (s+1)) | _=>none)
 | true,_=>(bC P t).map .arr
 | false,some _=>some .one
 | false,none=>none
section
variable {P:Program}
theorem oR {t:TypeId} {a:e8} (h:gU P t=some a):(a=.one∧dG P t=false∧∃ d,P.underlying t=some d)∨(∃ s,(a=.str (s+1)∧bC P t=some (s+1)∨a=.arr s∧bC P t=some s)∧dG P t=true):=by
 unfold gU at h;split at h
 ·rename_i ad _;split at h
  ·rename_i s ai;cases h;exact .inr ⟨_,.inl ⟨rfl,ai⟩,ad⟩
  ·cases h
 ·rename_i ad _;simp only [sa] at h;obtain ⟨s,ai,rfl⟩:=h;exact .inr ⟨s,.inr ⟨rfl,ai⟩,ad⟩
 ·rename_i d ad af;cases h;exact .inl ⟨rfl,ad,d,af⟩
 ·cases h
theorem nV {t:TypeId} {a:e8} (cb:gU P t=some a) {l:List I} {off:Nat} {K:I→Prop} (h:mG a l off K):∃ v,ev P t l off=some v∧K v:=by
 rcases oR cb with ⟨rfl,ad,d,af⟩ | ⟨s,af,ad⟩
 ·obtain ⟨v,ae,h⟩:=e3 h;rw [ki] at h;exact ⟨v.view,by simp [ev,ad,af,ae],h⟩
 ·rcases af with ⟨rfl,af⟩ | ⟨rfl,af⟩
  ·obtain ⟨aJ,aQ⟩:=Ai h;exact ⟨_,by simp only [ev,ad,af,sc];rw [if_pos (by omega)],aQ⟩
  ·exact ⟨_,by simp only [ev,ad,af,sc];rw [if_pos h.1],h.2⟩
theorem EG {t:TypeId} {a:e8} (cb:gU P t=some a) {l:List I} {off:Nat} {K:I→Prop} (h:Ac a l off K):∃ v,iy P t l off=some v∧K v.view:=by
 rcases oR cb with ⟨rfl,ad,d,af⟩ | ⟨s,af,ad⟩
 ·obtain ⟨v,ae,h⟩:=e3 h;rw [ki] at h;exact ⟨v,by simp [iy,ad,af,ae],h⟩
 ·rcases af with ⟨rfl,af⟩ | ⟨rfl,af⟩
  ·obtain ⟨aJ,aQ⟩:=Aj h;exact ⟨_,by simp only [iy,ad,af,sc];rw [if_pos (by omega)],show K (I.view (.agg _)) from aQ⟩
  ·exact ⟨_,by simp only [iy,ad,af,sc];rw [if_pos h.1],show K (I.view (.agg _)) from h.2⟩
end
def oy (v:I) (K:I→Prop):Prop:=match v with
 | .ax c n (.uniq z)=>K (.ax c n (.own z))
 | v=>K v
theorem x2 (v:I) (K:I→Prop):oy v K=K v.settle:=by
 cases v with
 | ax c n k=>cases k <;> rfl
 | _=>rfl
def ko (v:I) (m':I→Prop) (na:List I→Prop):Prop:=match v with
 | .agg vc=>na vc
 | .junk=>False
 | .tuple _=>False
 | .raw _ _ _=>False
 | .cY _ _ _ _ _=>False
 | v=>m' v
theorem lO {v:I} {m':I→Prop} {na:List I→Prop} (h:ko v m' na):(v.cells=some [v]∧m' v)∨∃ vc,v.cells=some vc∧v=.agg vc∧na vc:=by
 cases v <;> first | exact .inl ⟨rfl,h⟩ | exact h.elim | exact .inr ⟨_,rfl,rfl,h⟩
def fZ:List (Nat×Nat)→List I→List I→(List I→Prop)→Prop
 | [],[],cs,K=>K cs
 | (off,size)::bn,v::vs,cs,K=>ko v (fun v=>match Nat.beq size 1 with | true=>ji cs off v fun cs=>fZ bn vs cs K | false=>False) (fun vc=>match Nat.beq vc.length size,Nat.blt 0 size with | true,true=>kg cs off vc fun cs=>fZ bn vs cs K | _,_=>False)
 | _,_,_,_=>False
theorem iC {place:Nat→Option (Nat×Nat)}:∀ {ix:List Nat} {bn:List (Nat×Nat)} {vs cs:List I} {K:List I→Prop},fZ bn vs cs K→ix.map place=bn.map some →
  ∃ c6,fz place cs (ix.zip vs)=some c6∧K c6
 | [],[],[],cs,K,h,_=>⟨cs,rfl,h⟩
 | i::ix,(off,size)::bn,v::vs,cs,K,h,aB=>by
   simp only [sG,List.cons.injEq] at aB;obtain ⟨fI,jT⟩:=aB;simp only [fZ] at h;simp only [v9,fz,fI];rcases lO h with ⟨ad,h⟩ | ⟨vc,ad,_,h⟩
   ·split at h
    ·rename_i af;have af:=tb af;obtain ⟨aG,h⟩:=lq h;obtain ⟨c6,q1,aW⟩:=iC h jT;subst af;exact ⟨c6,by simp only [ad];rw [if_pos ⟨rfl,by omega⟩];exact q1,aW⟩
    ·exact h.elim
   ·split at h
    ·rename_i af a5;have af:=tb af;(have a5:0<size:=by simpa [te] using a5);obtain ⟨aG,h⟩:=m7 h;obtain ⟨c6,q1,aW⟩:=iC h jT;have bL:off+size≤cs.length:=by
      rcases aG with aG | aG
      ·omega
      ·rw [aG] at af;simp only [uS] at af;omega
     refine ⟨c6,?_,aW⟩;simp only [ad];rw [if_pos ⟨af,bL⟩];exact q1
    ·exact h.elim
 | [],_::_,_,_,_,_,aB=>by simp at aB
 | _::_,[],_,_,_,_,aB=>by simp at aB
 | [],[],_::_,_,_,h,_=>h.elim
 | _::_,_::_,[],_,_,h,_=>h.elim
def A9:BinOp→Bool
 | .shl=>true
 | .shr=>true
 | _=>false
theorem FA {op:BinOp} {k k':IntKind} (h:(decide (k=k') || A9 op)=true):k=k'∨op=.shl∨op=.shr:=by
 rw [tI] at h;rcases h with h | h
 ·exact .inl (of_decide_eq_true h)
 ·cases op <;> first | exact .inr (.inl rfl) | exact .inr (.inr rfl) | cases h
def oS (op:BinOp) (k:IntKind) (a b:Int) (K:I→Prop):Prop:=match op with
 | .add=>K (.int k (k.wrap (a+b)))
 | .sub=>K (.int k (k.wrap (a-b)))
 | .mul=>K (.int k (k.wrap (a*b)))
 | .quo=>b≠0∧K (.int k (k.wrap (a.tdiv b)))
 | .rem=>b≠0∧K (.int k (a.tmod b))
 | .eql=>K (.bool (decide (a=b)))
 | .neq=>K (.bool (decide (a≠b)))
 | .lss=>K (.bool (decide (a<b)))
 | .leq=>K (.bool (decide (a≤b)))
 | .gtr=>K (.bool (decide (b<a)))
 | .geq=>K (.bool (decide (b≤a)))
 | .and=>K (.int k (k.wrap (BitVec.ofInt k.bits a &&& BitVec.ofInt k.bits b).toNat))
 | .or=>K (.int k (k.wrap (BitVec.ofInt k.bits a ||| BitVec.ofInt k.bits b).toNat))
 | .xor=>K (.int k (k.wrap (BitVec.ofInt k.bits a ^^^ BitVec.ofInt k.bits b).toNat))
 | .shl=>0≤b∧K (.int k (k.wrap (a*2 ^ (Nat.min b.toNat k.bits))))
 | .shr=>0≤b∧K (.int k (a.fdiv (2 ^ (Nat.min b.toNat k.bits))))
 | _=>False
section
variable {P:Program}
theorem BN (op:BinOp) (t:TypeId) (k k':IntKind) (a b:Int):fm P op t (.int k a) (.int k' b)=match op with
  | .shl=>hv .shl k a b
  | .shr=>hv .shr k a b
  | op=>if k=k' then jt op k a b else none:=by cases op <;> rfl
theorem B1 {op:BinOp} {t:TypeId} {k k':IntKind} {a b:Int} {K:I→Prop} (av:k=k'∨op=.shl∨op=.shr) (h:oS op k a b K):∃ v,fm P op t (.int k a) (.int k' b)=some v∧K v:=by
 rw [BN];cases op <;> simp only [oS] at h <;> try exact h.elim
 case shl=>exact ⟨_,by simp only [hv];rw [if_neg (by omega)],h.2⟩
 case shr=>exact ⟨_,by simp only [hv];rw [if_neg (by omega)],h.2⟩
 all_goals (obtain rfl:k=k':=by rcases av with av | av | av <;> first | exact av | cases av)
 all_goals simp only [if_true,jt]
 case quo=>exact ⟨_,by rw [if_neg h.1],h.2⟩
 case rem=>exact ⟨_,by rw [if_neg h.1],h.2⟩
 case neq =>
  have e:(a != b)=decide (a≠b):=by by_cases jD:a=b <;> simp [jD]
  exact ⟨_,rfl,by rw [e];exact h⟩
 case eql=>exact ⟨_,rfl,h⟩
 all_goals exact ⟨_,rfl,h⟩
end
end
end Go.Proofs.YtfakoboiahbhaaaGreat.Ab


namespace Go.Proofs.YtfakoboiahbhaaaGreat.Ab
open Go
noncomputable section
def xV (v:I) (H:List ar) (K:I→List ar→Prop):Prop:=match v with
 | .ax cells len (.uniq z)=>(len≠0∧K (.ref H.length 0 len none z) (H++[.cells cells]))∨(len=0∧K (.ax cells len (.uniq z)) H)
 | .ax [] 0 .full=>K (.ax [] 0 .full) H
 | .ref id off len cap sz=>K (.ref id off len cap sz) H
 | _=>False
def xO (a:e8) (v:I) (H:List ar) (K:I→List ar→Prop):Prop:=match v with
 | .ptr id off=>eH H id fun o=>match o with | .cells l=>mG a l off fun v=>K v H | .grow l _ _=>mG a l off fun v=>K v H | _=>False
 | .bT cells=>mG a cells 0 fun v=>K v H
 | _=>False
def xT (lo:Nat) (v:I) (H:List ar) (K:I→List ar→Prop):Prop:=match v with
 | .ptr id off=>match Nat.ble lo id with
   | true=>eH H id fun o=>match o with
     | .cells l=>(eH l off fun v=>match v with | .ax c n (.own z)=>K (.ax c n (.own z)) (H.set id (.cells (l.set off (.ax c n .shared)))) | .ax c n .full=>K (.ax c n .full) H | .raw c n z=>K (.ax c n (.uniq z)) (H.set id (.cells (l.set off .junk))) | _=>False)
     | .grow l g cS=>(eH l off fun v=>match v with | .ax c n (.own z)=>K (.ax c n (.own z)) (H.set id (.grow (l.set off (.ax c n .shared)) g cS)) | .ax c n .full=>K (.ax c n .full) H | _=>False)
     | _=>False
   | false=>False
 | _=>False
def xU (lo:Nat) (v:I) (H:List ar) (K:I→List ar→Prop):Prop:=match v with
 | .ptr id off=>match Nat.ble lo id with
   | true=>eH H id fun o=>match o with | .cells l=>(eH l off fun v=>match v with | .raw c n z=>n≠0∧K (.ref H.length 0 n none z) (H.set id (.cells (l.set off (.ref H.length 0 n none z)))++[.cells c]) | .ax c n .full=>K (.ax c n .full) H | _=>False) | _=>False
   | false=>False
 | _=>False
def xS (lo:Nat) (p v:I) (H:List ar) (K:I→List ar→Prop):Prop:=match p with
 | .ptr id off=>match Nat.ble lo id with
   | true=>eH H id fun o=>match o with
     | .cells l=>(match v with | .ax c n (.uniq z)=>c.all gP=true∧n≠0∧ji l off (.raw c n z) fun l'=>K .junk (H.set id (.cells l')) | _=>False)
     | _=>False
   | false=>False
 | _=>False
def xR (lo s:Nat) (p v:I) (H:List ar) (K:I→List ar→Prop):Prop:=match p with
 | .ptr id off=>match Nat.ble lo id with
   | true=>eH H id fun o=>match o with
     | .cells l=>(match v with | .cY as c n z bs=>(match Nat.beq (as.length+1+bs.length) s with | true=>kg l off (as++.ax c n (.own z)::bs) fun l'=>K .junk (H.set id (.cells l')) | false=>False) | _=>False)
     | _=>False
   | false=>False
 | _=>False
def xN (k:Nat) (z:List I) (bn:List (Nat×Nat)) (vs:List I) (H:List ar) (K:I→List ar→Prop):Prop:=match vs.drop k,bn.drop k with
 | .ax c n (.own s)::post,(off,1)::dN=>match (vs.take k).all I.plain && post.all I.plain && dN.all fun p=>Nat.blt off p.1 || Nat.ble (p.1+p.2) off with
   | true=>fZ (bn.take k) (vs.take k) z fun eN=>match Nat.blt off eN.length with
     | true=>fZ dN post (eN.set off .junk) fun ec=>K (.cY (ec.take off) c n s (ec.drop (off+1))) H
     | false=>False
   | false=>False
 | .ax c n (.uniq s)::post,(off,1)::dN=>match (vs.take k).all I.plain && post.all I.plain && dN.all fun p=>Nat.blt off p.1 || Nat.ble (p.1+p.2) off with
   | true=>fZ (bn.take k) (vs.take k) z fun eN=>match Nat.blt off eN.length with
     | true=>fZ dN post (eN.set off .junk) fun ec=>K (.cY (ec.take off) c n s (ec.drop (off+1))) H
     | false=>False
   | false=>False
 | _,_=>False
def xQ (lo s:Nat) (p v:I) (H:List ar) (K:I→List ar→Prop):Prop:=match p with
 | .ptr id off=>match Nat.ble lo id with
   | true=>eH H id fun o=>match o with
     | .cells l=>ko v (fun v=>match Nat.beq s 1 with | true=>oy v fun v=>ji l off v fun l'=>K .junk (H.set id (.cells l')) | false=>False) (fun vc=>match Nat.beq vc.length s,Nat.blt 0 s with | true,true=>kg l off (vc.map I.settle) fun l'=>K .junk (H.set id (.cells l')) | _,_=>False)
     | .grow l g z=>ko v (fun v=>match Nat.beq s 1 with | true=>oy v fun v=>ji l off v fun l'=>K .junk (H.set id (.grow l' g z)) | false=>False) (fun vc=>match Nat.beq vc.length s,Nat.blt 0 s with | true,true=>kg l off (vc.map I.settle) fun l'=>K .junk (H.set id (.grow l' g z)) | _,_=>False)
     | _=>False
   | false=>False
 | _=>False
def xL (v:I) (H:List ar) (K:I→List ar→Prop):Prop :=
 ko v (fun v=>oy v fun v=>K (.ptr H.length 0) (H++[.cells [v]])) (fun vc=>K (.ptr H.length 0) (H++[.cells (vc.map I.settle)]))
def xM (v:I) (H:List ar) (K:I→List ar→Prop):Prop :=
 ko v (fun v=>v.plain=true∧K (.bT [v]) H) (fun vc=>vc.all I.plain=true∧K (.bT vc) H)
def xv:List I→Int→(Int→Prop)→Prop
 | [],a,K=>K a
 | .int _ b::r,a,K=>xv r (min a b) K
 | _::_,_,_=>False
def xu:List I→Int→(Int→Prop)→Prop
 | [],a,K=>K a
 | .int _ b::r,a,K=>xu r (max a b) K
 | _::_,_,_=>False
def xK (lo s bytes:Nat) (x y:I) (H:List ar) (K:I→List ar→Prop):Prop:=match y with
 | .ax new m _=>(new.length=m*s∧m*bytes≤140737488355328)∧match x with
   | .ax cells n .full=>(m≠0∧(n+m)*bytes≤140737488355328∧cells.length=n*s)∧K (.ck H.length (H.length+1) (n+m) s) (H++[.grow (cells++new) (H.length+1) s,.dead])
   | .ax cells n (.uniq z)=>(z=s∧m≠0∧(n+m)*bytes≤140737488355328)∧K (.ck H.length (H.length+1) (n+m) z) (H++[.grow (cells++new) (H.length+1) z,.dead])
   | .ck id gid n z=>match Nat.ble lo id with
     | true=>eH H id fun o=>match o with
       | .grow l g cS=>((g=gid∧cS=z∧z=s∧l.length=n*z∧0<m∧(n+m)*bytes≤140737488355328)∧K (.ck H.length (H.length+1) (n+m) z) (H.set id .dead++[.grow (l++new) (H.length+1) z,.dead])) ∨
         ((g=gid∧cS=z∧z=s∧n*z<l.length∧0<m∧(n+m)*bytes≤140737488355328)∧K (.ck H.length (H.length+1) (n+m) z) (H.set id .dead++[.grow (l.take (n*z)++new) (H.length+1) z,.dead]))
       | _=>False
     | false=>False
   | _=>False
 | _=>False
def AJ (z:List I) (s bytes:Nat) (a b:I) (H:List ar) (K:I→List ar→Prop):Prop:=match a,b with
 | .int _ n,.int _ c=>0≤n∧n≤c∧c.toNat*bytes≤140737488355328∧K (.ref H.length 0 n.toNat (some c.toNat) s) (H++[.cells (e5 c.toNat z)])
 | _,_=>False
def AI (z:List I) (s bytes:Nat) (a b:I) (H:List ar) (K:I→List ar→Prop):Prop:=match a,b with
 | .int _ n,.int _ c=>n=c∧0≤n∧c.toNat*bytes≤140737488355328∧K (.ax (e5 c.toNat z) n.toNat (.uniq s)) H
 | _,_=>False
def AE (v:I) (H:List ar) (K:I→List ar→Prop):Prop:=match v with
 | .ax _ n _=>K (.int .i64 n) H
 | .ref _ _ n _ _=>K (.int .i64 n) H
 | _=>False
def oq (s bytes:Nat) (x:I) (new:List I) (m:Nat) (H:List ar) (K:I→List ar→Prop):Prop:=new.length=m*s∧m*bytes≤140737488355328∧match x with
    | .ax cells n .shared=>m=0∧K (.ax cells n .shared) H
    | .ax cells n .full=>m≠0∧(n+m)*bytes≤140737488355328∧cells.length=n*s∧K (.ax (cells++new) (n+m) (.uniq s)) H
    | .ax cells n (.own z)=>z=s∧(n+m)*bytes≤140737488355328∧K (.ax (cells++new) (n+m) (.own z)) H
    | .ax cells n (.uniq z)=>z=s∧(n+m)*bytes≤140737488355328∧K (.ax (cells++new) (n+m) (.uniq z)) H
    | _=>False
def xJ (s bytes:Nat) (x y:I) (H:List ar) (K:I→List ar→Prop):Prop:=match y with
 | .ax new m _=>oq s bytes x new m H K
 | .ref id off m _ z=>eH H id fun o=>match o with
   | .cells l=>off+m*z≤l.length∧oq s bytes x (((l.drop off).take (m*z)).map I.view) m H K
   | _=>False
 | _=>False
def xP (s:Nat) (l h m:Bool) (x:I) (vs:List I) (H:List ar) (K:I→List ar→Prop):Prop:=match x with
 | .ax cells n c=>match l,h,m,vs with
   | false,false,false,[]=>match c with
     | .uniq z=>K (.ax (cells.take (n*z)) n (.uniq z)) H
     | .shared=>K (.ax (cells.take (n*s)) n .shared) H
     | _=>False
   | true,false,false,[.int _ i]=>match c with
     | .own z=>(s=z∧0≤i∧i≤n)∧K (.ax (cells.drop (i.toNat*z)) (n-i.toNat) (.own z)) H
     | .shared | .uniq _=>(0≤i∧i≤n)∧K (.ax ((cells.drop (i.toNat*s)).take ((n-i.toNat)*s)) (n-i.toNat) .shared) H
     | _=>False
   | false,true,false,[.int _ j]=>match c with
     | .uniq z=>(0≤j∧j≤n)∧K (.ax (cells.take (j.toNat*z)) j.toNat (.uniq z)) H
     | .shared | .own _=>(0≤j∧j≤n)∧K (.ax (cells.take (j.toNat*s)) j.toNat .shared) H
     | _=>False
   | true,true,false,[.int _ i,.int _ j]=>match c with
     | .shared | .own _ | .uniq _=>(0≤i∧i≤j∧j≤n)∧K (.ax ((cells.drop (i.toNat*s)).take ((j.toNat-i.toNat)*s)) (j.toNat-i.toNat) .shared) H
     | _=>False
   | false,true,true,[.int _ j,.int _ k]=>(j=k∧0≤j∧j≤n)∧K (.ax (cells.take (j.toNat*s)) j.toNat .full) H
   | true,true,true,[.int _ i,.int _ j,.int _ k]=>(j=k∧0≤i∧i≤j∧j≤n)∧K (.ax ((cells.drop (i.toNat*s)).take ((j.toNat-i.toNat)*s)) (j.toNat-i.toNat) .full) H
   | _,_,_,_=>False
 | .ref id off n cap sz=>match l,h,m,vs with
   | true,false,false,[.int _ i]=>sz=s∧(0≤i∧i≤n)∧(i<n→K (.ref id (off+i.toNat*s) (n-i.toNat) (cap.map (·-i.toNat)) sz) H)∧(i=n→K (.ax [] 0 .shared) H)
   | false,true,false,[.int _ j]=>sz=s∧(0≤j∧j≤n∧0<n)∧K (.ref id off j.toNat cap sz) H
   | _,_,_,_=>False
 | .ck id gid n z=>match l,h,m,vs with
   | false,true,false,[.int _ j]=>(0≤j∧j≤n)∧K (.ck id gid j.toNat z) H
   | _,_,_,_=>False
 | _=>False
def Az (off:Nat) (v:I) (H:List ar) (K:I→List ar→Prop):Prop:=match v with
 | .ptr id o=>K (.ptr id (o+off)) H
 | .bT cells=>K (.bT (cells.drop off)) H
 | _=>False
def AA (s:Nat) (x i:I) (H:List ar) (K:I→List ar→Prop):Prop:=match i with
 | .int _ n=>match x with
   | .ax cells len _=>(0≤n∧n<len)∧K (.bT (cells.drop (n.toNat*s))) H
   | .ref id off len _ _=>(0≤n∧n<len)∧K (.ptr id (off+n.toNat*s)) H
   | _=>False
 | _=>False
def AB (len s:Nat) (x i:I) (H:List ar) (K:I→List ar→Prop):Prop:=match i with
 | .int _ n=>match x with
   | .ptr id off=>(0≤n∧n<len)∧K (.ptr id (off+n.toNat*s)) H
   | .bT cells=>(0≤n∧n<len)∧K (.bT (cells.drop (n.toNat*s))) H
   | _=>False
 | _=>False
def kS (fi:hV) (k:I):Prop:=match fi,k with
 | .int q,.int fQ _=>q=fQ
 | .str n,.agg cs=>cs.length=n
 | _,_=>False
def AH (lo:Nat) (fi:hV) (m k v:I) (H:List ar) (K:I→List ar→Prop):Prop:=match m with
 | .map id=>match Nat.ble lo id with
   | true=>kS fi k∧∃ es clock,H[id]?=some (.map es clock)∧∃ r,fD k es 0=some r∧(match r with
     | some i=>K .junk (H.set id (.map (es.modify i fun e=>(e.1,k,v)) clock))
     | none=>K .junk (H.set id (.map (es++[(clock,k,v)]) (clock+1))))
   | false=>False
 | _=>False
def AG (fi:hV) (ok:Bool) (zero:Option I) (m k:I) (H:List ar) (K:I→List ar→Prop):Prop:=match m with
 | .map id=>kS fi k∧∃ es clock,H[id]?=some (.map es clock)∧∃ r,fD k es 0=some r∧(match r with
   | some i=>∃ e,es[i]?=some e∧(match ok with | true=>K (.tuple [e.2.2,.bool true]) H | false=>K e.2.2 H)
   | none=>∃ z,zero=some z∧(match ok with | true=>K (.tuple [z,.bool false]) H | false=>K z H))
 | _=>False
def AF (lo:Nat) (fi:hV) (m k:I) (H:List ar) (K:I→List ar→Prop):Prop:=match m with
 | .map id=>match Nat.ble lo id with
   | true=>kS fi k∧∃ es clock,H[id]?=some (.map es clock)∧∃ r,fD k es 0=some r∧(match r with
     | some i=>K (.tuple []) (H.set id (.map (es.eraseIdx i) clock))
     | none=>K (.tuple []) H)
   | false=>False
 | _=>False
def AK (m:I) (H:List ar) (K:I→List ar→Prop):Prop:=match m with
 | .map id=>∃ es clock,H[id]?=some (.map es clock)∧K (.ptr H.length 0) (H++[.iter id clock [] clock])
 | _=>False
def Ay (p:I) (H:List ar) (K:I→List ar→Prop):Prop:=match p with
 | .ptr r 0=>∃ m since seen clock gk es e,H[r]?=some (.iter m since seen clock)∧seen.getLast?=some gk∧H[m]?=some (.map es clock)∧es.find? (fun e=>e.1 == gk)=some e∧K (.tuple [e.2.1,e.2.2]) H
 | _=>False
def AD (m:I) (H:List ar) (K:I→List ar→Prop):Prop:=match m with
 | .map id=>∃ es clock,H[id]?=some (.map es clock)∧K (.int .i64 es.length) H
 | _=>False
def bM (P:Program) (lo:Nat) (k:iu) (vs:List I) (H:List ar) (K:I→List ar→Prop):Prop:=match k with
 | .mN=>match vs with | [v]=>K v H | _=>False
 | .nil z=>match vs with | [_]=>K (.ax [] 0 (.uniq z)) H | _=>False
 | .Bq=>match vs with | [v]=>xV v H K | _=>False
 | .zx a=>match vs with | [v]=>xO a v H K | _=>False
 | .zy a=>match vs with | [.bT cells]=>mG a cells 0 fun v=>K v H | _=>False
 | .take=>match vs with | [v]=>xT lo v H K | _=>False
 | .Bp=>match vs with | [v]=>xU lo v H K | _=>False
 | .Bj=>match vs with | [p,v]=>xS lo p v H K | _=>False
 | .Bi s=>match vs with | [p,v]=>xR lo s p v H K | _=>False
 | .st s=>match vs with | [p,v]=>xQ lo s p v H K | _=>False
 | .box=>match vs with | [v]=>xL v H K | _=>False
 | .yq=>match vs with | [v]=>xM v H K | _=>False
 | .alloc z=>K (.ptr H.length 0) (H++[.cells z])
 | .zU z s bytes=>match vs with | [a,b]=>AJ z s bytes a b H K | _=>False
 | .zT z s bytes=>match vs with | [a,b]=>AI z s bytes a b H K | _=>False
 | .zC=>match vs with | [v]=>AE v H K | _=>False
 | .zA n=>match vs with | [.ax _ _ _] | [.ref _ _ _ _ _] | [.map _]=>False | [_]=>K (.int .i64 n) H | _=>False
 | .min=>match vs with | .int k a::r=>xv r a fun n=>K (.int k n) H | _=>False
 | .max=>match vs with | .int k a::r=>xu r a fun n=>K (.int k n) H | _=>False
 | .app s bytes=>match vs with | [x,y]=>xJ s bytes x y H K | _=>False
 | .yk s bytes=>match vs with | [x,y]=>xK lo s bytes x y H K | _=>False
 | .call _=>False
 | .pick=>match vs with | [.bool c,a,b]=>(match c with | true=>K a H | false=>K b H) | _=>False
 | .build z bn=>fZ bn vs z fun cs=>K (.agg cs) H
 | .yt k z bn=>xN k z bn vs H K
 | .yu len s z ix=>fZ (ix.map fun i=>(i*s,s)) vs (e5 len z) fun cs=>K (.ax cs len (.uniq s)) H
 | .yr len s z ix=>fZ (ix.map fun i=>(i*s,s)) vs (e5 len z) fun cs=>K (.ax cs len .full) H
 | .zX=>match vs with | [.ptr id off]=>K (.ptr id off) H | [.bT cells]=>K (.bT cells) H | _=>False
 | .bin op=>match vs with | [.int k a,.int k' b]=>(match decide (k=k') || A9 op with | true=>oS op k a b fun v=>K v H | false=>False) | _=>False
 | .oU neq=>match vs with | [.bool a,.bool b]=>(match neq with | true=>K (.bool (!(a == b))) H | false=>K (.bool (a == b)) H) | _=>False
 | .un op=>match vs with
   | [.bool b]=>(match op with | .not=>K (.bool !b) H | _=>False)
   | [.int k n]=>(match op with | .neg=>K (.int k (k.wrap (-n))) H | _=>False)
   | _=>False
 | .conv k=>match vs with | [.int _ n]=>K (.int k (k.wrap n)) H | _=>False
 | .zR f n m=>(match Nat.beq vs.length (n+m) with | true=>K (.func f (vs.take n) (vs.drop n)) H | false=>False)
 | .Bg s l h m=>match vs with | x::vs=>xP s l h m x vs H K | _=>False
 | .zS=>K (.map H.length) (H++[.map [] 0])
 | .zM fi=>match vs with | [m,k,v]=>AH lo fi m k v H K | _=>False
 | .zL fi ok z=>match vs with | [m,k]=>AG fi ok z m k H K | _=>False
 | .zK fi=>match vs with | [m,k]=>AF lo fi m k H K | _=>False
 | .AM=>match vs with | [m]=>AK m H K | _=>False
 | .yB=>match vs with | [m]=>Ay m H K | _=>False
 | .zB=>match vs with | [m]=>AD m H K | _=>False
 | .yG off=>match vs with | [v]=>Az off v H K | _=>False
 | .yM off a=>match vs with | [.agg cs]=>Ac a cs off fun v=>K v H | _=>False
 | .kQ s=>match vs with | [x,i]=>AA s x i H K | _=>False
 | .zn len s=>match vs with | [x,i]=>AB len s x i H K | _=>False
 | .ext i=>match vs with | [.tuple ws]=>(eH ws i fun v=>kh v fun v=>K v H) | _=>False
 | .other o mode=>∃ v H',(∀ C,a4 P C lo o mode vs H=some (v,H'))∧K v H'
def om (P:Program) (o:Oper) (mode:Nat) (x:Operand):iu:=match mode with
 | 0=>match iP x,P.underlying o.type with
   | true,some (.slice e)=>(match bC P e with | some z=>.nil z | none=>.other o mode)
   | _,_=>.mN
 | 1=>.Bq
 | _=>.other o mode
def mE (P:Program) (t:TypeId):Option (hV×TypeId):=match jZ P t with
 | some (k,e)=>(match P.underlying k with
   | some (.int q)=>some (.int q,e)
   | some (.struct bl)=>some (.str bl.size,e)
   | _=>none)
 | none=>none
def hl (P:Program) (o:Oper) (mode:Nat):iu:=match o.op with
 | .move x | .assign x=>om P o mode x
 | .load t _=>match mode with
   | 0=>(match gU P t with | some a=>.zx a | none=>.other o mode)
   | 2=>(match P.underlying t with | some (.slice _)=>.Bp | _=>.other o mode)
   | 3=>(match gU P t with | some a=>.zy a | none=>.other o mode)
   | 5=>.other o mode
   | _=>match P.underlying t with | some (.slice _)=>.take | _=>.other o mode
 | .store t _ _=>match mode,bC P t with | 0,some s=>.st s | 2,some s=>.Bi s | _+1,some 1=>.Bj | _,_=>.other o mode
 | .box _ _=>match mode with | 0=>.box | _=>.yq
 | .alloc t=>match mode with
   | 0=>(match zeroCells P t with | some z=>.alloc z | none=>.other o mode)
   | _=>(match zeroCells P t,P.underlying t with
     | some [.ax [] 0 .full],some (.slice e)=>(match bC P e with | some s=>.alloc [.ax [] 0 (.own s)] | none=>.other o mode)
     | _,_=>.other o mode)
 | .makeSlice t _ _=>match mode,P.underlying t with
   | 0,some (.slice e)=>(match bC P e,zeroCells P e,(P.info? e).map (·.bytes) with
     | some s,some z,some bytes=>(match Nat.beq z.length s && Nat.blt 0 s && Nat.ble 1 bytes with | true=>.zU z s bytes | false=>.other o mode)
     | _,_,_=>.other o mode)
   | _+1,some (.slice e)=>(match bC P e,zeroCells P e,(P.info? e).map (·.bytes) with
     | some s,some z,some bytes=>(match Nat.beq z.length s && Nat.blt 0 s && Nat.ble 1 bytes with | true=>.zT z s bytes | false=>.other o mode)
     | _,_,_=>.other o mode)
   | _,_=>.other o mode
 | .call c=>match c.callee with
   | .builtin b=>match b with
     | .len=>(match iQ P c.argTypes[0]? with
       | true=>.zC
       | false=>match (c.argTypes[0]?).bind P.underlying with | some (.array n _)=>.zA n | some (.map _ _)=>.zB | _=>.other o mode)
     | .delete=>(match (c.argTypes[0]?).bind (mE P) with | some x=>.zK x.1 | none=>.other o mode)
     | .min=>.min
     | .max=>.max
     | .append=>(match c.argTypes.toList with
       | [t,dp]=>(match Nat.beq t dp,P.underlying t with
         | true,some (.slice e)=>(match bC P e,zeroCells P e,(P.info? e).map (·.bytes) with
           | some s,some z,some bytes=>(match Nat.beq z.length s && Nat.blt 0 s && Nat.ble 1 bytes,mode with | true,0=>.app s bytes | true,_=>.yk s bytes | false,_=>.other o mode)
           | _,_,_=>.other o mode)
         | _,_=>.other o mode)
       | _=>.other o mode)
     | _=>.other o mode
   | .value _=>.call mode
   | .invoke _ _=>.other o mode
 | .makeMap t r=>match r,P.underlying t with | none,some (.map _ _)=>.zS | _,_=>.other o mode
 | .mapUpdate t _ _ _=>match mE P t with | some x=>.zM x.1 | none=>.other o mode
 | .lookup t _ _ ok=>match mE P t with | some x=>.zL x.1 ok (oI P x.2) | none=>.other o mode
 | .range t _=>match P.underlying t with | some (.map _ _)=>.AM | _=>.other o mode
 | .entry _=>.yB
 | .pick _ _ _=>.pick
 | .build t parts=>match zeroCells P t,P.underlying t with
   | some z,some (.struct bl)=>(match bl.toList.all (fun f=>(bC P f.type).isSome),mK (fun i=>(bl[i]?).bind fun f=>(bC P f.type).map fun s=>(f.offset,s)) (parts.toList.map (·.1)) with
     | true,some bn=>(match mode with | 0=>.build z bn | k+1=>.yt k z bn)
     | _,_=>.other o mode)
   | some z,some (.array _ e)=>(match bC P e,mode with | some s,0=>.build z (parts.toList.map fun p=>(p.1*s,s)) | _,_=>.other o mode)
   | _,_=>.other o mode
 | .buildSlice t len parts=>match P.underlying t with
   | some (.slice e)=>(match bC P e,zeroCells P e with
     | some s,some z=>(match Nat.beq z.length s && Nat.blt 0 s && Nat.ble (len*s) 16777216,mode with | true,0=>.yu len s z (parts.toList.map (·.1)) | true,_=>.yr len s z (parts.toList.map (·.1)) | false,_=>.other o mode)
     | _,_=>.other o mode)
   | _=>.other o mode
 | .nilCheck _=>.zX
 | .binOp op t _ y _=>match iP y,P.underlying t with
   | false,some (.int _)=>.bin op
   | false,some .bool=>(match op with | .eql=>.oU false | .neq=>.oU true | _=>.other o mode)
   | _,_=>.other o mode
 | .unOp op _ _=>.un op
 | .convert src dst _=>match P.underlying src,P.underlying dst with
   | some _,some (.int k)=>.conv k
   | _,_=>.other o mode
 | .makeFunc fn first captured=>match fn with | .func f=>.zR f first.size captured.size | _=>.other o mode
 | .slice t _ l h m=>match P.underlying t with
   | some (.slice e)=>(match bC P e with | some s=>.Bg s l.isSome h.isSome m.isSome | none=>.other o mode)
   | _=>.other o mode
 | .fieldAddr t _ f=>match P.underlying t with
   | some (.struct bl)=>(match (bl[f]?).bind fun g=>(bC P g.type).map fun s=>(s,g.offset) with
     | some (s+1,off)=>.yG off
     | _=>.other o mode)
   | _=>.other o mode
 | .field t _ f=>match P.underlying t with
   | some (.struct bl)=>(match (bl[f]?).bind fun g=>(gU P g.type).map fun a=>(a,g.offset) with
     | some (a,off)=>.yM off a
     | _=>.other o mode)
   | _=>.other o mode
 | .indexAddr t _ _=>match P.underlying t with
   | some (.slice e)=>(match bC P e with | some s=>.kQ s | none=>.other o mode)
   | some (.array len e)=>(match bC P e with | some s=>.zn len s | none=>.other o mode)
   | _=>.other o mode
 | .extract _ i=>.ext i
 | _=>.other o mode
where
 mK {α β:Type} (f:α→Option β):List α→Option (List β)
  | []=>some []
  | x::xs=>match f x with | some y=>(mK f xs).map (y::·) | none=>none
end
end Go.Proofs.YtfakoboiahbhaaaGreat.Ab


namespace Go.Proofs.YtfakoboiahbhaaaGreat.Ab
open Go
section
variable {P:Program} {H:List ar}
theorem gi {n bytes:Nat} (ad:n*bytes≤140737488355328) (af:1≤bytes):fv n bytes=true:=by
 simp only [fv,sx,uh];exact ⟨ad,af⟩
theorem E1 {lo:Nat} {t:TypeId} {a:e8} (cb:gU P t=some a) {v:I} {K:I→List ar→Prop} (h:xO a v H K):∃ r H',dM P lo 0 t H [v]=some (r,H')∧K r H':=by
 unfold xO at h;split at h
 ·obtain ⟨x,ao,h⟩:=e3 h;split at h
  ·obtain ⟨r,ad,af⟩:=nV cb h;exact ⟨r,H,by simp [dM,dP,ao,ad],af⟩
  ·obtain ⟨r,ad,af⟩:=nV cb h;exact ⟨r,H,by simp [dM,dP,ao,ad],af⟩
  ·exact h.elim
 ·obtain ⟨r,ad,af⟩:=nV cb h;exact ⟨r,H,by simp [dM,dP,ad],af⟩
 ·exact h.elim
theorem E7 {lo mode:Nat} {t e:TypeId} (hm:mode≠0) (jN:mode≠2) (y4:mode≠3) (y5:mode≠5) (ay:P.underlying t=some (.slice e)) {v:I} {K:I→List ar→Prop} (h:xT lo v H K):∃ r H',dM P lo mode t H [v]=some (r,H')∧K r H':=by
 unfold xT at h;split at h
 ·split at h
  ·rename_i bB;obtain ⟨x,ao,h⟩:=e3 h;have bB:=tU bB;split at h
   ·obtain ⟨v,ae,h⟩:=e3 h;split at h
    ·refine ⟨_,_,?_,h⟩;cases mode with
     | zero=>exact absurd rfl hm
     | succ m=>simp only [dM,ay,bB,if_true,ao,ae]
    ·refine ⟨_,_,?_,h⟩;cases mode with
     | zero=>exact absurd rfl hm
     | succ m=>simp only [dM,ay,bB,if_true,ao,ae];rfl
    ·refine ⟨_,_,?_,h⟩;cases mode with
     | zero=>exact absurd rfl hm
     | succ m=>simp only [dM,ay,bB,if_true,ao,ae];rw [if_neg jN]
    ·exact h.elim
   ·obtain ⟨v,ae,h⟩:=e3 h;split at h
    ·refine ⟨_,_,?_,h⟩;cases mode with
     | zero=>exact absurd rfl hm
     | succ m=>simp only [dM,ay,bB,if_true,ao,ae]
    ·refine ⟨_,_,?_,h⟩;cases mode with
     | zero=>exact absurd rfl hm
     | succ m=>simp only [dM,ay,bB,if_true,ao,ae]
    ·exact h.elim
   ·exact h.elim
  ·exact h.elim
 ·exact h.elim
theorem E6 {lo:Nat} {t e:TypeId} (ay:P.underlying t=some (.slice e)) {v:I} {K:I→List ar→Prop} (h:xU lo v H K):∃ r H',dM P lo 2 t H [v]=some (r,H')∧K r H':=by
 unfold xU at h;split at h
 ·split at h
  ·rename_i bB;obtain ⟨x,ao,h⟩:=e3 h;have bB:=tU bB;split at h
   ·obtain ⟨v,ae,h⟩:=e3 h;split at h
    ·exact ⟨_,_,by simp only [dM,ay,bB,if_true,ao,ae];rw [if_neg h.1],h.2⟩
    ·exact ⟨_,_,by simp only [dM,ay,bB,if_true,ao,ae];rfl,h⟩
    ·exact h.elim
   ·exact h.elim
  ·exact h.elim
 ·exact h.elim
theorem E4 {lo mode:Nat} {t:TypeId} (hm:mode≠0) (jN:mode≠2) (ai:bC P t=some 1) {p v:I} {K:I→List ar→Prop} (h:xS lo p v H K):∃ r H',gM P lo mode t H [p,v]=some (r,H')∧K r H':=by
 unfold xS at h;split at h
 ·split at h
  ·rename_i bB;have bB:=tU bB;obtain ⟨x,ao,h⟩:=e3 h;split at h
   ·split at h
    ·obtain ⟨ad,af,h⟩:=h;obtain ⟨aG,h⟩:=lq h;refine ⟨.junk,_,?_,h⟩;cases mode with
     | zero=>exact absurd rfl hm
     | succ m =>
       have e:∀ a v,gM P lo (m+1) t H [a,v]=(kl P lo H t a v).map fun H'=>(.junk,H'):=fun a v=>by
        cases m with
        | zero=>rfl
        | succ m=>cases m with
          | zero=>exact absurd rfl jN
          | succ m=>rfl
       rw [e];simp only [kl,ai];rw [if_pos ⟨ad,af⟩];simp only [fM,bB,if_true,ao];rw [if_pos aG];rfl
    ·exact h.elim
   ·exact h.elim
  ·exact h.elim
 ·exact h.elim
theorem E3 {lo s:Nat} {t:TypeId} (ai:bC P t=some s) {p v:I} {K:I→List ar→Prop} (h:xR lo s p v H K):∃ r H',gM P lo 2 t H [p,v]=some (r,H')∧K r H':=by
 unfold xR at h;split at h
 ·split at h
  ·rename_i bB;have bB:=tU bB;obtain ⟨x,ao,h⟩:=e3 h;split at h
   ·split at h
    ·split at h
     ·rename_i ag;have ag:=tb ag;obtain ⟨aG,h⟩:=m7 h;refine ⟨.junk,_,?_,h⟩;have a5:∀ {a b:Nat},a+b≤a+b:=fun {a b}=>sd _;simp only [List.length_append,sM] at aG;simp only [gM,lH,ai];rw [if_pos ag];simp only [fM,bB,if_true,ao];rw [if_pos (by rcases aG with aG | aG <;> first | omega | simp at aG)];rfl
     ·exact h.elim
    ·exact h.elim
   ·exact h.elim
  ·exact h.elim
 ·exact h.elim
theorem z2 {i:Nat} {c:List I} {n s:Nat} {q:hs} {r:List (Nat×I)} (aZ:q=.own s∨q=.uniq s):∀ (l pre:List (Nat×I)),(∀ x∈l,x.2.plain=true)→iX pre (l++(i,.ax c n q)::r)=some (pre++l,i,c,n,s,r)
 | [],pre,_=>by rcases aZ with rfl | rfl <;> simp [iX]
 | (j,u)::l,pre,h=>by
   have hu:u.plain=true:=h (j,u) (by simp);have a9:=z2 (i:=i) (c:=c) (n:=n) (r:=r) aZ l (pre++[(j,u)]) fun x ak=>h x (by simp [ak]);rw [sD,List.singleton_append] at a9;rw [uA,←a9];cases u with
   | ax c n k=>cases k <;> first | rfl | simp [I.plain] at hu
   | _=>rfl
theorem E0 {t:TypeId} {bl:Array Field} {z:List I} (bj:zeroCells P t=some z) (hu:P.underlying t=some (.struct bl)) (cT:bl.toList.all (fun f=>(bC P f.type).isSome)=true) {ix:List Nat} {bn:List (Nat×Nat)}
  (kJ:ix.map (fun i=>(bl[i]?).bind fun f=>(bC P f.type).map fun s=>(f.offset,s))=bn.map some) {k:Nat} {vs:List I} {K:I→List ar→Prop} (h:xN k z bn vs H K):∃ r,kk P t (ix.zip vs)=some r∧K r H:=by
 have key:∀ {c:List I} {n s off:Nat} {q:hs} {post:List I} {dN:List (Nat×Nat)},vs.drop k=.ax c n q::post→bn.drop k=(off,1)::dN→(q=.own s∨q=.uniq s) →
   ((vs.take k).all I.plain && post.all I.plain && dN.all fun p=>Nat.blt off p.1 || Nat.ble (p.1+p.2) off)=true →
   (fZ (bn.take k) (vs.take k) z fun eN=>match Nat.blt off eN.length with
   | true=>fZ dN post (eN.set off .junk) fun ec=>K (.cY (ec.take off) c n s (ec.drop (off+1))) H
   | false=>False)→∃ r,kk P t (ix.zip vs)=some r∧K r H:=by
  intro c n s off q post dN ae aB aZ l7 h;simp only [sx,sv] at l7;obtain ⟨⟨a_,ba⟩,br⟩:=l7;have GU:k<vs.length:=by
   have:=congrArg List.length ae;simp at this;omega
  have GR:k<bn.length:=by
   have:=congrArg List.length aB;simp at this;omega
  have GQ:ix.length=bn.length:=by have:=congrArg List.length kJ;simpa using this
  have iJ:k<ix.length:=by omega
  have aA:vs=vs.take k++.ax c n q::post:=by rw [←ae,uT]
  have Ch:ix=ix.take k++ix[k]::ix.drop (k+1):=by rw [←sQ iJ,uT]
  have bR:(ix.take k).map (fun i=>(bl[i]?).bind fun f=>(bC P f.type).map fun s=>(f.offset,s))=(bn.take k).map some:=by rw [ue,kJ,ue]
  have bY:(ix.drop k).map (fun i=>(bl[i]?).bind fun f=>(bC P f.type).map fun s=>(f.offset,s))=(bn.drop k).map some:=by rw [ug,kJ,ug]
  rw [sQ iJ,aB,sG,sG,List.cons.injEq] at bY;obtain ⟨bY,ea⟩:=bY;obtain ⟨eN,f1,h⟩:=iC h bR;split at h
  ·rename_i aS;(have aS:off<eN.length:=by simpa [te] using aS);obtain ⟨ec,f2,h⟩:=iC h ea;refine ⟨_,?_,h⟩;have Cn:ix.zip vs=(ix.take k).zip (vs.take k)++(ix[k],.ax c n q)::(ix.drop (k+1)).zip post:=by
    (conv=>lhs;rw [Ch,aA]);rw [List.zip_append (by simp;omega),v9]
   have aD:iX [] (ix.zip vs)=some ((ix.take k).zip (vs.take k),ix[k],c,n,s,(ix.drop (k+1)).zip post):=by
    rw [Cn,z2 aZ _ _ (fun x ak=>a_ x.2 (vJ (a:=x.1) (b:=x.2) ak).2),List.nil_append]
   have hC:(((ix.take k).zip (vs.take k)).all (fun x=>x.2.plain) && ((ix.drop (k+1)).zip post).all (fun x=>x.2.plain) && ((ix.drop (k+1)).zip post).all (fun x=>match (bl[x.1]?).bind fun f=>(bC P f.type).map fun s=>(f.offset,s) with | some (o,s)=>decide (off<o∨o+s≤off) | none=>false))=true:=by
    simp only [sx,sv];refine ⟨⟨fun x ak=>a_ x.2 (vJ (a:=x.1) (b:=x.2) ak).2,fun x ak=>ba x.2 (vJ (a:=x.1) (b:=x.2) ak).2⟩,fun x ak=>?_⟩;have hm:=(vJ (a:=x.1) (b:=x.2) ak).1;have jN:(bl[x.1]?).bind (fun f=>(bC P f.type).map fun s=>(f.offset,s))∈dN.map some:=by
     rw [←ea];exact List.mem_map_of_mem hm
    obtain ⟨p,aB,e⟩:=sk.1 jN;have:=br p aB;rw [←e];simp only [tI,te,uh] at this;exact decide_eq_true this
   unfold kk;rw [bj,hu,aD];dsimp only;rw [cT,bY];split
   ·rename_i e1 b';cases b';split
    ·rw [f1];simp only [sc];rw [if_pos aS,f2];rfl
    ·rename_i al;exact absurd (al.symm.trans hC) (by simp)
   ·rename_i eS;exact absurd rfl (eS off rfl)
  ·exact h.elim
 unfold xN at h;split at h
 ·rename_i ae aB;split at h
  ·rename_i al;exact key ae aB (.inl rfl) al h
  ·exact h.elim
 ·rename_i ae aB;split at h
  ·rename_i al;exact key ae aB (.inr rfl) al h
  ·exact h.elim
 ·exact h.elim
theorem E5 {lo s:Nat} {t:TypeId} (ai:bC P t=some s) {p v:I} {K:I→List ar→Prop} (h:xQ lo s p v H K):∃ r H',gM P lo 0 t H [p,v]=some (r,H')∧K r H':=by
 unfold xQ at h;split at h
 ·split at h
  ·rename_i bB;have bB:=tU bB;obtain ⟨x,ao,h⟩:=e3 h;split at h
   ·rcases lO h with ⟨ad,av⟩ | ⟨vc,ad,_,av⟩
    ·split at av
     ·rename_i af;have af:=tb af;rw [x2] at av;obtain ⟨aG,av⟩:=lq av;clear h;subst af;exact ⟨.junk,_,by simp only [gM,iz,ai,ad,hd,bB,if_true,ao];rw [if_pos ⟨rfl,by omega⟩];rfl,av⟩
     ·exact av.elim
    ·split at av
     ·rename_i af a5;have af:=tb af;(have a5:0<s:=by simpa [te] using a5);obtain ⟨aG,av⟩:=m7 av;(have bL:=aG.resolve_right fun aG=>by simp only [we] at aG;rw [aG] at af;simp only [uS] at af;omega);simp only [sX,af] at bL;exact ⟨.junk,_,by simp only [gM,iz,ai,ad,hd,bB,if_true,ao];rw [if_pos ⟨af,bL⟩];rfl,av⟩
     ·exact av.elim
   ·rcases lO h with ⟨ad,av⟩ | ⟨vc,ad,_,av⟩
    ·split at av
     ·rename_i af;have af:=tb af;rw [x2] at av;obtain ⟨aG,av⟩:=lq av;clear h;subst af;exact ⟨.junk,_,by simp only [gM,iz,ai,ad,hd,bB,if_true,ao];rw [if_pos ⟨rfl,by omega⟩];rfl,av⟩
     ·exact av.elim
    ·split at av
     ·rename_i af a5;have af:=tb af;(have a5:0<s:=by simpa [te] using a5);obtain ⟨aG,av⟩:=m7 av;(have bL:=aG.resolve_right fun aG=>by simp only [we] at aG;rw [aG] at af;simp only [uS] at af;omega);simp only [sX,af] at bL;exact ⟨.junk,_,by simp only [gM,iz,ai,ad,hd,bB,if_true,ao];rw [if_pos ⟨af,bL⟩];rfl,av⟩
     ·exact av.elim
   ·exact h.elim
  ·exact h.elim
 ·exact h.elim
theorem EZ {v:I} {K:I→List ar→Prop} (h:xL v H K):∃ r H',gL 0 H [v]=some (r,H')∧K r H':=by
 unfold xL at h;rcases lO h with ⟨ad,h⟩ | ⟨vc,ad,_,h⟩
 ·rw [x2] at h;exact ⟨_,_,by simp only [gL,ad,sf,sG,List.map_nil],h⟩
 ·exact ⟨_,_,by simp only [gL,ad,sf],h⟩
theorem EY {mode:Nat} (hm:mode≠0) {v:I} {K:I→List ar→Prop} (h:xM v H K):∃ r H',gL mode H [v]=some (r,H')∧K r H':=by
 unfold xM at h;cases mode with
 | zero=>exact absurd rfl hm
 | succ m =>
 rcases lO h with ⟨ad,af,h⟩ | ⟨vc,ad,_,af,h⟩
 ·have aG:[v].all I.plain=true:=by simp [af]
  exact ⟨_,_,by simp only [gL,ad,aG],h⟩
 ·exact ⟨_,_,by simp only [gL,ad,af],h⟩
theorem zQ:∀ (l:List I) (a:Int) {K:Int→Prop},xv l a K→∃ n,kZ l a=some n∧K n
 | [],a,K,h=>⟨a,rfl,h⟩
 | .int k b::r,a,K,h=>by
   obtain ⟨n,ad,af⟩:=zQ r _ h;(have e:min a b=if b<a then b else a:=by split <;> omega);rw [e] at ad;exact ⟨n,ad,af⟩
 | .junk::_,_,_,h | .bool _::_,_,_,h | .eG::_,_,_,h | .ptr _ _::_,_,_,h | .bT _::_,_,_,h | .ax _ _ _::_,_,_,h | .ref _ _ _ _ _::_,_,_,h | .func _ _ _::_,_,_,h | .yield _::_,_,_,h | .map _::_,_,_,h
 | .agg _::_,_,_,h | .tuple _::_,_,_,h | .str _::_,_,_,h | .raw _ _ _::_,_,_,h | .ck _ _ _ _::_,_,_,h=>h.elim
theorem zP:∀ (l:List I) (a:Int) {K:Int→Prop},xu l a K→∃ n,kY l a=some n∧K n
 | [],a,K,h=>⟨a,rfl,h⟩
 | .int k b::r,a,K,h=>by
   obtain ⟨n,ad,af⟩:=zP r _ h;(have e:max a b=if b > a then b else a:=by split <;> omega);rw [e] at ad;exact ⟨n,ad,af⟩
 | .junk::_,_,_,h | .bool _::_,_,_,h | .eG::_,_,_,h | .ptr _ _::_,_,_,h | .bT _::_,_,_,h | .ax _ _ _::_,_,_,h | .ref _ _ _ _ _::_,_,_,h | .func _ _ _::_,_,_,h | .yield _::_,_,_,h | .map _::_,_,_,h
 | .agg _::_,_,_,h | .tuple _::_,_,_,h | .str _::_,_,_,h | .raw _ _ _::_,_,_,h | .ck _ _ _ _::_,_,_,h=>h.elim
theorem E8 {lo:Nat} {t:TypeId} {x:Operand} {v:I} {K:I→List ar→Prop} (h:xV v H K):∃ r H',eV P lo 1 t x H [v]=some (r,H')∧K r H':=by
 unfold xV at h;split at h
 ·rcases h with h | h
  ·exact ⟨_,_,by simp only [eV];rw [if_neg h.1],h.2⟩
  ·exact ⟨_,_,by simp only [eV];rw [if_pos h.1],h.2⟩
 ·exact ⟨_,_,rfl,h⟩
 ·exact ⟨_,_,rfl,h⟩
 ·exact h.elim
theorem Ax {t e:TypeId} {s bytes:Nat} (ay:P.underlying t=some (.slice e)) (ai:bC P e=some s) {z:List I} (bj:zeroCells P e=some z) (ag:(P.info? e).map (·.bytes)=some bytes)
  (eu:z.length=s) (aU:0<s) (ad:1≤bytes) {x y:I} {new:List I} {m:Nat} (eP:appended H y=some (m,new)) {K:I→List ar→Prop} (h:oq s bytes x new m H K):∃ r H',iU P #[t,t] H [x,y]=some (r,H')∧K r H':=by
 unfold oq at h;obtain ⟨aC,aI,h⟩:=h;have al:new.length=m*s∧0<s∧z.length=s∧fv m bytes=true:=⟨aC,aU,eu,gi aI ad⟩;have key:∀ {r:I},e' P H t t x y=some r→iU P #[t,t] H [x,y]=some (r,H):=fun h=>by simp [iU,h]
 have beq:Nat.beq t t=true:=uU t;split at h
 ·obtain ⟨bp,h⟩:=h;subst bp;refine ⟨_,_,key ?_,h⟩;simp only [e',ay,ai,ag,bj,beq,eP];rw [if_pos al];rfl
 ·obtain ⟨bp,cH,eB,h⟩:=h;refine ⟨_,_,key ?_,h⟩;simp only [e',ay,ai,ag,bj,beq,eP];rw [if_pos al];simp only [bp,if_false];rw [if_pos ⟨gi cH ad,eB⟩]
 ·obtain ⟨bp,cH,h⟩:=h;refine ⟨_,_,key ?_,h⟩;simp only [e',ay,ai,ag,bj,beq,eP];rw [if_pos al];simp only [bp];rw [if_pos ⟨trivial,gi cH ad⟩]
 ·obtain ⟨bp,cH,h⟩:=h;refine ⟨_,_,key ?_,h⟩;simp only [e',ay,ai,ag,bj,beq,eP];rw [if_pos al];simp only [bp];rw [if_pos ⟨trivial,gi cH ad⟩]
 ·exact h.elim
theorem EX {t e:TypeId} {s bytes:Nat} (ay:P.underlying t=some (.slice e)) (ai:bC P e=some s) {z:List I} (bj:zeroCells P e=some z) (ag:(P.info? e).map (·.bytes)=some bytes)
  (eu:z.length=s) (aU:0<s) (ad:1≤bytes) {x y:I} {K:I→List ar→Prop} (h:xJ s bytes x y H K):∃ r H',iU P #[t,t] H [x,y]=some (r,H')∧K r H':=by
 unfold xJ at h;split at h
 ·rename_i new m c;exact Ax ay ai bj ag eu aU ad (y:=.ax new m c) rfl h
 ·rename_i id off m c cS;obtain ⟨o,aq,h⟩:=e3 h;split at h
  ·rename_i l;obtain ⟨bp,h⟩:=h;refine Ax ay ai bj ag eu aU ad (y:=.ref id off m c cS) ?_ h;simp only [appended,lenOf,rowOf,aq,if_pos bp]
  ·exact h.elim
 ·exact h.elim
theorem Nat.B6 {a b:Nat} (h:b=a):Nat.blt a b=false:=by
 cases ag:Nat.blt a b with
 | false=>rfl
 | true=>have:=tU ag;omega
theorem EW {lo:Nat} {t e:TypeId} {s bytes:Nat} (ay:P.underlying t=some (.slice e)) (ai:bC P e=some s) {z:List I} (bj:zeroCells P e=some z) (ag:(P.info? e).map (·.bytes)=some bytes)
  (eu:z.length=s) (aU:0<s) (ad:1≤bytes) {x y:I} {K:I→List ar→Prop} (h:xK lo s bytes x y H K):∃ r H',iV P lo #[t,t] H [x,y]=some (r,H')∧K r H':=by
 unfold xK at h;split at h
 ·rename_i new m c;obtain ⟨⟨aC,aI⟩,h⟩:=h;have eP:appended H (.ax new m c)=some (m,new):=rfl;have al:new.length=m*s∧0<s∧z.length=s∧fv m bytes=true:=⟨aC,aU,eu,gi aI ad⟩;have beq:Nat.beq t t=true:=uU t;split at h
  ·rename_i cells n;obtain ⟨⟨bp,cH,eB⟩,h⟩:=h;refine ⟨_,_,?_,h⟩;have q:e' P H t t (.ax cells n .full) (.ax new m c)=some (.ax (cells++new) (n+m) (.uniq s)):=by
    simp only [e',ay,ai,ag,bj,beq,eP];rw [if_pos al];simp only [bp,if_false];rw [if_pos ⟨gi cH ad,eB⟩]
   simp only [iV,jc,ic,q];rw [if_neg (by omega)]
  ·rename_i cells n cS;obtain ⟨⟨rfl,bp,cH⟩,h⟩:=h;refine ⟨_,_,?_,h⟩;have q:e' P H t t (.ax cells n (.uniq cS)) (.ax new m c)=some (.ax (cells++new) (n+m) (.uniq cS)):=by
    simp only [e',ay,ai,ag,bj,beq,eP];rw [if_pos al];rw [if_pos ⟨trivial,gi cH ad⟩]
   simp only [iV,jc,ic,q];rw [if_neg (by omega)]
  ·rename_i id gid n z;split at h
   ·rename_i bB;have bB:=tU bB;obtain ⟨o,aE,h⟩:=e3 h;split at h
    ·rcases h with ⟨⟨ca,b5,en,bp,cH,eB⟩,bL⟩ | ⟨⟨ca,b5,en,bp,cH,eB⟩,bL⟩
     ·subst ca b5 en;refine ⟨_,_,?_,bL⟩;have iG:=Nat.B6 bp;simp only [iV,jc,aE,iG,Bool.false_and];simp only [ic,bB,if_true,ay,aE,ai,ag,bj,eP];rw [if_pos ⟨trivial,trivial,trivial,trivial,bp,aC,aU,cH,eu,gi aI ad,gi eB ad⟩]
     ·rename_i l g cS;subst ca b5 en;refine ⟨_,_,?_,bL⟩;have iG:Nat.blt (n*cS) l.length=true:=uj bp;have gE:Nat.ble lo id=true:=uj bB;have C6:=(sb.1 aE).1;(have pD:(H.set id (.grow (l.take (n*cS)) g cS))[id]?=some (.grow (l.take (n*cS)) g cS):=by rw [si C6]);simp only [iV,jc,aE,iG,gE,Bool.and_self];simp only [ic,bB,if_true,ay,pD,ai,ag,bj];have CG:appended (H.set id (.grow (l.take (n*cS)) g cS)) (.ax new m c)=some (m,new):=rfl;simp only [CG];rw [if_pos ⟨trivial,trivial,trivial,trivial,by rw [List.length_take];omega,aC,aU,cH,eu,gi aI ad,gi eB ad⟩,List.set_set,tc]
    ·exact h.elim
   ·exact h.elim
  ·exact h.elim
 ·exact h.elim
theorem E2 {t e:TypeId} {s:Nat} (ay:P.underlying t=some (.slice e)) (ai:bC P e=some s) {l h m:Option Operand} {x:I} {vs:List I} {K:I→List ar→Prop}
  (av:xP s l.isSome h.isSome m.isSome x vs H K):∃ r,eh P t l h m (x::vs)=some r∧K r H:=by
 unfold xP at av;split at av
 ·rename_i cells n c;split at av
  ·rename_i e1 b' du;obtain rfl:=tq.1 e1 |> tr.1;obtain rfl:=tq.1 b' |> tr.1;obtain rfl:=tq.1 du |> tr.1;split at av
   ·exact ⟨_,by simp [eh,ay,ai,cG,dn],av⟩
   ·exact ⟨_,by simp [eh,I.view,eY,ay,ai,cG,dn],av⟩
   ·exact av.elim
  ·rename_i k i e1 b' du;obtain ⟨l,rfl⟩:=tw.1 e1;obtain rfl:=tq.1 b' |> tr.1;obtain rfl:=tq.1 du |> tr.1;split at av
   ·obtain ⟨⟨rfl,ag⟩,av⟩:=av;exact ⟨_,by simp [eh,ay,ai,cG,dn,ag],av⟩
   ·obtain ⟨ag,av⟩:=av;exact ⟨_,by simp [eh,I.view,eY,ay,ai,cG,dn,ag],av⟩
   ·obtain ⟨ag,av⟩:=av;exact ⟨_,by simp [eh,I.view,eY,ay,ai,cG,dn,ag],av⟩
   ·exact av.elim
  ·rename_i k j e1 b' du;obtain rfl:=tq.1 e1 |> tr.1;obtain ⟨h,rfl⟩:=tw.1 b';obtain rfl:=tq.1 du |> tr.1;split at av
   ·obtain ⟨ag,av⟩:=av;exact ⟨_,by simp [eh,ay,ai,cG,dn,ag],av⟩
   ·obtain ⟨ag,av⟩:=av;exact ⟨_,by simp [eh,I.view,eY,ay,ai,cG,dn,ag],av⟩
   ·obtain ⟨ag,av⟩:=av;exact ⟨_,by simp [eh,I.view,eY,ay,ai,cG,dn,ag],av⟩
   ·exact av.elim
  ·rename_i k i k' j e1 b' du;obtain ⟨l,rfl⟩:=tw.1 e1;obtain ⟨h,rfl⟩:=tw.1 b';obtain rfl:=tq.1 du |> tr.1;have aw:0≤i∧i≤j∧j≤n→(0≤j∧j≤n)∧i≤max j 0:=fun ag=>⟨⟨by omega,ag.2.2⟩,by omega⟩;split at av
   ·obtain ⟨ag,av⟩:=av;obtain ⟨q1,aW⟩:=aw ag;exact ⟨_,by simp [eh,I.view,eY,ay,ai,cG,dn,q1,aW,ag.1],av⟩
   ·obtain ⟨ag,av⟩:=av;obtain ⟨q1,aW⟩:=aw ag;exact ⟨_,by simp [eh,I.view,eY,ay,ai,cG,dn,q1,aW,ag.1],av⟩
   ·obtain ⟨ag,av⟩:=av;obtain ⟨q1,aW⟩:=aw ag;exact ⟨_,by simp [eh,I.view,eY,ay,ai,cG,dn,q1,aW,ag.1],av⟩
   ·exact av.elim
  ·rename_i k j k' zr e1 b' du;obtain rfl:=tq.1 e1 |> tr.1;obtain ⟨h,rfl⟩:=tw.1 b';obtain ⟨m,rfl⟩:=tw.1 du;obtain ⟨⟨rfl,ag⟩,av⟩:=av;(have q:j≤max j 0:=by omega);refine ⟨_,?_,av⟩;cases c <;> simp [eh,I.view,eY,ay,ai,cG,dn,ag,q]
  ·rename_i k i k' j G4 zr e1 b' du;obtain ⟨l,rfl⟩:=tw.1 e1;obtain ⟨h,rfl⟩:=tw.1 b';obtain ⟨m,rfl⟩:=tw.1 du;obtain ⟨⟨rfl,ag⟩,av⟩:=av;(have q:j≤max j 0:=by omega);(have aW:i≤max j 0:=by omega);(have cx:0≤j:=by omega);refine ⟨_,?_,av⟩;cases c <;> simp [eh,I.view,eY,ay,ai,cG,dn,ag,q,aW,cx]
  ·exact av.elim
 ·rename_i id off n cap sz;split at av
  ·rename_i k i e1 b' du;obtain ⟨l,rfl⟩:=tw.1 e1;obtain rfl:=tq.1 b' |> tr.1;obtain rfl:=tq.1 du |> tr.1;obtain ⟨rfl,ag,aJ,aQ⟩:=av;by_cases hi:i<n
   ·(have hi':i.toNat<n:=by omega);exact ⟨_,by simp [eh,I.view,eY,ay,ai,cG,dn,ag,hi'],aJ hi⟩
   ·(have hi':¬ i.toNat<n:=by omega);exact ⟨_,by simp [eh,I.view,eY,ay,ai,cG,dn,ag,hi'],aQ (by omega)⟩
  ·rename_i k j e1 b' du;obtain rfl:=tq.1 e1 |> tr.1;obtain ⟨h,rfl⟩:=tw.1 b';obtain rfl:=tq.1 du |> tr.1;obtain ⟨rfl,⟨bp,cH,eB⟩,av⟩:=av;(have al:cap.map (·-0)=cap:=by cases cap <;> rfl);exact ⟨_,by simp [eh,I.view,eY,ay,ai,cG,dn,bp,cH,eB],av⟩
  ·exact av.elim
 ·rename_i id gid n z;split at av
  ·rename_i k j e1 b' du;obtain rfl:=tq.1 e1 |> tr.1;obtain ⟨h,rfl⟩:=tw.1 b';obtain rfl:=tq.1 du |> tr.1;obtain ⟨ag,av⟩:=av;exact ⟨_,by simp [eh,ay,ai,cG,dn,ag],av⟩
  ·exact av.elim
 ·exact av.elim
end
end Go.Proofs.YtfakoboiahbhaaaGreat.Ab


namespace Go.Proofs.YtfakoboiahbhaaaGreat.Ab
open Go
section
variable {P:Program} {H:List ar}
theorem xr {α β:Type} {f:α→Option β}:∀ {l:List α} {r:List β},hl.mK f l=some r→l.map f=r.map some
 | [],r,h=>by simp [hl.mK] at h;subst h;rfl
 | x::xs,r,h=>by
   simp only [hl.mK] at h;split at h
   ·rename_i y aY;simp only [sa] at h;obtain ⟨ys,h,rfl⟩:=h;simp [aY,xr h]
   ·simp at h
theorem xm {t:TypeId} {x:hV×TypeId} (h:mE P t=some x):∃ dZ,jZ P t=some (dZ,x.2)∧∀ k,kS x.1 k→isKey P dZ k=true:=by
 unfold mE at h;split at h
 ·rename_i dZ e hm;split at h
  ·rename_i q aZ;cases h;refine ⟨dZ,hm,fun k av=>?_⟩;cases k <;> simp only [kS] at av;subst av;simp [isKey,aZ]
  ·rename_i bl ai;cases h;refine ⟨dZ,hm,fun k av=>?_⟩;cases k <;> simp only [kS] at av;simp [isKey,ai,av]
  ·cases h
 ·cases h
theorem Av {lo:Nat} {o:Oper} {mode:Nat} {vs:List I} {K:I→List ar→Prop} (h:bM P lo (hl P o mode) vs H K):∃ v H',(∀ C,a4 P C lo o mode vs H=some (v,H'))∧K v H':=by
 have G6:∀ {x:iu},x=.other o mode→bM P lo x vs H K→∃ v H',(∀ C,a4 P C lo o mode vs H=some (v,H'))∧K v H':=fun e h=>by subst e;exact h
 have pure:∀ {r:I},(∀ C,a4 P C lo o mode vs H=(cw P o vs).map (·,H))→cw P o vs=some r→K r H→∃ v H',(∀ C,a4 P C lo o mode vs H=some (v,H'))∧K v H':=fun ad af aG=>⟨_,H,fun C=>by rw [ad C,af];rfl,aG⟩;have mN:∀ x,(o.op=.move x∨o.op=.assign x)→(∀ C,a4 P C lo o mode vs H=eV P lo mode o.type x H vs)→bM P lo (om P o mode x) vs H K→∃ v H',(∀ C,a4 P C lo o mode vs H=some (v,H'))∧K v H':=fun x _ hm h=>by
  unfold om at h;split at h
  ·split at h
   ·rename_i e aN hu;split at h
    ·rename_i z bj;simp only [bM] at h;split at h
     ·exact ⟨_,_,fun C=>by rw [hm C];simp only [eV,aN,hu,bj,sf],h⟩
     ·exact h.elim
    ·exact h
   ·rename_i eS;simp only [bM] at h;split at h
    ·refine ⟨_,H,fun C=>?_,h⟩;rw [hm C];simp only [eV]
     try (split
          ·rename_i e ad af;exact absurd af (eS e ad)
          ·rfl)
    ·exact h.elim
  ·simp only [bM] at h;split at h
   ·obtain ⟨r,H',ad,af⟩:=E8 (P:=P) (lo:=lo) (t:=o.type) (x:=x) h;exact ⟨r,H',fun C=>by rw [hm C];exact ad,af⟩
   ·exact h.elim
  ·exact h
 unfold hl at h;cases aD:o.op <;> simp only [aD] at h <;> (try exact h)
 case move x=>exact mN x (.inl aD) (fun C=>by simp [a4,aD]) h
 case assign x=>exact mN x (.inr aD) (fun C=>by simp [a4,aD]) h
 case load t a =>
  split at h
  ·split at h
   ·rename_i BS cb;simp only [bM] at h;split at h
    ·obtain ⟨r,H',ad,af⟩:=E1 (P:=P) (lo:=lo) cb h;exact ⟨r,H',fun C=>by simp only [a4,aD];exact ad,af⟩
    ·exact h.elim
   ·exact h
  ·split at h
   ·rename_i e hu;simp only [bM] at h;split at h
    ·obtain ⟨r,H',ad,af⟩:=E6 (P:=P) (lo:=lo) hu h;exact ⟨r,H',fun C=>by simp only [a4,aD];exact ad,af⟩
    ·exact h.elim
   ·exact h
  ·split at h
   ·rename_i BS cb;simp only [bM] at h;split at h
    ·obtain ⟨r,ad,af⟩:=nV cb h;exact ⟨r,H,fun C=>by simp only [a4,aD,dM,ad,sf],af⟩
    ·exact h.elim
   ·exact h
  ·exact h
  ·rename_i hm jN y4 y5;split at h
   ·rename_i e hu;simp only [bM] at h;split at h
    ·obtain ⟨r,H',ad,af⟩:=E7 (P:=P) (lo:=lo) (mode:=mode) (fun e=>hm e) (fun e=>jN e) (fun e=>y4 e) (fun e=>y5 e) hu h;exact ⟨r,H',fun C=>by simp only [a4,aD];exact ad,af⟩
    ·exact h.elim
   ·exact h
 case store t a x =>
  split at h
  ·rename_i s ai;simp only [bM] at h;split at h
   ·obtain ⟨r,H',ad,af⟩:=E5 (P:=P) (lo:=lo) ai h;exact ⟨r,H',fun C=>by simp only [a4,aD];exact ad,af⟩
   ·exact h.elim
  ·rename_i s ai;simp only [bM] at h;split at h
   ·obtain ⟨r,H',ad,af⟩:=E3 (P:=P) (lo:=lo) ai h;exact ⟨r,H',fun C=>by simp only [a4,aD];exact ad,af⟩
   ·exact h.elim
  ·rename_i m eS ai;simp only [bM] at h;split at h
   ·obtain ⟨r,H',ad,af⟩:=E4 (P:=P) (lo:=lo) (mode:=m+1) (by omega) (fun e=>by first | exact eS _ e rfl | exact eS e | simp_all) ai h;exact ⟨r,H',fun C=>by simp only [a4,aD];exact ad,af⟩
   ·exact h.elim
  ·exact h
 case box e x =>
  split at h
  ·simp only [bM] at h;split at h
   ·obtain ⟨r,H',ad,af⟩:=EZ h;exact ⟨r,H',fun C=>by simp only [a4,aD];exact ad,af⟩
   ·exact h.elim
  ·rename_i hm;simp only [bM] at h;split at h
   ·obtain ⟨r,H',ad,af⟩:=EY (mode:=mode) (fun e=>hm e) h;exact ⟨r,H',fun C=>by simp only [a4,aD];exact ad,af⟩
   ·exact h.elim
 case alloc t =>
  split at h
  ·split at h
   ·rename_i z bj;exact ⟨_,_,fun C=>by simp only [a4,aD,k2,bj,sf],h⟩
   ·exact h
  ·rename_i hm;split at h
   ·rename_i e bj hu;split at h
    ·rename_i s ai;refine ⟨_,_,fun C=>?_,h⟩;simp only [a4,aD];unfold k2;split
     ·exact absurd rfl hm
     ·simp only [bj,hu,ai,sf]
    ·exact h
   ·exact h
 case makeSlice t a b =>
  split at h
  ·rename_i Et e hu;split at h
   ·rename_i s z bytes ai bj ag;split at h
    ·rename_i al;simp only [sx,uV,te,uh] at al;obtain ⟨⟨a_,ba⟩,br⟩:=al;simp only [bM] at h;split at h
     ·unfold AJ at h;split at h
      ·obtain ⟨d1,d2,d3,h⟩:=h;refine ⟨_,_,fun C=>?_,h⟩;simp only [a4,aD,j4];rw [if_pos ⟨d1,d2⟩];simp only [jk,hu,ai,bj,ag];rw [if_pos ⟨a_,ba,gi d3 br⟩];rfl
      ·exact h.elim
     ·exact h.elim
    ·exact h
   ·exact h
  ·rename_i Et m e hu;split at h
   ·rename_i s z bytes ai bj ag;split at h
    ·rename_i al;simp only [sx,uV,te,uh] at al;obtain ⟨⟨a_,ba⟩,br⟩:=al;simp only [bM] at h;split at h
     ·unfold AI at h;split at h
      ·obtain ⟨d1,d2,d3,h⟩:=h;refine ⟨_,_,fun C=>?_,h⟩;simp only [a4,aD,j4];rw [if_pos ⟨by omega,by omega⟩,if_pos ⟨d1,d2⟩];simp only [jk,hu,ai,bj,ag];rw [if_pos ⟨a_,ba,gi d3 br⟩];rfl
      ·exact h.elim
     ·exact h.elim
    ·exact h
   ·exact h
  ·exact h
 case call c =>
  split at h
  ·rename_i b ag;split at h
   ·split at h
    ·rename_i ai;simp only [bM] at h;split at h
     ·unfold AE at h;split at h
      ·exact ⟨_,_,fun C=>by simp only [a4,aD,ag,ew,hh,ai],h⟩
      ·exact ⟨_,_,fun C=>by simp only [a4,aD,ag,ew,hh,ai],h⟩
      ·exact h.elim
     ·exact h.elim
    ·split at h
     ·rename_i n e hu;simp only [bM] at h;split at h
      ·exact h.elim
      ·exact h.elim
      ·exact h.elim
      ·rename_i x b6 cg En;refine ⟨_,_,fun C=>?_,h⟩;simp only [a4,aD,ag,ew,hh,hu]
       try (cases x <;> first | rfl | exact absurd rfl (b6 _ _ _) | exact absurd rfl (cg _ _ _ _ _) | exact absurd rfl (En _))
      ·exact h.elim
     ·rename_i _ _ hu;simp only [bM] at h;split at h
      ·unfold AD at h;split at h
       ·obtain ⟨es,clock,ad,h⟩:=h;exact ⟨_,_,fun C=>by simp only [a4,aD,ag,ew,hh,hu,ad],h⟩
       ·exact h.elim
      ·exact h.elim
     ·exact h
   ·split at h
    ·rename_i x ak;simp only [sg] at ak;obtain ⟨t,ay,ak⟩:=ak;obtain ⟨dZ,hm,hF⟩:=xm ak;simp only [bM] at h;split at h
     ·unfold AF at h;split at h
      ·split at h
       ·rename_i bB;have bB:=tU bB;obtain ⟨ad,es,clock,af,r,aG,h⟩:=h;split at h
        ·exact ⟨_,_,fun C=>by simp only [a4,aD,ag,ew,hI,ay,sc,hm,hF _ ad,bB,if_true,af,aG],h⟩
        ·exact ⟨_,_,fun C=>by simp only [a4,aD,ag,ew,hI,ay,sc,hm,hF _ ad,bB,if_true,af,aG],h⟩
       ·exact h.elim
      ·exact h.elim
     ·exact h.elim
    ·exact h
   ·simp only [bM] at h;split at h
    ·obtain ⟨n,ad,af⟩:=zQ _ _ h;exact ⟨_,_,fun C=>by simp only [a4,aD,ag,ew,n3,ad,sf],af⟩
    ·exact h.elim
   ·simp only [bM] at h;split at h
    ·obtain ⟨n,ad,af⟩:=zP _ _ h;exact ⟨_,_,fun C=>by simp only [a4,aD,ag,ew,n2,ad,sf],af⟩
    ·exact h.elim
   ·split at h
    ·rename_i t dp g9;split at h
     ·rename_i e nx hu;split at h
      ·rename_i s z bytes ai bj yV;split at h
       ·rename_i al;simp only [sx,uV,te,uh] at al;obtain ⟨⟨a_,ba⟩,br⟩:=al;obtain rfl:t=dp:=tb nx;(have pg:c.argTypes=#[t,t]:=by rw [←uy (xs:=c.argTypes),g9]);simp only [bM] at h;split at h
        ·obtain ⟨r,H',ad,af⟩:=EX hu ai bj yV a_ ba br h;exact ⟨r,H',fun C=>by simp only [a4,aD,ag,ew,pg];exact ad,af⟩
        ·exact h.elim
       ·rename_i al hm;simp only [sx,uV,te,uh] at al;obtain ⟨⟨a_,ba⟩,br⟩:=al;obtain rfl:t=dp:=tb nx;(have pg:c.argTypes=#[t,t]:=by rw [←uy (xs:=c.argTypes),g9]);simp only [bM] at h;split at h
        ·obtain ⟨r,H',ad,af⟩:=EW (lo:=lo) hu ai bj yV a_ ba br h;refine ⟨r,H',fun C=>?_,af⟩;simp only [a4,aD,ag,pg]
         first
         | exact ad
         | (split
            ·exact absurd rfl hm
            ·exact ad)
        ·exact h.elim
       ·exact h
      ·exact h
     ·exact h
    ·exact h
   ·exact h
  ·exact h.elim
  ·exact h
 case makeMap t r =>
  split at h
  ·rename_i _ _ hu;simp only [bM] at h;exact ⟨_,_,fun C=>by simp only [a4,aD,k5,hu],h⟩
  ·exact h
 case mapUpdate t m k v =>
  split at h
  ·rename_i x ak;obtain ⟨dZ,hm,hF⟩:=xm ak;simp only [bM] at h;split at h
   ·unfold AH at h;split at h
    ·split at h
     ·rename_i bB;have bB:=tU bB;obtain ⟨ad,es,clock,af,r,aG,h⟩:=h;split at h
      ·exact ⟨_,_,fun C=>by simp only [a4,aD,iW,hm,hF _ ad,bB,if_true,af,aG],h⟩
      ·exact ⟨_,_,fun C=>by simp only [a4,aD,iW,hm,hF _ ad,bB,if_true,af,aG],h⟩
     ·exact h.elim
    ·exact h.elim
   ·exact h.elim
  ·exact h
 case lookup t m k ok =>
  split at h
  ·rename_i x ak;obtain ⟨dZ,hm,hF⟩:=xm ak;simp only [bM] at h;split at h
   ·unfold AG at h;split at h
    ·obtain ⟨ad,es,clock,af,r,aG,h⟩:=h;split at h
     ·obtain ⟨e,he,h⟩:=h;cases ok
      ·exact ⟨_,_,fun C=>by simp only [a4,aD,ie,hm,hF _ ad,af,aG,sc,he,sf];rfl,h⟩
      ·exact ⟨_,_,fun C=>by simp only [a4,aD,ie,hm,hF _ ad,af,aG,sc,he,sf];rfl,h⟩
     ·obtain ⟨z,bj,h⟩:=h;cases ok
      ·exact ⟨_,_,fun C=>by simp only [a4,aD,ie,hm,hF _ ad,af,aG,Option.bind_none,bj,sf];rfl,h⟩
      ·exact ⟨_,_,fun C=>by simp only [a4,aD,ie,hm,hF _ ad,af,aG,Option.bind_none,bj,sf];rfl,h⟩
    ·exact h.elim
   ·exact h.elim
  ·exact h
 case range t m =>
  split at h
  ·rename_i _ _ hu;simp only [bM] at h;split at h
   ·unfold AK at h;split at h
    ·obtain ⟨es,clock,ad,h⟩:=h;exact ⟨_,_,fun C=>by simp only [a4,aD,k6,hu,ad],h⟩
    ·exact h.elim
   ·exact h.elim
  ·exact h
 case entry m =>
  simp only [bM] at h;split at h
  ·unfold Ay at h;split at h
   ·obtain ⟨m,since,seen,clock,gk,es,e,ad,af,aG,a5,h⟩:=h;exact ⟨_,_,fun C=>by simp only [a4,aD,k4,ad,af,aG,a5,if_true],h⟩
   ·exact h.elim
  ·exact h.elim
 case pick c a b =>
  simp only [bM] at h;split at h
  ·rename_i c a b;refine pure (fun C=>by simp only [a4,aD]) (r:=match c with | true=>a | false=>b) (by cases c <;> simp [cw,aD,xx]) ?_;cases c <;> exact h
  ·exact h.elim
 case build t parts =>
  split at h
  ·rename_i z bl bj hu;split at h
   ·rename_i bn cT kJ;split at h
    ·simp only [bM] at h;obtain ⟨c6,q1,aW⟩:=iC h (xr kJ);refine pure (fun C=>by simp only [a4,aD]) (r:=.agg c6) ?_ aW;simp only [cw,aD,lF,bj,hu,cT,eL,q1,sf]
    ·simp only [bM] at h;obtain ⟨r,q1,aW⟩:=E0 bj hu cT (xr kJ) h;exact ⟨r,H,fun C=>by simp only [a4,aD,eL,q1,sf],aW⟩
   ·exact h
  ·rename_i z len e bj hu;split at h
   ·rename_i s ai;(have aq:∀ C,a4 P C lo o 0 vs H=(cw P o vs).map (·,H):=fun C=>by simp only [a4,aD]);simp only [bM] at h;obtain ⟨c6,q1,aW⟩:=iC (place:=fun i=>some (i*s,s)) (ix:=parts.toList.map (·.1)) h (by simp);refine pure aq (r:=.agg c6) ?_ aW;simp only [cw,aD,lF,bj,hu,ai,eL,sc,q1,sf]
   ·exact h
  ·exact h
 case buildSlice t len parts =>
  split at h
  ·rename_i e hu;split at h
   ·rename_i s z ai bj;split at h
    ·rename_i al;simp only [sx,uV,te,uh] at al;obtain ⟨⟨a_,ba⟩,br⟩:=al;simp only [bM] at h;obtain ⟨c6,q1,aW⟩:=iC (place:=fun i=>some (i*s,s)) (ix:=parts.toList.map (·.1)) h (by simp);refine pure (fun C=>by simp only [a4,aD]) (r:=.ax c6 len (.uniq s)) ?_ aW;simp only [cw,aD,iw,hu,ai,bj,eL];rw [if_pos ⟨ba,a_,br⟩,q1];rfl
    ·rename_i al hm;simp only [sx,uV,te,uh] at al;obtain ⟨⟨a_,ba⟩,br⟩:=al;simp only [bM] at h;obtain ⟨c6,q1,aW⟩:=iC (place:=fun i=>some (i*s,s)) (ix:=parts.toList.map (·.1)) h (by simp);refine ⟨_,_,fun C=>?_,aW⟩;have q:iw P t len (eL parts.toList vs)=some (c6,s):=by
      simp only [iw,hu,ai,bj,eL];rw [if_pos ⟨ba,a_,br⟩,q1];rfl
     simp only [a4,aD]
     first
     | (rw [q];rfl)
     | (split
        ·exact absurd rfl hm
        ·rw [q];rfl)
    ·exact h
   ·exact h
  ·exact h
 case nilCheck x =>
  simp only [bM] at h;split at h
  ·exact pure (fun C=>by simp only [a4,aD]) (by simp only [cw,aD,n_]) h
  ·exact pure (fun C=>by simp only [a4,aD]) (by simp only [cw,aD,n_]) h
  ·exact h.elim
 case binOp op t x y iq =>
  have aq:∀ C,a4 P C lo o mode vs H=(cw P o vs).map (·,H):=fun C=>by simp only [a4,aD]
  split at h
  ·rename_i aN hu;simp only [bM] at h;split at h
   ·split at h
    ·rename_i av;obtain ⟨v,ad,af⟩:=B1 (P:=P) (t:=t) (FA av) h;exact pure aq (by simp only [cw,aD,aN,gg,ad]) af
    ·exact h.elim
   ·exact h.elim
  ·rename_i aN hu;split at h
   ·simp only [bM] at h;split at h
    ·exact pure aq (by simp only [cw,aD,aN,gg,fm,hu]) h
    ·exact h.elim
   ·simp only [bM] at h;split at h
    ·exact pure aq (by simp only [cw,aD,aN,gg,fm,hu]) h
    ·exact h.elim
   ·exact h
  ·exact h
 case unOp op t x =>
  have aq:∀ C,a4 P C lo o mode vs H=(cw P o vs).map (·,H):=fun C=>by simp only [a4,aD]
  simp only [bM] at h;split at h
  ·split at h
   ·exact pure aq (by simp only [cw,aD,e4,km]) h
   ·exact h.elim
  ·split at h
   ·exact pure aq (by simp only [cw,aD,e4,km]) h
   ·exact h.elim
  ·exact h.elim
 case convert s d x =>
  have aq:∀ C,a4 P C lo o mode vs H=(cw P o vs).map (·,H):=fun C=>by simp only [a4,aD]
  split at h
  ·rename_i ad af;simp only [bM] at h;split at h
   ·exact pure aq (by simp only [cw,aD,e4,lG,ad,af]) h
   ·exact h.elim
  ·exact h
 case makeFunc fn first captured =>
  have aq:∀ C,a4 P C lo o mode vs H=(cw P o vs).map (·,H):=fun C=>by simp only [a4,aD]
  split at h
  ·simp only [bM] at h;split at h
   ·rename_i ad;exact pure aq (by simp only [cw,aD,mS];rw [if_pos (tb ad)]) h
   ·exact h.elim
  ·exact h
 case slice t x l bH m =>
  have aq:∀ C,a4 P C lo o mode vs H=(cw P o vs).map (·,H):=fun C=>by simp only [a4,aD]
  split at h
  ·rename_i e hu;split at h
   ·rename_i s ai;simp only [bM] at h;split at h
    ·obtain ⟨r,ad,af⟩:=E2 hu ai h;exact pure aq (by simp only [cw,aD,ad]) af
    ·exact h.elim
   ·exact h
  ·exact h
 case fieldAddr t x f =>
  have aq:∀ C,a4 P C lo o mode vs H=(cw P o vs).map (·,H):=fun C=>by simp only [a4,aD]
  split at h
  ·rename_i bl hu;split at h
   ·rename_i s off aP;simp only [sg,sa,Prod.mk.injEq] at aP;obtain ⟨g,aO,aF,ai,rfl,rfl⟩:=aP;simp only [bM] at h;split at h
    ·unfold Az at h;split at h
     ·exact pure aq (by simp [cw,aD,e4,ju,hu,aO,ai]) h
     ·exact pure aq (by simp [cw,aD,e4,ju,hu,aO,ai]) h
     ·exact h.elim
    ·exact h.elim
   ·exact h
  ·exact h
 case field t x f =>
  have aq:∀ C,a4 P C lo o mode vs H=(cw P o vs).map (·,H):=fun C=>by simp only [a4,aD]
  split at h
  ·rename_i bl hu;split at h
   ·rename_i a off aP;simp only [sg,sa,Prod.mk.injEq] at aP;obtain ⟨g,aO,aM,cb,rfl,rfl⟩:=aP;simp only [bM] at h;split at h
    ·obtain ⟨v,ad,af⟩:=EG cb h;exact pure aq (by simp only [cw,aD,e4,ng,hu,aO,sc,ad,sf]) af
    ·exact h.elim
   ·exact h
  ·exact h
 case indexAddr t x i =>
  have aq:∀ C,a4 P C lo o mode vs H=(cw P o vs).map (·,H):=fun C=>by simp only [a4,aD]
  split at h
  ·rename_i e hu;split at h
   ·rename_i s ai;simp only [bM] at h;split at h
    ·unfold AA at h;split at h
     ·split at h
      ·exact pure aq (by simp [cw,aD,gg,hW,hu,ai,gW,h.1]) h.2
      ·exact pure aq (by simp [cw,aD,gg,hW,hu,ai,gW,h.1]) h.2
      ·exact h.elim
     ·exact h.elim
    ·exact h.elim
   ·exact h
  ·rename_i len e hu;split at h
   ·rename_i s ai;simp only [bM] at h;split at h
    ·unfold AB at h;split at h
     ·split at h
      ·exact pure aq (by simp [cw,aD,gg,hW,hu,ai,gW,h.1]) h.2
      ·exact pure aq (by simp [cw,aD,gg,hW,hu,ai,gW,h.1]) h.2
      ·exact h.elim
     ·exact h.elim
    ·exact h.elim
   ·exact h
  ·exact h
 case extract x i =>
  have aq:∀ C,a4 P C lo o mode vs H=(cw P o vs).map (·,H):=fun C=>by simp only [a4,aD]
  simp only [bM] at h;split at h
  ·obtain ⟨v,ae,h⟩:=e3 h;rw [ki] at h;exact pure aq (by simp only [cw,aD,e4,nf,ae,sf]) h
  ·exact h.elim
end
end Go.Proofs.YtfakoboiahbhaaaGreat.Ab


namespace Go.Proofs.YtfakoboiahbhaaaGreat.Ab
open Go
noncomputable section
def oJ (P:Program) (mode lo:Nat) (bZ:e_) (args:List I) (H:List ar) (v:I) (H':List ar):Prop:=∃ C,da P C∧eZ C lo mode bZ args H=some (v,H')
def lM:List I→List I→(List I→Prop)→Prop
 | [],l,K=>K l
 | h::t,l,K=>lM t l fun r=>K (h::r)
theorem lN:∀ (a b:List I) (K:List I→Prop),lM a b K=K (a++b)
 | [],b,K=>rfl
 | h::t,b,K=>by rw [lM,lN t b];rfl
def yA (v:I) (K:I→Prop):Prop:=match v with
 | .ax c n .full=>K (.ax c n .shared)
 | .agg cs=>K (.agg (cs.map I.gY))
 | .tuple cs=>K (.tuple (cs.map I.gY))
 | v=>K v
theorem Cf (v:I) (K:I→Prop):yA v K=K v.cq:=by
 cases v with
 | ax c n k=>cases k <;> rfl
 | _=>rfl
def np:List I→(List I→Prop)→Prop
 | [],K=>K []
 | h::t,K=>yA h fun aX=>np t fun je=>K (aX::je)
theorem o0:∀ (l:List I) (K:List I→Prop),np l K=K (l.map I.cq)
 | [],K=>rfl
 | h::t,K=>by rw [np,Cf,o0 t];rfl
def nk (P:Program) (lo:Nat) (draw:Bool) (mode:Nat) (acc:dh) (vs:List I) (H:List ar) (K:dh→I→List ar→Prop):Prop:=match vs with
 | f::args=>match f with
   | .func k first cap=>lM args cap fun r=>lM first r fun as=>match mode with
     | 3=>as.all (ch 8)=true∧np as fun gy=>∃ v,lC P k gy v∧(match draw with
       | true=>(∀ p∈acc,p.1=k→p.2.1=gy→p.2.2=v)∧K ((k,gy,v)::acc) v.cq H
       | false=>K acc v.cq H)
     | 6=>match draw with
       | true=>(as.map (im H)).all (ch 8)=true∧∃ gy,(as.map (im H)).map I.cq=gy∧∃ v,fw v=true∧lC P k gy v∧(∀ p∈acc,p.1=k→p.2.1=gy→p.2.2=v)∧K ((k,gy,v)::acc) v.cq H
       | false=>∃ v H',oJ P 6 lo (.fn k) as H v H'∧K acc v H'
     | mode=>match draw with
       | true=>False
       | false=>∃ v H',oJ P mode lo (.fn k) as H v H'∧K acc v H'
   | .yield l=>match draw with
     | true=>False
     | false=>∃ v H',oJ P mode lo (.yield l) args H v H'∧K acc v H'
   | _=>False
 | []=>False
def lg (P:Program) (lo:Nat) (draw:Bool) (k:iu) (acc:dh) (vs:List I) (H:List ar) (K:dh→I→List ar→Prop):Prop:=match k with
 | .call mode=>nk P lo draw mode acc vs H K
 | k=>bM P lo k vs H (K acc)
def nU (ip:Option Nat) (T:List I) (v:I) (K:List I→Prop):Prop:=match ip with
 | none=>K T
 | some t=>kh v fun v=>jb T t v K
def o' (g:Option (Nat×Bool)) (T:List I) (skip run:Prop):Prop:=match g with
 | none=>run
 | some (t,want)=>hy T t fun v=>match v with
   | .bool b=>(match want with
     | true=>(match b with | true=>run | false=>skip)
     | false=>(match b with | true=>skip | false=>run))
   | .tuple []=>skip
   | _=>False
def hQ (P:Program) (lo:Nat) (draw:Bool) (cR:dq) (acc:dh) (T:List I) (H:List ar) (K:dh→List I→List ar→Prop):Prop :=
 o' cR.guard T (mW T cR.dst (.tuple []) fun a'=>K acc a' H) (gj cR.Gb T fun vs fU=>lg P lo draw cR.k acc vs H fun dA v H'=>l9 v fun v=>nU cR.ip fU v fun dR=>mW dR cR.dst v fun dD=>K dA dD H')
def gN (P:Program) (lo:Nat) (draw:Bool):List dq→dh→List I→List ar→(List I→List ar→Prop)→Prop
 | [],_,T,H,K=>K T H
 | cR::r,acc,T,H,K=>hQ P lo draw cR acc T H fun dA a' H'=>match draw with
   | true=>gN P lo draw r dA a' H' K
   | false=>gN P lo draw r [] a' H' K
def xF (P:Program) (lo:Nat) (a b:dq) (post:List dq):List dq→dh→List I→List ar→(List I→List ar→Prop)→Prop
 | [],acc,T,H,K=>gN P lo true (a::b::post) acc T H K∧gN P lo true (b::a::post) acc T H K
 | cR::r,acc,T,H,K=>hQ P lo true cR acc T H fun dA a' H'=>xF P lo a b post r dA a' H' K
def zZ (it:Nat) (dst:Option Nat) (T:List I) (H:List ar) (K:List I→List ar→Prop):Prop:=hy T it fun v=>match v with
 | .ptr r 0=>∃ m since seen clock es,H[r]?=some (.iter m since seen clock)∧H[m]?=some (.map es clock)∧since≤clock∧(∀ e∈es,e.1<since) ∧
   ((∀ e∈es,e.1∈seen)→mW T dst (.tuple [.bool false]) fun a'=>K a' H) ∧
   ∀ e∈es,e.1 ∉ seen→mW T dst (.tuple [.bool true,e.2.1,e.2.2]) fun a'=>K a' (H.set r (.iter m since (seen++[e.1]) clock))
 | _=>False
inductive BH (f:List I→List ar→(cz→List I→List ar→Prop)→Prop) (T:List I) (H:List ar) (Q:cz→List I→List ar→Prop):Prop where
 | intro (hU:Nat→List I→List ar→Prop) (m:Nat) (aU:hU m T H) (step:∀ m T H,hU m T H→f T H fun e a' H'=>match e with
   | .normal=>∃ hb,hb<m∧hU hb a' H'
   | e=>Q e a' H')
def xl (k:Option (List Bool)) (T:List I) (K:List I→Prop):Prop:=match k with
 | some k=>kR k T K
 | none=>K T
theorem DP (k:Option (List Bool)) (T:List I) (K:List I→Prop):xl k T K=K (match k with | some k=>eX k T | none=>T):=by
 cases k with
 | none=>rfl
 | some k=>exact zt k T K
def n6:List I→(List I→Prop)→Prop
 | [],K=>K []
 | h::t,K=>n6 t fun je=>K (h::je)
theorem zW:∀ (T:List I) (K:List I→Prop),n6 T K=K T
 | [],K=>rfl
 | h::t,K=>by rw [n6,zW t]
def ot (P:Program) (A:db) (fn:FuncId) (lo:Nat) (rl:Option Nat) (f:I) (bn:List Nat) (as cp:Code) (T:List I) (H:List ar) (Q:cz→List I→List ar→Prop):Prop:=match f with
 | .func k first cap=>inLoop H rl=true∧∃ r H' st cE fn' a' Aa gy yo iA,Sem P (.fn k) (first++[.yield H.length]++cap) (H++[.loop .ready none fn (T.map I.view) bn as cp A]) lo r H' ∧
   H'[H.length]?=some (.loop st cE fn' a' Aa gy yo iA)∧st≠.busy∧(match cE with
    | none=>Q .normal (T.map I.settle) (H'.set H.length .dead)
    | some .ret=>Q .ret (T.map I.settle) (H'.set H.length .dead)
    | some (.exit id)=>Q (.exit id) (T.map I.settle) (H'.set H.length .dead)
    | _=>False)
 | _=>False
def dO (P:Program) (A:db) (fn:FuncId) (lo:Nat) (rl:Option Nat):fT→List I→List ar→(cz→List I→List ar→Prop)→Prop
 | .skip,T,H,Q=>Q .normal T H
 | .oh draw l,T,H,Q=>gN P lo draw l [] T H (Q .normal)
 | .seq a b,T,H,Q=>dO P A fn lo rl a T H fun e a' H'=>match e with
   | .normal=>dO P A fn lo rl b a' H' Q
   | e=>Q e a' H'
 | .cond c a b,T,H,Q=>match c with
   | .sl t=>hy T t fun v=>(match v with
     | .bool x=>(match x with | true=>dO P A fn lo rl a T H Q | false=>dO P A fn lo rl b T H Q)
     | .dt=>dO P A fn lo rl a T H Q∧dO P A fn lo rl b T H Q
     | _=>False)
   | .lR v=>(match v with
     | .bool x=>(match x with | true=>dO P A fn lo rl a T H Q | false=>dO P A fn lo rl b T H Q)
     | .dt=>dO P A fn lo rl a T H Q∧dO P A fn lo rl b T H Q
     | _=>False)
   | _=>False
 | .block id c,T,H,Q=>dO P A fn lo rl c T H fun e a' H'=>match e with
   | .exit bz=>(match Nat.beq bz id with | true=>Q .normal a' H' | false=>Q (.exit bz) a' H')
   | e=>Q e a' H'
 | .loop cC c,T,H,Q=>xl cC T fun T=>BH (fun T H Q=>n6 T fun T=>dO P A fn lo rl c T H fun e a' H'=>match e with
   | .normal=>xl cC a' fun a'=>Q .normal a' H'
   | e=>Q e a' H') T H Q
 | .exit id,T,H,Q=>Q (.exit id) T H
 | .ret,T,H,Q=>Q .ret T H
 | .AL f bn as cp,T,H,Q=>match f with
   | .sl t=>hy T t fun v=>ot P A fn lo rl v bn as cp T H Q
   | .lR v=>ot P A fn lo rl v bn as cp T H Q
   | _=>False
 | .zY it dst l,T,H,Q=>zZ it dst T H fun a' H'=>gN P lo false l [] a' H' (Q .normal)
 | .two pre a b post,T,H,Q=>xF P lo a b post pre [] T H (Q .normal)
def mz (o:Oper) (mode:Nat):Option Nat:=match mode with
 | 0=>none
 | 4=>none
 | _=>match o.op with
   | .move (.tmp t) | .assign (.tmp t)=>some t
   | _=>none
def lf (P:Program) (ops:Array Oper) (o:Oper) (an:b2):Option dq:=match o.guard with
 | none=>some ⟨o.dst,hL (dH o an.mode) an.takes (opsOf o),none,mz o an.mode,hl P o an.mode⟩
 | some (j,want)=>match (ops[j]?).bind (·.dst) with
   | some d=>some ⟨o.dst,hL (dH o an.mode) an.takes (opsOf o),some (d,want),mz o an.mode,hl P o an.mode⟩
   | none=>none
def ha (P:Program) (ops:Array Oper):List Oper→List b2→Option (List dq)
 | [],_=>some []
 | o::r,as=>match lf P ops o (as.headD {}),ha P ops r as.tail with
   | some cR,some l=>some (cR::l)
   | _,_=>none
def xo (P:Program) (ops:Array Oper) (draw:Bool) (as:List b2):Option fT:=match draw,ops.toList with
 | false,o::rest=>(match o.op,o.guard with
   | .next (.tmp it) false,none=>(ha P ops rest as.tail).map (.zY it o.dst)
   | _,_=>(ha P ops (o::rest) as).map (.oh false))
 | d,l=>(ha P ops l as).map (.oh d)
def fj (P:Program) (ops:Array Oper) (an:List b2):List Nat→Option (List dq)
 | []=>some []
 | i::r=>match ops[i]? with
   | some o=>match lf P ops o (an.getD i {}),fj P ops an r with
     | some cR,some l=>some (cR::l)
     | _,_=>none
   | none=>none
def n7 (cR:dq):Bool:=match cR.k with | .call _=>false | _=>true
def nY (P:Program) (ops:Array Oper) (an:List b2) (p:Nat):Option fT :=
 match fj P ops an (List.range p),fj P ops an [p],fj P ops an [p+1],fj P ops an (List.range' (p+2) (ops.size-(p+2))) with
 | some pre,some [a],some [b],some post=>match (a::b::post).all n7 with
   | true=>some (.two pre a b post)
   | false=>none
 | _,_,_,_=>none
def oj (x:Operand):jn:=match x with
 | .tmp t=>.sl t
 | x=>.lR (aA [] x)
def eg (P:Program) (A:db):Code→Nat→Option fT
 | .skip,_=>some .skip
 | .region id ops draw,_=>match A.h' with
   | []=>match ke A id draw with
     | some p=>nY P ops (A.ops.getD id []) p
     | none=>xo P ops draw (A.ops.getD id [])
   | _=>none
 | .seq a b,a1=>match eg P A a a1,eg P A b a1 with
   | some x,some y=>some (.seq x y)
   | _,_=>none
 | .cond c a b,a1=>match eg P A a a1,eg P A b a1 with
   | some x,some y=>some (.cond (oj c) x y)
   | _,_=>none
 | .block id c,_=>(eg P A c id).map (.block id)
 | .loop c,a1=>(eg P A c a1).map (.loop (lZ a1 A.h_))
 | .exit id,_=>some (.exit id)
 | .ret,_=>some .ret
 | .scope c,a1=>eg P A c a1
 | .label _,_=>some .skip
 | .rangeFunc f bn as cp,_=>some (.AL (oj f) bn.toList as cp)
 | _,_=>none
end
section
variable {P:Program}
theorem zp (o:Oper) (mode:Nat) (T:List I) (v:I) (K:List I→Prop):nU (mz o mode) T v K=K (inPlace o mode T v):=by
 by_cases aU:mode=0
 ·subst aU;rfl
 by_cases a5:mode=4
 ·subst a5;rfl
 have e1:mz o mode=(match o.op with | .move (.tmp t) | .assign (.tmp t)=>some t | _=>none):=by
  unfold mz;split
  ·exact absurd rfl aU
  ·exact absurd rfl a5
  ·rfl
 have b':inPlace o mode T v=(match o.op with | .move (.tmp t) | .assign (.tmp t)=>gQ T t v.view | _=>T):=by
  unfold inPlace;split
  ·exact absurd rfl aU
  ·exact absurd rfl a5
  ·rfl
 rw [e1,b'];cases o.op <;> try rfl
 case move x=>cases x <;> first | rfl | (simp only [nU,ki,j'])
 case assign x=>cases x <;> first | rfl | (simp only [nU,ki,j'])
theorem Bz {lo:Nat} {draw:Bool} {ops:Array Oper} {o:Oper} {an:b2} {cR:dq} (aj:lf P ops o an=some cR) {acc:dh} {T:List I} {H:List ar} {K:dh→List I→List ar→Prop}
  (h:hQ P lo draw cR acc T H K) :
  (ey ops o T=some false∧K acc (put T o.dst (.tuple [])) H) ∨
  (ey ops o T=some true∧lg P lo draw (hl P o an.mode) acc (ft (dH o an.mode) (rd T an.takes (opsOf o)).1) H fun dA v H'=>K dA (put (inPlace o an.mode (rd T an.takes (opsOf o)).2 v) o.dst v) H'):=by
 unfold lf at aj;split at aj
 ·rename_i aO;cases aj;simp only [hQ,o',iZ,nA,zp,xA] at h;exact .inr ⟨by simp [ey,aO],h⟩
 ·rename_i j want aO;split at aj
  ·rename_i d a2;cases aj;simp only [hQ,o',iZ,nA,zp,xA,iE] at h;(have hw:∀ b,c3 T d=.bool b→ey ops o T=some (b == want):=fun b ag=>by simp [ey,aO,a2,ag]);split at h
   ·rename_i b ag;have hw:=hw b ag;cases want <;> cases b <;> simp only at h
    ·exact .inr ⟨hw,h⟩
    ·exact .inl ⟨hw,h⟩
    ·exact .inl ⟨hw,h⟩
    ·exact .inr ⟨hw,h⟩
   ·rename_i ag;exact .inl ⟨by simp [ey,aO,a2,ag],h⟩
   ·exact h.elim
  ·cases aj
theorem jd {C:b7} {lo:Nat} {ops:Array Oper} {o:Oper} {an:b2} {T:List I} {H:List ar} {v:I} {H':List ar} (hw:ey ops o T=some true)
  (h:a4 P C lo o an.mode (ft (dH o an.mode) (rd T an.takes (opsOf o)).1) H=some (v,H')):dz P C lo ops o an ⟨T,H⟩=some ⟨put (inPlace o an.mode (rd T an.takes (opsOf o)).2 v) o.dst v,H'⟩:=by
 simp only [dz,hw,Ab.execOp];unfold ft at h;cases ao:dH o an.mode <;> rw [ao] at h <;> simp only at h ⊢ <;> rw [h] <;> rfl
theorem Bl {C:b7} {lo:Nat} {ops:Array Oper} {o:Oper} {an:b2} {T:List I} {H:List ar} (hw:ey ops o T=some false):dz P C lo ops o an ⟨T,H⟩=some ⟨put T o.dst (.tuple []),H⟩:=by
 simp only [dz,hw]
theorem Au {o:Oper} {mode zV:Nat} (h:hl P o mode=.call zV):zV=mode∧∃ c f,o.op=.call c∧c.callee=.value f:=by
 cases aD:o.op
 case call c =>
  simp only [hl,aD] at h;cases al:c.callee with
  | value f=>simp only [al] at h;cases h;exact ⟨rfl,c,f,rfl,al⟩
  | invoke x n=>simp only [al] at h;cases h
  | builtin b =>
    simp only [al] at h;repeat' (first | contradiction | split at h)
 all_goals simp only [hl,aD] at h
 all_goals (try unfold om at h)
 all_goals (repeat' (first | contradiction | split at h))
theorem Aw {lo:Nat} {draw:Bool} {k:iu} {acc:dh} {vs:List I} {H:List ar} {K:dh→I→List ar→Prop} (h:lg P lo draw k acc vs H K) :
  (∃ mode,k=.call mode∧nk P lo draw mode acc vs H K)∨bM P lo k vs H (K acc):=by
 unfold lg at h;split at h
 ·exact .inl ⟨_,rfl,h⟩
 ·exact .inr h
theorem mR {C:b7} {lo mode:Nat} {k:FuncId} {first cap args:List I} {H:List ar}:hH C lo mode H (.func k first cap::args)=eZ C lo mode (.fn k) (first++args++cap) H:=rfl
theorem Ad {C:b7} {acc:dh} (cd:hR C acc) {lo:Nat} {k:FuncId} {as:List I} {v:I} (aB:as.all (ch 8)=true) (hm:(k,as.map I.cq,v)∈acc) (H:List ar) :
  eZ C lo 3 (.fn k) as H=some (v.cq,H):=by
 obtain ⟨r,a3,ad,af⟩:=cd _ hm;simp only [eZ,aB,ad,sc,af,sf]
theorem EH {C:b7} {acc:dh} (cd:hR C acc) {lo:Nat} {k:FuncId} {as:List I} {v:I} (H:List ar) (aB:(as.map (im H)).all (ch 8)=true) (ai:fw v=true) (hm:(k,(as.map (im H)).map I.cq,v)∈acc) :
  eZ C lo 6 (.fn k) as H=some (v.cq,H):=by
 obtain ⟨r,a3,ad,af⟩:=cd _ hm;simp only [eZ,aB,ad,sc,af,ai]
theorem yd {lo:Nat} {ops:Array Oper} {o:Oper} {an:b2} {cR:dq} (aj:lf P ops o an=some cR) {acc:dh} (hA:ht P acc) {T:List I} {H:List ar} {K:dh→List I→List ar→Prop}
  (h:hQ P lo true cR acc T H K):∃ dA a' H',ht P dA∧(∀ p∈acc,p∈dA)∧(∀ C,hR C dA→dz P C lo ops o an ⟨T,H⟩=some ⟨a',H'⟩)∧K dA a' H':=by
 rcases Bz aj h with ⟨hw,av⟩ | ⟨hw,av⟩
 ·exact ⟨acc,_,_,hA,fun _ h=>h,fun C _=>Bl hw,av⟩
 ·rcases Aw av with ⟨mode,hm,av⟩ | av
  ·obtain ⟨rfl,c,f,aD,al⟩:=Au hm;generalize hG:ft (dH o an.mode) (rd T an.takes (opsOf o)).1=vs at av;(have aq:∀ C,a4 P C lo o an.mode vs H=hH C lo an.mode H vs:=fun C=>by simp only [a4,aD,al]);unfold nk at av;split at av
   ·split at av
    ·(rename_i args _ k first cap);rw [lN,lN] at av;split at av
     ·rename_i jO;obtain ⟨aB,av⟩:=av;rw [o0] at av;obtain ⟨v,mm,l8,av⟩:=av;refine ⟨_,_,_,⟨fun p aB=>?_,fun p aB q aZ ad af=>?_⟩,fun p aB=>tV _ aB,fun C cd=>jd hw ?_,av⟩
      ·rcases sq.1 aB with rfl | aB
       ·exact mm
       ·exact hA.1 p aB
      ·rcases sq.1 aB with rfl | aB <;> rcases sq.1 aZ with rfl | aZ
       ·rfl
       ·exact (l8 q aZ ad.symm af.symm).symm
       ·exact l8 p aB ad af
       ·exact hA.2 p aB q aZ ad af
      ·rw [hG,aq C,jO,mR,sD];exact Ad cd aB (uo) H
     ·rename_i jO;obtain ⟨aB,gy,rfl,v,ai,mm,l8,av⟩:=av;refine ⟨_,_,_,⟨fun p aB=>?_,fun p aB q aZ ad af=>?_⟩,fun p aB=>tV _ aB,fun C cd=>jd hw ?_,av⟩
      ·rcases sq.1 aB with rfl | aB
       ·exact mm
       ·exact hA.1 p aB
      ·rcases sq.1 aB with rfl | aB <;> rcases sq.1 aZ with rfl | aZ
       ·rfl
       ·exact (l8 q aZ ad.symm af.symm).symm
       ·exact l8 p aB ad af
       ·exact hA.2 p aB q aZ ad af
      ·rw [hG,aq C,jO,mR,sD];exact EH cd H aB ai (uo)
     ·exact av.elim
    ·exact av.elim
    ·exact av.elim
   ·exact av.elim
  ·obtain ⟨v,H',ad,af⟩:=Av av;exact ⟨acc,_,_,hA,fun _ h=>h,fun C _=>jd hw (ad C),af⟩
theorem Gs {lo:Nat} {ops:Array Oper} {o:Oper} {an:b2} {cR:dq} (aj:lf P ops o an=some cR) {acc:dh} {T:List I} {H:List ar} {K:dh→List I→List ar→Prop}
  (h:hQ P lo false cR acc T H K):iv P lo ops o an ⟨T,H⟩ fun aF=>K acc aF.T aF.H:=by
 rcases Bz aj h with ⟨hw,av⟩ | ⟨hw,av⟩
 ·exact .inl ⟨_,_,yy,Bl hw,av⟩
 ·rcases Aw av with ⟨mode,hm,av⟩ | av
  ·obtain ⟨rfl,c,f,aD,al⟩:=Au hm;generalize hG:ft (dH o an.mode) (rd T an.takes (opsOf o)).1=vs at av;(have aq:∀ C,a4 P C lo o an.mode vs H=hH C lo an.mode H vs:=fun C=>by simp only [a4,aD,al]);unfold nk at av;split at av
   ·split at av
    ·(rename_i args _ k first cap);rw [lN,lN] at av;split at av
     ·rename_i jO;obtain ⟨aB,av⟩:=av;rw [o0] at av;obtain ⟨v,mm,av⟩:=av
      obtain ⟨C,bu,cd⟩:=oQ (acc:=[(k,(first++(args++cap)).map I.cq,v)]) (P:=P) ⟨fun p aB=>by simp only [sO] at aB;subst aB;exact mm,fun p aB q aZ _ _=>by
       simp only [sO] at aB aZ;subst aB;subst aZ;rfl⟩
      refine .inl ⟨C,_,bu,jd hw (v:=v.cq) (H':=H) ?_,av⟩;rw [hG,aq C,jO,mR,sD];exact Ad cd aB (uo) H
     ·rename_i jO;obtain ⟨v,H',⟨C,bu,fb⟩,av⟩:=av;refine .inl ⟨C,_,bu,jd hw (v:=v) (H':=H') ?_,av⟩;rw [hG,aq C,jO,mR,sD];exact fb
     ·obtain ⟨v,H',⟨C,bu,fb⟩,av⟩:=av;refine .inl ⟨C,_,bu,jd hw (v:=v) (H':=H') ?_,av⟩;rw [hG,aq C,mR,sD];exact fb
    ·obtain ⟨v,H',⟨C,bu,fb⟩,av⟩:=av;refine .inl ⟨C,_,bu,jd hw (v:=v) (H':=H') ?_,av⟩;rw [hG,aq C];exact fb
    ·exact av.elim
   ·exact av.elim
  ·obtain ⟨v,H',ad,af⟩:=Av av;exact .inl ⟨_,_,yy,jd hw (ad _),af⟩
end
end Go.Proofs.YtfakoboiahbhaaaGreat.Ab


namespace Go.Proofs.YtfakoboiahbhaaaGreat.Ab
open Go
section
variable {P:Program}
theorem iv.mono {lo:Nat} {ops:Array Oper} {o:Oper} {an:b2} {s:a6} {K K':a6→Prop} (h:iv P lo ops o an s K) (av:∀ s,K s→K' s):iv P lo ops o an s K':=by
 rcases h with ⟨C,aF,ad,af,aG⟩ | ⟨it,r,m,since,seen,es,clock,aC,aI,aR,bk,bc,bf,c9,dr,dS⟩
 ·exact .inl ⟨C,aF,ad,af,av _ aG⟩
 ·exact .inr ⟨it,r,m,since,seen,es,clock,aC,aI,aR,bk,bc,bf,c9,fun h=>av _ (dr h),fun e ad af=>av _ (dS e ad af)⟩
theorem AO {lo:Nat} {ops:Array Oper} {K K':a6→Prop} (av:∀ s,K s→K' s):∀ {l:List Oper} {as:List b2} {s:a6},runN P lo ops l as s K→runN P lo ops l as s K'
 | [],_,s,h=>av s h
 | _::_,_,_,h=>iv.mono h fun _ aX=>AO av aX
theorem zF {f g:a6→(cz→a6→Prop)→Prop} (nC:∀ s Q cF,(∀ e s,Q e s→cF e s)→f s Q→g s cF) {Q cF:cz→a6→Prop} (aZ:∀ e s,Q e s→cF e s):∀ {n:Nat} {s:a6},fy f n s Q→fy g n s cF
 | 0,s,h=>h
 | n+1,s,h=>nC s _ _ (fun e aF aX=>by
   cases e with
   | normal=>exact zF nC aZ aX
   | ret=>exact aZ _ _ aX
   | exit id=>exact aZ _ _ aX) h
theorem m8 {A:db} {fn:FuncId} {lo:Nat} {rl:Option Nat}:∀ {c:Code} {a1:Nat} {s:a6} {Q cF:cz→a6→Prop},(∀ e s,Q e s→cF e s)→c8 P A fn lo rl c a1 s Q→c8 P A fn lo rl c a1 s cF:=by
 intro c
 induction c with
 | skip=>intro a1 s Q cF aZ h;exact aZ _ _ h
 | label l=>intro a1 s Q cF aZ h;exact aZ _ _ h
 | ret=>intro a1 s Q cF aZ h;exact aZ _ _ h
 | exit id=>intro a1 s Q cF aZ h;exact aZ _ _ h
 | goto l=>intro a1 s Q cF aZ h;exact h
 | refuse y=>intro a1 s Q cF aZ h;exact h
 | region id ops draw =>
   intro a1 s Q cF aZ h;simp only [c8] at h ⊢;split at h
   ·obtain ⟨acc,s1,s2,ad,af,aG,a5⟩:=h;exact ⟨acc,s1,s2,ad,af,aZ _ _ aG,aZ _ _ a5⟩
   cases draw with
   | true=>obtain ⟨acc,aF,ad,af,aG⟩:=h;exact ⟨acc,aF,ad,af,aZ _ _ aG⟩
   | false=>exact AO (fun s h=>aZ _ _ h) h
 | seq a b fh fs =>
   intro a1 s Q cF aZ h;refine fh (fun e aF aX=>?_) h;cases e with
   | normal=>exact fs aZ aX
   | ret=>exact aZ _ _ aX
   | exit id=>exact aZ _ _ aX
 | cond c a b fh fs =>
   intro a1 s Q cF aZ h;rcases h with ⟨t,ay,h⟩ | ⟨ay,ad,af⟩
   ·refine .inl ⟨t,ay,?_⟩;cases t with
    | true=>exact fh aZ h
    | false=>exact fs aZ h
   ·exact .inr ⟨ay,fh aZ ad,fs aZ af⟩
 | block id c a9 =>
   intro a1 s Q cF aZ h;refine a9 (fun e aF aX=>?_) h;cases e with
   | normal=>exact aZ _ _ aX
   | ret=>exact aZ _ _ aX
   | exit bz =>
     simp only at aX ⊢;by_cases aE:bz=id
     ·simp only [aE,if_true] at aX ⊢;exact aZ _ _ aX
     ·simp only [aE,if_false] at aX ⊢;exact aZ _ _ aX
 | loop c a9 =>
   intro a1 s Q cF aZ h;obtain ⟨n,h⟩:=h;refine ⟨n,?_⟩;refine zF ?_ aZ h;intro s Q cF aZ h;exact a9 aZ h
 | scope c a9=>intro a1 s Q cF aZ h;exact a9 aZ h
 | rangeFunc f bn as cp _ _ =>
   intro a1 s Q cF aZ h;obtain ⟨C,e,aF,ad,af,aG⟩:=h;exact ⟨C,e,aF,ad,af,aZ _ _ aG⟩
theorem oi {lo:Nat} {ops:Array Oper}:∀ {l:List Oper} {as:List b2} {rl:List dq} {acc:dh} {T:List I} {H:List ar} {K:List I→List ar→Prop},ha P ops l as=some rl→gN P lo false rl acc T H K →
  runN P lo ops l as ⟨T,H⟩ fun aF=>K aF.T aF.H
 | [],as,rl,acc,T,H,K,ao,h=>by simp only [ha,Option.some.injEq] at ao;subst ao;exact h
 | o::r,as,rl,acc,T,H,K,ao,h=>by
   simp only [ha] at ao;split at ao
   ·rename_i cR l' ad af;simp only [Option.some.injEq] at ao;subst ao;exact iv.mono (Gs ad h) fun aF aX=>oi af aX
   ·cases ao
theorem Cm {C:b7} {lo:Nat} {ops:Array Oper} {o:Oper} {r:List Oper} {as:List b2} {s:a6}:eO P C lo ops (o::r) as s=(dz P C lo ops o (as.headD {}) s).bind (eO P C lo ops r as.tail):=by
 rw [eO];unfold dz;cases hw:ey ops o s.T with
 | none=>rfl
 | some b=>cases b <;> rfl
theorem Al {lo:Nat} {ops:Array Oper}:∀ {l:List Oper} {as:List b2} {rl:List dq} {acc:dh} {T:List I} {H:List ar} {K:List I→List ar→Prop},ha P ops l as=some rl→ht P acc→gN P lo true rl acc T H K →
  ∃ dA a' H',ht P dA∧(∀ p∈acc,p∈dA)∧(∀ C,hR C dA→eO P C lo ops l as ⟨T,H⟩=some ⟨a',H'⟩)∧K a' H'
 | [],as,rl,acc,T,H,K,ao,cb,h=>by simp only [ha,Option.some.injEq] at ao;subst ao;exact ⟨acc,T,H,cb,fun _ h=>h,fun _ _=>rfl,h⟩
 | o::r,as,rl,acc,T,H,K,ao,cb,h=>by
   simp only [ha] at ao;split at ao
   ·rename_i cR l' ad af;simp only [Option.some.injEq] at ao;subst ao;obtain ⟨yj,fU,H1,aC,aI,aR,bk⟩:=yd ad cb h;obtain ⟨oP,dR,a3,bp,cH,eB,jw⟩:=Al af aC bk;refine ⟨oP,dR,a3,bp,fun p aB=>cH p (aI p aB),fun C cd=>?_,jw⟩;rw [Cm,aR C (fun p aB=>cd p (cH p aB)),sc];exact eB C cd
   ·cases ao
theorem ou {C:b7} {lo:Nat} {ops:Array Oper} {an:List b2}:∀ (a b:List Nat) (s:a6),cu P C lo ops an (a++b) s=(cu P C lo ops an a s).bind (cu P C lo ops an b)
 | [],b,s=>rfl
 | i::a,b,s=>by
   rw [uA];simp only [cu];cases ops[i]? with
   | none=>exact ou a b s
   | some o =>
     dsimp only;cases dz P C lo ops o (an.getD i {}) s with
     | none=>rfl
     | some s1=>exact ou a b s1
theorem Gt {lo:Nat} {cR:dq} (aN:n7 cR=true) {acc:dh} {T:List I} {H:List ar} {K K':dh→List I→List ar→Prop} (fF:K acc=K' acc) (h:hQ P lo true cR acc T H K):hQ P lo true cR acc T H K':=by
 have e:∀ (vs:List I) (H:List ar) (F:dh→I→List ar→Prop),lg P lo true cR.k acc vs H F=bM P lo cR.k vs H (F acc):=fun vs H F=>by
  unfold n7 at aN;unfold lg;split
  ·rename_i m av;rw [av] at aN;cases aN
  ·rfl
 unfold hQ at h ⊢;simp only [e,fF] at h ⊢;exact h
theorem xD {lo:Nat} {ops:Array Oper} {an:List b2}:∀ {O:List Nat} {rl:List dq} {acc:dh} {T:List I} {H:List ar} {K:List I→List ar→Prop},fj P ops an O=some rl→rl.all n7=true→ht P acc→gN P lo true rl acc T H K →
  ∃ a' H',(∀ C,hR C acc→cu P C lo ops an O ⟨T,H⟩=some ⟨a',H'⟩)∧K a' H'
 | [],rl,acc,T,H,K,ao,_,cb,h=>by simp only [fj,Option.some.injEq] at ao;subst ao;exact ⟨T,H,fun _ _=>rfl,h⟩
 | i::r,rl,acc,T,H,K,ao,aN,cb,h=>by
   simp only [fj] at ao;split at ao
   ·rename_i o hi;split at ao
    ·rename_i cR l' ad af;simp only [Option.some.injEq] at ao;subst ao;simp only [tF,sx] at aN;have aX:=Gt aN.1 (K':=fun dA a' H'=>dA=acc∧gN P lo true l' acc a' H' K) (by funext a' H';simp) h;obtain ⟨yj,fU,H1,_,_,aR,rfl,bk⟩:=yd ad cb aX;obtain ⟨dR,a3,eB,jw⟩:=xD af aN.2 cb bk;refine ⟨dR,a3,fun C cd=>?_,jw⟩;simp only [cu,hi];rw [aR C cd,sc];exact eB C cd
    ·cases ao
   ·cases ao
theorem Am {lo:Nat} {ops:Array Oper} {an:List b2} {a b:dq} {post:List dq}:∀ {O:List Nat} {rl:List dq} {acc:dh} {T:List I} {H:List ar} {K:List I→List ar→Prop},fj P ops an O=some rl→ht P acc→xF P lo a b post rl acc T H K →
  ∃ dA a' H',ht P dA∧(∀ p∈acc,p∈dA)∧(∀ C,hR C dA→cu P C lo ops an O ⟨T,H⟩=some ⟨a',H'⟩)∧gN P lo true (a::b::post) dA a' H' K∧gN P lo true (b::a::post) dA a' H' K
 | [],rl,acc,T,H,K,ao,cb,h=>by simp only [fj,Option.some.injEq] at ao;subst ao;exact ⟨acc,T,H,cb,fun _ h=>h,fun _ _=>rfl,h.1,h.2⟩
 | i::r,rl,acc,T,H,K,ao,cb,h=>by
   simp only [fj] at ao;split at ao
   ·rename_i o hi;split at ao
    ·rename_i cR l' ad af;simp only [Option.some.injEq] at ao;subst ao;obtain ⟨yj,fU,H1,aC,aI,aR,bk⟩:=yd ad cb h;obtain ⟨oP,dR,a3,bp,cH,eB,jw⟩:=Am af aC bk;refine ⟨oP,dR,a3,bp,fun p aB=>cH p (aI p aB),fun C cd=>?_,jw⟩;simp only [cu,hi];rw [aR C (fun p aB=>cd p (cH p aB)),sc];exact eB C cd
    ·cases ao
   ·cases ao
theorem nX {ops:Array Oper} {an:List b2} {i:Nat} {r:List Nat} {a:dq} {l:List dq} (ad:fj P ops an [i]=some [a]) (af:fj P ops an r=some l):fj P ops an (i::r)=some (a::l):=by
 simp only [fj] at ad ⊢;split at ad
 ·rename_i o aq;split at ad
  ·rename_i cR l' aG a5;simp only [Option.some.injEq,List.cons.injEq] at ad a5;obtain ⟨rfl,rfl⟩:=ad;simp only [aG,af]
  ·cases ad
 ·cases ad
theorem Ah {n p:Nat} (aZ:p+1<n):List.range n=List.range p++(p::(p+1)::List.range' (p+2) (n-(p+2))):=by
 apply List.ext_getElem?;intro i;rw [List.getElem?_append];simp only [List.length_range];by_cases h:i<p
 ·rw [if_pos h,vg h,vg (by omega)]
 ·rw [if_neg h];obtain ⟨k,rfl⟩:∃ k,i=p+k:=⟨i-p,by omega⟩;rw [show p+k-p=k by omega]
  match k with
  | 0=>rw [vg (by omega)];rfl
  | 1=>rw [vg (by omega)];rfl
  | k+2 =>
    simp only [List.getElem?_cons_succ];by_cases af:p+(k+2)<n
    ·rw [vg af,List.getElem?_range' (by omega)];congr 1;omega
    ·rw [tx (by simp;omega),tx (by simp;omega)]
theorem Ge {n p:Nat} (aZ:p+1<n):fl n p (p+1)=List.range p++((p+1)::p::List.range' (p+2) (n-(p+2))):=by
 unfold fl;rw [Ah aZ,List.map_append];congr 1
 ·conv=>rhs;rw [←vh (List.range p)]
  refine tz fun i hi=>?_;have:=sK.1 hi;rw [if_neg (by omega),if_neg (by omega)];rfl
 ·rw [sG,sG,if_pos rfl,if_neg (by omega),if_pos rfl];congr 2;conv=>rhs;rw [←vh (List.range' _ _)]
  refine tz fun i hi=>?_;have:=List.mem_range'_1.1 hi;rw [if_neg (by omega),if_neg (by omega)];rfl
theorem DU {A:db} {fn:FuncId} {lo:Nat} {rl:Option Nat} {id:Nat} {ops:Array Oper} {draw:Bool} {a1 p:Nat} {rc:fT} (aL:A.h'=[]) (ay:ke A id draw=some p) (aZ:p+1<ops.size) (ao:nY P ops (A.ops.getD id []) p=some rc)
  {T:List I} {H:List ar} {Q:cz→List I→List ar→Prop} (h:dO P A fn lo rl rc T H Q):c8 P A fn lo rl (.region id ops draw) a1 ⟨T,H⟩ fun e s=>Q e s.T s.H:=by
 have av:e2 A.h' id ⟨T,H⟩=⟨T,H⟩:=by rw [aL];rfl
 unfold nY at ao;split at ao
 ·rename_i pre a b post ad af aG a5;split at ao
  ·rename_i aN;simp only [Option.some.injEq] at ao;subst ao;obtain ⟨acc,fU,H1,aC,_,aR,bk,bc⟩:=Am ad ⟨fun p aB=>by simp at aB,fun p aB=>by simp at aB⟩ h;simp only [tF,sx] at aN;obtain ⟨dR,a3,bp,cH⟩:=xD (nX af (nX aG a5)) (by simp only [tF,sx];exact aN) aC bk;obtain ⟨dD,hT,a_,ba⟩:=xD (nX aG (nX af a5)) (by simp only [tF,sx];exact ⟨aN.2.1,aN.1,aN.2.2⟩) aC bc;simp only [c8,ay,av];refine ⟨acc,⟨dR,a3⟩,⟨dD,hT⟩,aC,fun C _ cd=>⟨?_,?_⟩,cH,ba⟩
   ·rw [Ah aZ,ou,aR C cd];exact bp C cd
   ·rw [Ge aZ,ou,aR C cd];exact a_ C cd
  ·cases ao
 ·cases ao
theorem DT {A:db} {fn:FuncId} {lo:Nat} {rl:Option Nat} {id:Nat} {ops:Array Oper} {draw:Bool} {a1:Nat} {rc:fT} (aL:A.h'=[]) (ay:ke A id draw=none) (ao:xo P ops draw (A.ops.getD id [])=some rc)
  {T:List I} {H:List ar} {Q:cz→List I→List ar→Prop} (h:dO P A fn lo rl rc T H Q):c8 P A fn lo rl (.region id ops draw) a1 ⟨T,H⟩ fun e s=>Q e s.T s.H:=by
 have av:e2 A.h' id ⟨T,H⟩=⟨T,H⟩:=by rw [aL];rfl
 have gen:∀ {d:Bool} {l:List Oper},ops.toList=l→draw=d→(ha P ops l (A.ops.getD id [])).map (.oh d)=some rc→c8 P A fn lo rl (.region id ops draw) a1 ⟨T,H⟩ fun e s=>Q e s.T s.H:=fun {d l} ml a2 gb=>by
  clear ao;simp only [sa] at gb;obtain ⟨E9,gb,rfl⟩:=gb;subst a2;cases draw with
  | true =>
    obtain ⟨dA,a',H',aC,_,aR,bk⟩:=Al gb ⟨fun p aB=>by simp at aB,fun p aB=>by simp at aB⟩ h;simp only [c8,ay];exact ⟨dA,⟨a',H'⟩,aC,fun C _ cd=>by rw [av,ml];exact aR C cd,bk⟩
  | false =>
    simp only [c8,ay];rw [av,ml];exact oi gb h
 unfold xo at ao;split at ao
 ·rename_i o rest ml;split at ao
  ·rename_i it aD aO;simp only [sa] at ao;obtain ⟨E9,ao,rfl⟩:=ao;simp only [c8,ay];rw [av,ml];refine .inr ?_;simp only [dO,zZ,iE] at h;split at h
   ·rename_i r aj;obtain ⟨m,since,seen,clock,es,aC,aI,aR,bk,bc,bf⟩:=h;simp only [xA] at bc bf;exact ⟨.tmp it,r,m,since,seen,es,clock,aD,aO,aj,aC,aI,aR,bk,fun h=>oi ao (bc h),fun e ad af=>oi ao (bf e ad af)⟩
   ·exact h.elim
  ·exact gen ml rfl ao
 ·exact gen rfl rfl ao
theorem fy.more {f:a6→(cz→a6→Prop)→Prop} {Q:cz→a6→Prop} (aP:∀ s Q cF,(∀ e s,Q e s→cF e s)→f s Q→f s cF):∀ {n:Nat} {s:a6},fy f n s Q→fy f (n+1) s Q
 | 0,s,h=>h.elim
 | n+1,s,h=>aP _ _ _ (fun e aF aX=>by
    cases e with
    | normal=>exact fy.more aP aX
    | ret=>exact aX
    | exit id=>exact aX) h
theorem DY {f:a6→(cz→a6→Prop)→Prop} {Q:cz→a6→Prop} (hU:Nat→a6→Prop) (step:∀ m s,hU m s→f s fun e aF=>match e with | .normal=>∃ hb,hb<m∧hU hb aF | e=>Q e aF)
  (aP:∀ s Q cF,(∀ e s,Q e s→cF e s)→f s Q→f s cF):∀ (m:Nat) (s:a6),hU m s→fy f (m+1) s Q:=by
 intro m
 induction m using Nat.strongRecOn with
 | _ m a9 =>
   intro s h;refine aP _ _ _ (fun e aF aX=>?_) (step m s h);cases e with
   | normal =>
     obtain ⟨hb,hm,aX⟩:=aX
     have:∀ k,fy f (hb+1+k) aF Q:=fun k=>by
      induction k with
      | zero=>exact a9 hb hm aF aX
      | succ k DJ=>exact fy.more aP DJ
     (have e:m=hb+1+(m-(hb+1)):=by omega);rw [e];exact this _
   | ret=>exact aX
   | exit id=>exact aX
theorem DV {A:db} {fn:FuncId} {lo:Nat} {rl:Option Nat}:∀ {c:Code} {a1:Nat} {rc:fT} {T:List I} {H:List ar} {Q:cz→List I→List ar→Prop},eg P A c a1=some rc→dO P A fn lo rl rc T H Q →
  c8 P A fn lo rl c a1 ⟨T,H⟩ fun e s=>Q e s.T s.H:=by
 intro c
 induction c with
 | skip=>intro a1 rc T H Q ao h;simp only [eg,Option.some.injEq] at ao;subst ao;exact h
 | label l=>intro a1 rc T H Q ao h;simp only [eg,Option.some.injEq] at ao;subst ao;exact h
 | ret=>intro a1 rc T H Q ao h;simp only [eg,Option.some.injEq] at ao;subst ao;exact h
 | exit id=>intro a1 rc T H Q ao h;simp only [eg,Option.some.injEq] at ao;subst ao;exact h
 | goto l=>intro a1 rc T H Q ao h;simp [eg] at ao
 | refuse y=>intro a1 rc T H Q ao h;simp [eg] at ao
 | region id ops draw =>
   intro a1 rc T H Q ao h;simp only [eg] at ao;split at ao
   ·rename_i aL;split at ao
    ·rename_i p ay;by_cases aZ:p+1<ops.size
     ·exact DU aL ay aZ ao h
     ·exact absurd ao (by unfold nY;simp only [fj,Array.getElem?_eq_none (show ops.size≤p+1 by omega)];split <;> simp_all)
    ·rename_i ay;exact DT aL ay ao h
   ·cases ao
 | seq a b fh fs =>
   intro a1 rc T H Q ao h;simp only [eg] at ao;split at ao
   ·rename_i x y ak aY;simp only [Option.some.injEq] at ao;subst ao;show c8 P A fn lo rl a a1 ⟨T,H⟩ _;refine m8 (fun e s aX=>?_) (fh ak h);cases e with
    | normal=>exact fs aY aX
    | ret=>exact aX
    | exit id=>exact aX
   ·cases ao
 | cond c a b fh fs =>
   intro a1 rc T H Q ao h;simp only [eg] at ao;split at ao
   ·rename_i x y ak aY;simp only [Option.some.injEq] at ao;subst ao
    have key:∀ v,aA T c=v→(match v with
      | .bool t=>(match t with | true=>dO P A fn lo rl x T H Q | false=>dO P A fn lo rl y T H Q)
      | .dt=>dO P A fn lo rl x T H Q∧dO P A fn lo rl y T H Q
      | _=>False)→c8 P A fn lo rl (.cond c a b) a1 ⟨T,H⟩ fun e s=>Q e s.T s.H:=fun v ae h=>by
     cases v with
     | bool t =>
       refine .inl ⟨t,ae,?_⟩;cases t with
       | true=>exact fh ak h
       | false=>exact fs aY h
     | dt=>exact .inr ⟨ae,fh ak h.1,fs aY h.2⟩
     | _=>exact h.elim
    cases c with
    | tmp t=>simp only [oj,dO,iE] at h;exact key _ rfl h
    | const v=>exact key (aA [] (.const v)) rfl h
    | func f=>exact key (aA [] (.func f)) rfl h
    | global g=>exact key (aA [] (.global g)) rfl h
   ·cases ao
 | block id c a9 =>
   intro a1 rc T H Q ao h;simp only [eg,sa] at ao;obtain ⟨x,ak,rfl⟩:=ao;show c8 P A fn lo rl c id ⟨T,H⟩ _;refine m8 (fun e s aX=>?_) (a9 ak h);cases e with
   | normal=>exact aX
   | ret=>exact aX
   | exit bz =>
     simp only at aX ⊢;by_cases aE:bz=id
     ·subst aE;simp only [if_true];rw [uU] at aX;exact aX
     ·simp only [aE,if_false]
      have:Nat.beq bz id=false:=by
       cases ag:Nat.beq bz id with
       | false=>rfl
       | true=>exact absurd (tb ag) aE
      rw [this] at aX;exact aX
 | loop c a9 =>
   intro a1 rc T H Q ao h;simp only [eg,sa] at ao;obtain ⟨x,ak,rfl⟩:=ao;simp only [dO,DP,zW] at h;obtain ⟨hU,m,hm,DF⟩:=h;have kC:∀ s:a6,e2 A.h_ a1 s=⟨match lZ a1 A.h_ with | some k=>eX k s.T | none=>s.T,s.H⟩:=fun s=>by
    unfold e2;cases lZ a1 A.h_ <;> rfl
   refine ⟨m+1,DY (f:=fun aF=>c8 P A fn lo rl c a1 (e2 A.h_ a1 aF)) (fun m s=>hU m (e2 A.h_ a1 s).T s.H) ?_ (fun s Q cF aZ h=>m8 aZ h) m ⟨T,H⟩ (by rw [kC];exact hm)⟩;intro m s kv;rw [kC] at kv;have h:=a9 ak (DF m _ s.H kv);show c8 P A fn lo rl c a1 (e2 A.h_ a1 s) _;rw [kC];refine m8 (fun e aF aX=>?_) h;cases e with
   | normal=>simp only at aX ⊢;rw [kC];exact aX
   | ret=>exact aX
   | exit id=>exact aX
 | scope c a9=>intro a1 rc T H Q ao h;exact a9 ao h
 | rangeFunc f bn as cp _ _ =>
   intro a1 rc T H Q ao h;simp only [eg,Option.some.injEq] at ao;subst ao;have key:∀ v,aA T f=v→ot P A fn lo rl v bn.toList as cp T H Q→c8 P A fn lo rl (.rangeFunc f bn as cp) a1 ⟨T,H⟩ fun e s=>Q e s.T s.H:=fun v ae h=>by
    unfold ot at h;split at h
    ·(rename_i k first cap);obtain ⟨g4,r,H',st,cE,fn',a',Aa,gy,yo,iA,ai,ao,cB,aZ⟩:=h;have fin:∀ (e:cz) (a3:List ar),exec P A (k1 (.fn k) (first++[.yield H.length]++cap) (H++[.loop .ready none fn (T.map I.view) bn.toList as cp A]) lo r H') fn lo 0 rl (.rangeFunc f bn as cp) a1 ⟨T,H⟩=some (e,⟨T.map I.settle,a3⟩)→Q e (T.map I.settle) a3 →
       c8 P A fn lo rl (.rangeFunc f bn as cp) a1 ⟨T,H⟩ fun e s=>Q e s.T s.H:=fun e a3 he aZ=>⟨_,e,_,Ew ai,he,aZ⟩
     have hex:∀ (e:cz),(match cE with | none=>some cz.normal | some .ret=>some .ret | some (.exit id)=>some (.exit id) | _=>none)=some e →
       exec P A (k1 (.fn k) (first++[.yield H.length]++cap) (H++[.loop .ready none fn (T.map I.view) bn.toList as cp A]) lo r H') fn lo 0 rl (.rangeFunc f bn as cp) a1 ⟨T,H⟩=some (e,⟨T.map I.settle,H'.set H.length .dead⟩):=fun e he=>by
      simp only [exec,ae,g4,Ev,ao,cB,if_false];split at he <;> simp_all
     split at aZ
     ·exact fin _ _ (hex .normal rfl) aZ
     ·exact fin _ _ (hex .ret rfl) aZ
     ·exact fin _ _ (hex (.exit _) rfl) aZ
     ·exact aZ.elim
    ·exact h.elim
   cases f with
   | tmp t=>simp only [oj,dO,iE] at h;exact key _ rfl h
   | const v=>exact key (aA [] (.const v)) rfl h
   | func g=>exact key (aA [] (.func g)) rfl h
   | global g=>exact key (aA [] (.global g)) rfl h
end
end Go.Proofs.YtfakoboiahbhaaaGreat.Ab


namespace Go.Proofs.YtfakoboiahbhaaaGreat.Ab
open Go
inductive jo where
 | tmp (t:Nat) | cell (a:Nat) (g:e8)
def kV (g:e8) (cs:List I) (off:Nat):Option I:=match g with
 | .one=>(cs[off]?).map I.view
 | .str s=>if off+s≤cs.length then some (.agg (((cs.drop off).take s).map I.view)) else none
 | .arr s=>if off+s≤cs.length then some (.agg (((cs.drop off).take s).map I.view)) else none
theorem DS {P:Program} {t:TypeId} {g:e8} (h:gU P t=some g) (cs:List I) (off:Nat):ev P t cs off=kV g cs off:=by
 rcases oR h with ⟨rfl,ad,d,af⟩ | ⟨s,af,ad⟩
 ·simp [ev,kV,ad,af]
 ·rcases af with ⟨rfl,af⟩ | ⟨rfl,af⟩ <;> simp [ev,kV,ad,af]
def oT (H:List ar) (g:e8):I→Option I
 | .ptr id off=>match H[id]? with
   | some (.cells l)=>kV g l off
   | some (.grow l _ _)=>kV g l off
   | _=>none
 | .bT cells=>kV g cells 0
 | _=>none
theorem B2 {P:Program} {t:TypeId} {g:e8} (h:gU P t=some g) (H:List ar) (a:I):dP P H t a=oT H g a:=by
 cases a <;> simp only [dP,oT,DS h] <;> rfl
noncomputable def j9 (H:List ar) (T:List I):List jo→Option (List I)
 | []=>some []
 | .tmp t::r=>(j9 H T r).map (c3 T t::·)
 | .cell a g::r=>match oT H g (c3 T a),j9 H T r with
   | some v,some vs=>some (v::vs)
   | _,_=>none
def j_ (P:Program):List ResultVar→Option (List jo)
 | []=>some []
 | .tmp t::r=>(j_ P r).map (.tmp t::·)
 | .cell a t::r=>match gU P t,j_ P r with
   | some g,some l=>some (.cell a g::l)
   | _,_=>none
theorem xC {P:Program} (H:List ar) (T:List I):∀ {rs:List ResultVar} {l:List jo},j_ P rs=some l→fk P H T rs=j9 H T l
 | [],l,h=>by simp [j_] at h;subst h;rfl
 | .tmp t::r,l,h=>by
   simp only [j_,sa] at h;obtain ⟨l,h,rfl⟩:=h;simp only [fk,j9,xC H T h]
 | .cell a t::r,l,h=>by
   simp only [j_] at h;split at h
   ·rename_i g l' ad af;simp only [Option.some.injEq] at h;subst h;simp only [fk,j9,xC H T af,B2 ad];rfl
   ·cases h
inductive oN (rs:List jo) (v:I) (e:cz) (T:List I) (H:List ar):Prop where
 | mk (he:e=.normal∨e=.ret) (vs:List I) (aj:j9 H T rs=some vs) (r:I) (aP:bI H 0 H.length 0 8 (hj vs)=some r) (ae:r=v∨r.settle=v)
theorem G8 {rs:List jo} {v:I} {e:cz} {T:List I} {H:List ar} (he:e=.normal∨e=.ret) (aB:ch 8 v=true) (h:(j9 H T rs).map hj=some v):oN rs v e T H:=by
 simp only [sa] at h;obtain ⟨vs,ad,af⟩:=h;exact ⟨he,vs,ad,v,by rw [af];exact o9 aB,.inl rfl⟩
noncomputable def zD (P:Program) (A:db) (k:Nat):Option (fT×Nat×List jo):=match P.funcs[k]? with
 | some f=>match f.body with
   | some c => match codeOk A c, f.name == "runtime.NumGoroutine", eg P A c 0, j_ P f.results.toList with
     | true,false,some rc,some ts=>some (rc,f.ntmps,ts)
     | _,_,_,_=>none
   | none=>none
 | none=>none
theorem GI {P:Program} (eo:P.follows .mixedOrders=true) {k:Nat} {A:db} {rc:fT} {n:Nat} {ts:List jo} (ao:zD P A k=some (rc,n,ts)) {args T:List I} (bW:args++List.replicate (n-args.length) .junk=T) {v:I} (aB:ch 8 v=true)
  (h:dO P A k 0 none rc T [] (oN ts v)):lC P k args v:=by
 unfold zD at ao;split at ao
 ·rename_i f aP;split at ao
  ·rename_i c ag;split at ao
   ·rename_i G7 Gh ad af aG a5;simp only [Option.some.injEq,Prod.mk.injEq] at ao;obtain ⟨rfl,rfl,rfl⟩:=ao;subst bW;have aZ:∀ e s,oN Gh v e (a6.T s) (a6.H s)→(e=.normal∨e=.ret)∧∃ vs r,fk P s.H s.T f.results.toList=some vs∧bI s.H 0 s.H.length 0 8 (hj vs)=some r∧(r=v∨r.settle=v):=fun e s ⟨ca,vs,Cr,r,b5,en⟩=>by
     exact ⟨ca,vs,r,by rw [xC _ _ a5,Cr],b5,en⟩
    exact EI eo aP ag (by simpa using af) ad aB (m8 aZ (DV aG h))
   ·cases ao
  ·cases ao
 ·cases ao
def oA:Nat→Nat→List (Nat×I)→List I
 | 0,_,_=>[]
 | n+1,i,[]=>.junk::oA n (i+1) []
 | n+1,i,(j,v)::r=>match Nat.beq i j with
   | true=>v::oA n (i+1) r
   | false=>.junk::oA n (i+1) ((j,v)::r)
abbrev Hc (n:Nat) (l:List (Nat×I)):List I:=oA n 0 l
abbrev GC (d:Nat) (s:List jn) (k:iu):dq:=⟨some d,s,none,none,k⟩
noncomputable section
def hn:Code→List (Code×Code)
 | .rangeFunc _ _ a b=>(a,b)::(hn a++hn b)
 | .seq a b=>hn a++hn b
 | .cond _ a b=>hn a++hn b
 | .block _ c=>hn c
 | .loop c=>hn c
 | .scope c=>hn c
 | _=>[]
def yp (P:Program) (k:Nat):Code:=match P.funcs[k]? with
 | some f=>match f.body with
   | some c=>c
   | none=>.skip
 | none=>.skip
def G9 (P:Program) (k i:Nat):Code:=match (hn (yp P k))[i]? with
 | some x=>x.1
 | none=>.skip
def G_ (P:Program) (k i:Nat):Code:=match (hn (yp P k))[i]? with
 | some x=>x.2
 | none=>.skip
end
end Go.Proofs.YtfakoboiahbhaaaGreat.Ab


namespace Go.Proofs.YtfakoboiahbhaaaGreat.Ab
open Go
section
variable {P:Program} {B:Nat} {J:List Nat} {w:World} {H:List ar} {U:Nat→Option aH} {S:Nat→Nat→Prop}
end
end Go.Proofs.YtfakoboiahbhaaaGreat.Ab
