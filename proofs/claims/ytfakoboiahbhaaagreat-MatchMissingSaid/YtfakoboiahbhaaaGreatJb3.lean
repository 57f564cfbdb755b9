
import Derived.Test.YtfakoboiahbhaaaGreatJb2
import Derived.Maps.RangeRun
set_option linter.unusedSimpArgs false
set_option linter.unusedVariables false
set_option linter.unusedSectionVars false

open Array renaming getD_eq_getD_getElem?→sT,getElem?_eq_getElem→sS,getElem?_eq_some_iff→tt,getElem?_setIfInBounds_ne→vR,toArray_toList→uT
open Bool renaming and_eq_true→sO,false_eq_true→ua,or_eq_true→uc
open Classical renaming choose_spec→vX
open List renaming all_cons→tJ,all_eq_true→sR,append_assoc→sH,cons_append→uK,drop_eq_getElem_cons→tn,eq_nil_iff_forall_not_mem→vj,getD_eq_getElem?_getD→sY,getElem?_append_left→sQ,getElem?_append_right→s_,getElem?_cons_zero→uJ,getElem?_eq_getElem→sK,getElem?_eq_none→ub,getElem?_eq_some_iff→sv,getElem?_map→sN,getElem?_range→vA,getElem?_set_ne→sJ,getElem?_set_self→sI,length_cons→sV,length_map→td,length_nil→uV,length_set→tA,mapM_cons→wz,map_congr_left→uN,map_cons→sG,map_drop→uC,map_id→vB,map_take→ur,mem_cons→sL,mem_cons_of_mem→uw,mem_cons_self→uY,mem_iff_getElem?→tE,mem_map→sM,mem_of_getElem?→sZ,mem_range→sX,mem_singleton→ta,nodup_range→uD,of_mem_zip→vZ,pairwise_cons→tK,pairwise_lt_range→vk,pairwise_map→vl,take_append_drop→uW,zip_cons_cons→wB
open Nat renaming beq_eq→vm,beq_refl→wG,ble_eq→uO,ble_eq_true_of_le→uF,blt_eq→tF,eq_of_beq_eq_true→tw,le_of_ble_eq_true→uq,le_refl→sB,lt_or_ge→tq
open Option renaming bind_eq_some_iff→sE,bind_some→sx,isNone_iff_eq_none→tN,isSome_eq_false_iff→tM,isSome_iff_exists→tR,map_eq_some_iff→su,map_some→sD
namespace Go.Proofs.YtfakoboiahbhaaaGreat.Ab
open Go
section
variable {P:Program} {C:b8}
theorem Cl (bw:dc P C) {lo:Nat} {o:Oper} {an:b3} {s aF:a7} (h:Ab.execOp P C lo o an s=some aF):bc lo s.H aF.H:=by
 obtain ⟨r,H',aD,rfl⟩:=o5 h;exact Ex bw aD
theorem o6 (bw:dc P C) {lo:Nat} {ops:Array Oper}:∀ (l:List Oper) (as:List b3) (s aF:a7),eR P C lo ops l as s=some aF→bc lo s.H aF.H
 | [],as,s,aF,h=>by simp only [eR,Option.some.injEq] at h;subst h;exact bc.refl _ _
 | o::l,as,s,aF,h=>by
   simp only [eR] at h;split at h
   ·simp only [sE] at h;obtain ⟨s1,ad,af⟩:=h;exact (Cl bw ad).trans (o6 bw l _ _ _ af)
   ·have:=o6 bw l _ _ _ h;exact this
   ·simp at h
theorem zv (mH:List (Nat×List Bool)) (id:Nat) (s:a7):(e5 mH id s).H=s.H:=by
 unfold e5;split <;> rfl
theorem zF {lo:Nat} {f:a7→Option (cA×a7)} (aP:∀ s e aF,f s=some (e,aF)→bc lo s.H aF.H):∀ (n:Nat) (s:a7) (e:cA) (aF:a7),ic f n s=some (e,aF)→bc lo s.H aF.H
 | 0,s,e,aF,h=>by simp [ic] at h
 | n+1,s,e,aF,h=>by
   simp only [ic] at h;split at h
   ·rename_i s1 ad;exact (aP _ _ _ ad).trans (zF aP n _ _ _ h)
   ·exact aP _ _ _ h
theorem o7 (bw:dc P C) {A:dd} {fn:FuncId} {lo d:Nat} {rl:Option Nat}:∀ (c:Code) (a2:Nat) (s:a7) (e:cA) (aF:a7),exec P A C fn lo d rl c a2 s=some (e,aF)→bc lo s.H aF.H:=by
 intro c
 induction c with
 | skip=>intro a2 s e aF h;simp only [exec,Option.some.injEq,Prod.mk.injEq] at h;obtain ⟨_,rfl⟩:=h;exact bc.refl _ _
 | region id ops draw =>
   intro a2 s e aF h;simp only [exec] at h;split at h
   ·cases h
   simp only [su,Prod.mk.injEq] at h;obtain ⟨s1,h,_,rfl⟩:=h;have:=o6 bw _ _ _ _ h
   rwa [zv] at this
 | seq a b fk fv =>
   intro a2 s e aF h;simp only [exec] at h;split at h
   ·rename_i s1 ad;exact (fk _ _ _ _ ad).trans (fv _ _ _ _ h)
   ·exact fk _ _ _ _ h
 | cond c a b fk fv =>
   intro a2 s e aF h;simp only [exec] at h;split at h
   ·exact fk _ _ _ _ h
   ·exact fv _ _ _ _ h
   ·simp at h
 | block id c a_ =>
   intro a2 s e aF h;simp only [exec] at h;split at h
   ·rename_i bA s1 ad;split at h <;> simp only [Option.some.injEq,Prod.mk.injEq] at h <;> obtain ⟨_,rfl⟩:=h <;> exact a_ _ _ _ _ ad
   ·exact a_ _ _ _ _ h
 | loop c a_ =>
   intro a2 s e aF h;simp only [exec] at h;exact zF (fun s e aF h=>by have:=a_ _ _ _ _ h;rwa [zv] at this) _ _ _ _ h
 | exit id=>intro a2 s e aF h;simp only [exec,Option.some.injEq,Prod.mk.injEq] at h;obtain ⟨_,rfl⟩:=h;exact bc.refl _ _
 | ret=>intro a2 s e aF h;simp only [exec,Option.some.injEq,Prod.mk.injEq] at h;obtain ⟨_,rfl⟩:=h;exact bc.refl _ _
 | scope c a_=>intro a2 s e aF h;simp only [exec] at h;exact a_ _ _ _ _ h
 | label l=>intro a2 s e aF h;simp only [exec,Option.some.injEq,Prod.mk.injEq] at h;obtain ⟨_,rfl⟩:=h;exact bc.refl _ _
 | goto l=>intro a2 s e aF h;simp [exec] at h
 | refuse y=>intro a2 s e aF h;simp [exec] at h
 | rangeFunc g bo a b fk fv =>
   intro a2 s e aF h;simp only [exec] at h;have key:∀ {H':List ar} {r:I} {b0:fb} {args:List I} {x:ar},C b0 args (s.H++[x]) lo=some (r,H')→bc lo s.H (H'.set s.H.length .dead):=fun {H' r b0 args x} al=>by
    have ao:=bw.low al;refine ⟨?_,fun id ad af=>?_⟩
    ·have:=ao.1;simp at this ⊢;omega
    ·rw [sJ (by omega),ao.2 id ad (by simp;omega),sQ af]
   split at h
   ·split at h
    ·rename_i r H' al;split at h
     ·split at h
      ·simp at h
      ·split at h
       ·simp only [Option.some.injEq,Prod.mk.injEq] at h;obtain ⟨_,rfl⟩:=h;exact key al
       ·simp only [Option.some.injEq,Prod.mk.injEq] at h;obtain ⟨_,rfl⟩:=h;exact key al
       ·simp only [Option.some.injEq,Prod.mk.injEq] at h;obtain ⟨_,rfl⟩:=h;exact key al
       ·simp at h
     ·simp at h
    ·simp at h
   ·simp at h
end
section
variable {P:Program} {F:Fence} {n:Nat} {b:Frame} {a:Act} {k:List Item} {cs:List Frame} {w:World} {Q:Exit→Act→World→Prop}
theorem lq {c:Code}:step P (lone (b.atR a (.code (.scope c)::k)) cs w)=.next (lone (b.atR a (.code c::.inScope c::k)) cs w) :=
 step_lone_go (by simp [stepG,stepG.exec,Frame.atR])
theorem Gd {c:Code}:step P (lone (b.atR a (.inScope c::k)) cs w)=.next (lone (b.atR a k) cs w) :=
 step_lone_go (by simp [stepG,stepG.exec,Frame.atR])
theorem BA {c:Code} (h:c.wpIn F n P Q a w) (aO:∀ l a w,¬ Q (.goto l) a w):(Code.scope c).wpIn F n P Q a w:=by
 intro b k cs Dy ag aj;have aV:(lone (b.atR a (.code (.scope c)::k)) cs w).fenced P F:=fenced_calm ag aj rfl;obtain ⟨e,ko,ly,a0,hD⟩:=h b (.inScope c::k) cs Dy ag aj;have ak:∀ id,exitTo id (.inScope c::k)=exitTo id k:=fun id=>by simp [exitTo]
 cases e with
 | normal=>exact ⟨.normal,ko,ly,a0,.head aV lq (StepsIn.trans hD (.one (fenced_calm ag aj rfl) Gd))⟩
 | exit id =>
   exact ⟨.exit id,ko,ly,a0,fun k' av=>.head aV lq (hD.1 k' (by rw [ak];exact av)),
    fun nL av=>let ⟨k₁,ad,af⟩:=hD.2 nL (by rw [ak];exact av);⟨k₁,ad,.head aV lq af⟩⟩
 | goto l=>exact absurd a0 (aO l ko ly)
 | ret=>exact ⟨_,ko,ly,a0,.of_steps (.one aV lq) hD⟩
 | panic GH=>exact ⟨_,ko,ly,a0,.of_steps (.one aV lq) hD⟩
 | outgrown=>exact ⟨_,ko,ly,a0,.of_steps (.one aV lq) hD⟩
end
end Go.Proofs.YtfakoboiahbhaaaGreat.Ab


namespace Go.Proofs.YtfakoboiahbhaaaGreat.Ab
open Go
section
variable {P:Program} {B N:Nat} {J:List Nat} {w:World} {H:List ar} {U:Nat→Option aH} {S:Nat→Nat→Prop}
theorem A9:∀ (T:List I) (bh:List Value) (bB:Nat→aH) (S:Nat→Nat→Prop),(∀ i j,bB i=bB j→i=j)→(∀ i id,bB i≠.obj id)→(∀ i id j,bB i≠.cell id j) →
  a9 bB U J S w T bh→aK B U J S w H →
  ∃ S':Nat→Nat→Prop,(∀ b o,S b o→S' b o)∧(∀ b o,S' b o→S b o∨∃ i,U b=some (bB i))∧aK B U J S' w H∧a9 bB U J S' w (T.map I.settle) bh∧a9 bB U J S' w (T.map I.view) bh:=by
 intro T
 induction T with
 | nil=>intro bh bB S _ _ _ ae ah;exact ⟨S,fun _ _ h=>h,fun _ _ h=>.inl h,ah,by simpa using ae,by simpa using ae⟩
 | cons u T a_ =>
   intro bh bB S aw b7 ch ae ah;obtain ⟨v,hQ,rfl,aj,aq,ay⟩:=ae.gV;have first:∃ a8:Nat→Nat→Prop,(∀ b o,S b o→a8 b o)∧(∀ b o,a8 b o→S b o∨U b=some (bB 0))∧aK B U J a8 w H∧Rel J a8 w u.view v∧Rel J a8 w u.settle v∧aW U J a8 w (bB 0) u.settle v:=by
    by_cases hu:u.cR=true
    ·have ai:u.settle=u:=by
      (cases u <;> try rfl);rename_i c n k;cases k <;> first | rfl | simp [I.cR] at hu
     exact ⟨S,fun _ _ h=>h,fun _ _ h=>.inl h,ah,aj.view hu,by rw [ai];exact aj,by rw [ai];exact aq⟩
    ·obtain ⟨cells,len,z,rfl⟩:∃ cells len z,u=.ax cells len (.uniq z):=by
      unfold I.cR at hu;split at hu
      ·exact ⟨_,_,_,rfl⟩
      ·simp at hu
     obtain ⟨a8,aJ,aQ,cp,aT,r2,eL⟩:=kc ah aj aq;exact ⟨a8,aJ,aQ,ah.settle aJ (fun b o h=>(aQ b o h).imp id fun h=>⟨_,h,b7 0,ch 0⟩) cp,aT,r2,eL⟩
   (obtain ⟨a8,aJ,aQ,bW,dz,Dq,pQ⟩:=first);have w9:a9 (fun i=>bB (i+1)) U J a8 w T hQ:=by
    refine ⟨ay.len,fun i bG bn hu ae=>(ay.rel i bG bn hu ae).mono (Ext.refl J) fun b o ai=>⟨aJ b o ai,rfl⟩,fun i bG bn hu ae=>?_⟩;refine (ay.own i bG bn hu ae).mono (Ext.refl J) (fun b o ai=>⟨aJ b o ai,rfl⟩) fun b ag=>⟨ag,rfl,fun o ai=>?_⟩;rcases aQ b o ai with h | h
    ·exact h
    ·rw [ag] at h;injection h with h;exact absurd (aw _ _ h) (by omega)
   obtain ⟨S',dB,dq,b_,d_,da⟩:=a_ hQ (fun i=>bB (i+1)) a8 (fun i j h=>by have:=aw _ _ h;omega) (fun i=>b7 (i+1)) (fun i=>ch (i+1)) w9 bW;have cm:∀ b o,a8 b o→S' b o∧w.cell? ⟨b,o,none⟩=w.cell? ⟨b,o,none⟩:=fun b o ai=>⟨dB b o ai,rfl⟩;refine ⟨S',fun b o h=>dB b o (aJ b o h),fun b o h=>?_,b_,?_,?_⟩
   ·rcases dq b o h with h | ⟨i,h⟩
    ·exact (aQ b o h).imp id fun h=>⟨0,h⟩
    ·exact .inr ⟨i+1,h⟩
   ·refine a9.cons (Dq.mono (Ext.refl J) cm) (pQ.mono (Ext.refl J) cm fun b ag=>⟨ag,rfl,fun o h=>?_⟩) d_;rcases dq b o h with h | ⟨i,h⟩
    ·exact h
    ·rw [ag] at h;injection h with h;exact absurd (aw _ _ h) (by omega)
   ·exact a9.cons (dz.mono (Ext.refl J) cm) (aW.b4 (I.dj _)) da
theorem yE (ah:aK B U J S w H) (o:Obj):bj U S w U S (w.alloc o) :=
 ⟨rfl,rfl,rfl,by simp,fun b ag _=>heap_alloc_old w o b ag,fun b cM ai=>⟨ai,by obtain ⟨v,ae⟩:=ah.cd b cM ai;exact oY o (mL ae)⟩,fun _ _ ai=>.inl ai,fun _ ag=>.inl ag⟩
theorem Dt (ah:aK B U J S w H) (o:Obj):aK B U J S (w.alloc o) H:=by
 have aA:=yE ah o;refine ah.frame aA (fun b l ag _=>⟨ag,heap_alloc_old w o b (ah.base b l ag).2,fun _ h=>h⟩) (fun b cM ai=>?_) fun b l ag=>?_
 ·obtain ⟨v,ae⟩:=ah.cd b cM ai;exact ⟨v,((aA.set b cM ai).2).trans ae⟩
 ·have:=ah.base b l ag;exact ⟨this.1,by simp;omega⟩
theorem zH (ah:aK B U J S w H) {id b:Nat} {L:Loop} (fj:U b=some (.obj id)) (fs:w.heap[b]?=some (.loop L)) (iv:Loop) :
  bj U S w U S (w.putObj b (.loop iv))∧aK B U J S (w.putObj b (.loop iv)) (H.set id .dead)∧(w.putObj b (.loop iv)).heap[b]?=some (.loop iv):=by
 have ag:b<w.heap.size:=(tt.1 fs).1;have bP:(w.putObj b (.loop iv)).heap.size=w.heap.size:=by simp [World.putObj]
 have h8:∀ au,au≠b→(w.putObj b (.loop iv)).heap[au]?=w.heap[au]?:=fun au h=>World.putObj_heap_other h;have bO:∀ au o,S au o→au≠b:=fun au o ai e=>by
  subst e;obtain ⟨v,ae⟩:=ah.cd au o ai;simp [World.cell?,fs] at ae
 have bx:∀ au o,au≠b→(w.putObj b (.loop iv)).cell? ⟨au,o,none⟩=w.cell? ⟨au,o,none⟩:=fun au o h=>by
  simp only [World.cell?,h8 au h]
 have aA:bj U S w U S (w.putObj b (.loop iv)):=by
  refine ⟨rfl,rfl,rfl,by omega,fun au bu aN=>h8 au (fun e=>by subst e;rw [fj] at aN;cases aN),fun au o ai=>⟨ai,bx au o (bO au o ai)⟩,fun _ _ h=>.inl h,fun _ h=>.inl h⟩
 refine ⟨aA,⟨by simpa using ah.cE,fun bA o aq=>?_,fun au o ai=>?_,fun au l bu=>?_,by rw [bP];exact ah.cW⟩,World.putObj_heap_same ag⟩
 ·by_cases ct:bA=id
  ·subst ct;(have aS:bA<H.length:=by have:=(sv.1 aq).1;simpa using this);rw [sI aS] at aq;cases aq;trivial
  ·rw [sJ (Ne.symm ct)] at aq;refine (ah.obj bA o aq).frame (Ext.refl J) aA.set fun au l bu ao=>⟨bu,h8 au (fun e=>?_),fun _ h=>h⟩;subst e;rw [fj] at bu;cases bu;rcases ao with h | ⟨j,h⟩
   ·cases h;exact ct rfl
   ·cases h
 ·obtain ⟨v,ae⟩:=ah.cd au o ai;exact ⟨v,(bx au o (bO au o ai)).trans ae⟩
 ·rw [bP];exact ah.base au l bu
theorem D2 (ah:aK B U J S w H) {id b:Nat} {L:Loop} {st:LoopState} {cF:Option Code} {fn:FuncId} {T:List I} {bo:List Nat} {as cq:Code} {an:dd}
  (aE:H[id]?=some (.loop st cF fn T bo as cq an)) (ag:J[id]?=some b) (fs:w.heap[b]?=some (.loop L)) (hr:LoopState) (hn:Option Code) :
  bj U S w U S (w.putObj b (.loop { L with state:=hr,pending:=hn }))∧aK B U J S (w.putObj b (.loop { L with state:=hr,pending:=hn })) (H.set id (.loop hr hn fn T bo as cq an)) ∧
   (w.putObj b (.loop { L with state:=hr,pending:=hn })).heap[b]?=some (.loop { L with state:=hr,pending:=hn }):=by
 obtain ⟨lz,lA,au,oM,aC,aI,aR,bl,bd,bg,c',dv,dV⟩:=ah.obj id _ aE;rw [ag] at aC;cases aC;rw [fs] at aR;cases aR;obtain ⟨aA,b_,jJ⟩:=zH ah aI fs { L with state:=hr,pending:=hn };refine ⟨aA,⟨by simpa using b_.cE,fun bA o aq=>?_,b_.cd,b_.base,b_.cW⟩,jJ⟩;by_cases ct:bA=id
 ·subst ct;rw [sI (sv.1 aE).1] at aq;cases aq;exact ⟨lz,lA,b,_,ag,aI,jJ,rfl,rfl,trivial,c',fun i u v hu ae=>⟨(dv i u v hu ae).1,(dv i u v hu ae).2.mono (Ext.refl J) aA.set⟩,dV⟩
 ·refine b_.obj bA o ?_;rw [sJ (Ne.symm ct)] at aq ⊢;exact aq
end
end Go.Proofs.YtfakoboiahbhaaaGreat.Ab


namespace Go.Proofs.YtfakoboiahbhaaaGreat.Ab
open Go
section
variable {P:Program} {B N:Nat} {J:List Nat} {w:World} {H:List ar} {U:Nat→Option aH} {S:Nat→Nat→Prop}
theorem Gq {bB:Nat→aH} {us:List I} {xs:List Value} (ao:us.length=xs.length) (h:∀ (j:Nat) (u:I) (v:Value),us[j]?=some u→xs[j]?=some v→Rel J S w u v∧u.plain=true):a9 bB U J S w us xs :=
 ⟨ao,fun j u v hu ae=>(h j u v hu ae).1,fun j u v hu ae=>aW.b4 (h j u v hu ae).2⟩
def xl (F:Fence) (P:Program) (Q:Exit→Act→World→Prop) (cF:Option Code) (aM:Act) (w':World):Prop:=match cF with
 | none=>Q .normal aM w'
 | some c=>c.wpIn F 0 P Q aM w'
theorem Ah {F:Fence} (bF:en F) {C:b8} (bw:dc P C) {T:List I} {a:Act} (aL:cw B N U J S w ⟨T,H⟩ a) (mv:a9 .slot U J S w (T.map I.view) a.tmps.toList)
  {lo k:Nat} {first cap:List I} {vs ws:Array Value} (aP:Rel J S w (.func k first cap) (.func (.func k) vs ws))
  {as cq:Code} {an:dd} {fn fn':FuncId} {bo:Array Tmp} (a':codeOk an as=true) (bb:codeOk an cq=true) {r:I} {H':List ar}
  (h:C (.fn k) (first++[.yield H.length]++cap) (H++[.loop .ready none fn (T.map I.view) bo.toList as cq an]) lo=some (r,H'))
  {st:LoopState} {cF:Option Code} {gb:FuncId} {dU:List I} {dQ:List Nat} {gC gD:Code} {gA:dd} (ao:H'[H.length]?=some (.loop st cF gb dU dQ gC gD gA)) (cC:st≠.busy)
  {bH:World} (nw:bj (dp U) S w (dp U) S bH) (bW:aK B (dp U) J S bH H) {mark:List Deferred} {dfr:Nat} (hm:Marks N (dp U) bH mark) (y7:∀ d∈mark,∀ r,d.target=.collected r→U r=none∧w.heap.size≤r) {Q:Exit→Act→World→Prop}
  (bp:∀ aM w',Step B N U J S w ⟨T,H'.set H.length .dead⟩ aM w'→xl F P Q cF aM w') :
  CallsIn F 0 P k (vs++#[Value.func (.yield bH.heap.size) #[] #[]]++ws) (bH.alloc (.loop { state:=.ready,pending:=none,fn:=fn',tmps:=a.tmps,params:=bo,assign:=as,body:=cq,defers:=dfr }))
   (rangePost F 0 P bH.heap.size Q { a with defers:=mark++a.defers }):=by
 generalize fs:({ state:=.ready,pending:=none,fn:=fn',tmps:=a.tmps,params:=bo,assign:=as,body:=cq,defers:=dfr }:Loop)=L;have yF:=ks bW (.loop L) (.obj H.length);have Dr:=nN bW (.loop L) (.obj H.length);have mz:Ext J (J++[bH.heap.size]):=Ext.append J _;have pf:∀ b o,S b o→S b o∧(bH.alloc (.loop L)).cell? ⟨b,o,none⟩=w.cell? ⟨b,o,none⟩:=(nw.trans yF).set;have CA:=Dr.push bH.heap.size (o:=.loop .ready none fn (T.map I.view) bo.toList as cq an)
  ⟨a',bb,bH.heap.size,L,Ext.last bW _,by simp [lay],World.alloc_heap_new bH _,by rw [←fs],by rw [←fs],trivial,by rw [←fs];simpa using mv.len.symm,
   fun i u v hu ae=>by
    rw [←fs] at ae;refine ⟨?_,((mv.rel i u v hu (by simpa using ae)).mono mz pf)⟩;simp only [sN,su] at hu;obtain ⟨x,_,rfl⟩:=hu
    exact I.dj x,by rw [←fs],by rw [←fs],by rw [←fs]⟩
 have eV:nf (lay (dp U) bH.heap.size (.obj H.length)):=fun b i ag=>by
  unfold lay at ag;split at ag
  ·simp at ag
  ·exact C5 b i ag
 have CH:a9 (fun i=>.arg i) (lay (dp U) bH.heap.size (.obj H.length)) (J++[bH.heap.size]) S (bH.alloc (.loop L)) (first++[.yield H.length]++cap) (vs.toList++[Value.func (.yield bH.heap.size) #[] #[]]++ws.toList):=by
  cases aP with
  | func _ _ _ _ _ aJ aQ bS bZ aT r2 =>
    refine Gq (by simp [aJ,aQ]) fun j u v hu ae=>?_;rcases tq j first.length with ad | ad
    ·rw [sH,sQ ad] at hu;rw [sH,sQ (by simp;omega)] at ae;exact ⟨(aT j u v hu (by simpa using ae)).mono mz pf,bS u (sZ hu)⟩
    ·rw [sH,s_ ad] at hu;rw [sH,s_ (by simp;omega)] at ae;(have bP:vs.toList.length=first.length:=by simp [aJ]);rw [bP] at ae;rcases tq (j-first.length) 1 with af | af
     ·(have aV:j-first.length=0:=by omega);rw [aV] at hu ae;simp at hu ae;subst hu ae;exact ⟨.yield _ _ (Ext.last bW _),rfl⟩
     ·rw [s_ (by simpa using af)] at hu ae;exact ⟨(r2 _ u v hu (by simpa using ae)).mono mz pf,bZ u (sZ hu)⟩
 have ff:=(bw.ok h).2 B _ _ S _ _ CA eV CH;have hD:(vs.toList++[Value.func (.yield bH.heap.size) #[] #[]]++ws.toList).toArray=vs++#[Value.func (.yield bH.heap.size) #[] #[]]++ws:=by
  apply Array.ext';simp
 rw [hD] at ff;refine bF.calls (CallsIn.mono ff fun e bY he=>?_);cases e with
 | panicked c=>exact he.elim
 | outgrown=>exact he.elim
 | returned x =>
   obtain ⟨br,ck,bL,xg,ep,cn,_,_⟩:=he;obtain ⟨_,_,au,jo,aC,aI,aR,bl,bd,_⟩:=cn.obj _ _ ao;have dH:ck[H.length]?=some bH.heap.size:=xg _ _ (Ext.last bW _);rw [dH] at aC;cases aC;obtain ⟨Cj,Cz,_⟩:=zH cn aI aR { jo with state:=.exhausted };have lY:bj (dp U) S bH br bL (bY.putObj bH.heap.size (.loop { jo with state:=.exhausted })):=(yF.trans ep).trans Cj;obtain ⟨q1,aX⟩:=z1 none aL (mz.trans xg) (nw.trans lY) Cz (.junk undef) (aW.b4 rfl);refine ⟨jo.pending,_,run_endLoop aR (by rw [bl];exact cC),?_⟩;rw [←bd] at bp;refine bp _ _ ⟨_,ck,bL,mz.trans xg,q1,⟨aX.T,aX.H,aX.M.1,fun d a3=>?_,List.pairwise_append.2 ⟨hm.2.2,aX.M.2.2,fun d a3 gZ nB e=>?_⟩⟩⟩
   rotate_left
   ·obtain ⟨hM,dg,_⟩:=hm.2.1 d a3;obtain ⟨aT,b7,_,_,Eo⟩:=aL.M.2.1 gZ nB;have:=(y7 d a3 hM dg).2;have:=(tt.1 Eo).1;rw [dg,b7] at e;cases e;omega
   rcases List.mem_append.1 a3 with a3 | a3
   ·obtain ⟨hM,dg,dh,jZ,kY⟩:=hm.2.1 d a3;have dz:hM<bH.heap.size:=(tt.1 kY).1;refine ⟨hM,dg,dh,?_,(lY.cD hM dz jZ).trans kY⟩;have aV:=(y7 d a3 hM dg).1;have af:br hM=none:=by
     cases bM:br hM with
     | none=>rfl
     | some l =>
       rcases lY.own hM (by simp [bM]) with bT | bT
       ·exact absurd jZ bT
       ·omega
    simp [back,aV,af]
   ·exact aX.M.2.1 d a3
end
end Go.Proofs.YtfakoboiahbhaaaGreat.Ab


namespace Go.Proofs.YtfakoboiahbhaaaGreat.Ab
open Go
def toExit:cA→Exit
 | .normal=>.normal
 | .ret=>.ret
 | .exit id=>.exit id
def jn (F:Fence) (rl:Option Nat) (J:List Nat):Prop:=(rl=none∧F=Fence.wide)∨∃ l b,rl=some l∧J[l]?=some b∧F=Fence.wide.inRound b
theorem jn.lZ {F:Fence} {rl:Option Nat} {J:List Nat} (h:jn F rl J):en F:=by
 rcases h with ⟨_,rfl⟩ | ⟨l,b,_,_,rfl⟩
 ·exact .inl rfl
 ·exact .inr ⟨b,rfl⟩
theorem jn.ext {F:Fence} {rl:Option Nat} {J bV:List Nat} (h:jn F rl J) (bK:Ext J bV):jn F rl bV:=by
 rcases h with h | ⟨l,b,ad,af,aG⟩
 ·exact .inl h
 ·exact .inr ⟨l,b,ad,bK _ _ af,aG⟩
theorem kt {p:Nat→Prop} (h:∃ n,p n):∃ n,p n∧∀ m,p m→n≤m:=by
 obtain ⟨n,aN⟩:=h
 induction n using Nat.strongRecOn with
 | _ n a_ =>
   by_cases ao:∃ m,m<n∧p m
   ·obtain ⟨m,hm,aB⟩:=ao;exact a_ m hm aB
   ·exact ⟨n,aN,fun m hm=>Nat.le_of_not_lt fun aS=>ao ⟨m,aS,hm⟩⟩
section
variable {P:Program}
theorem D1 {F:Fence} {c:Code} {f:a7→Option (cA×a7)} {e:cA} {aF:a7} {Q:Exit→Act→World→Prop} {B N:Nat} {J:List Nat} {w:World} {U:Nat→Option aH} {S:Nat→Nat→Prop} {s:a7} {a:Act} {n:Nat}
  (h:ic f n s=some (e,aF)) (aL:cw B N U J S w s a) (bp:∀ aM w',Step B N U J S w aF aM w'→Q (toExit e) aM w')
  (kA:∀ (s1:a7) (e1:cA) (s2:a7),f s1=some (e1,s2)→∀ (cG:Exit→Act→World→Prop) (aC:Act) (bH:World),(∀ l a w,cG (.goto l) a w→Q (.goto l) a w)→Step B N U J S w s1 aC bH →
   (∀ aM w',Step B N U J S w s2 aM w'→cG (toExit e1) aM w')→c.wpIn F 0 P cG aC bH):(Code.loop c).wpIn F 0 P Q a w:=by
 classical
 let Inv:Nat→Act→World→Prop:=fun n aM w'=>∃ s1,ic f n s1=some (e,aF)∧Step B N U J S w s1 aM w'
 let gu:Act→World→Nat:=fun aM w'=>if h:∃ n,Inv n aM w' then Classical.choose (kt h) else 0
 have mA:∀ aM w',(∃ n,Inv n aM w')→Inv (gu aM w') aM w'∧∀ m,Inv m aM w'→gu aM w'≤m:=fun aM w' h=>by
  have:gu aM w'=Classical.choose (kt h):=by simp only [gu,dif_pos h]
  rw [this];exact vX (kt h)
 refine wpIn_loop (fun aM w'=>∃ n,Inv n aM w') gu ⟨n,s,h,Step.here aL⟩ fun aC bH kx=>?_;obtain ⟨⟨s1,ad,gJ⟩,_⟩:=mA aC bH kx;cases aN:gu aC bH with
 | zero=>rw [aN] at ad;simp [ic] at ad
 | succ m =>
   rw [aN] at ad;simp only [ic] at ad;split at ad
   ·rename_i s2 pw;refine kA s1 .normal s2 pw _ aC bH (fun l a w h=>h) gJ fun aM w' dO=>?_;have hinv:Inv m aM w':=⟨s2,ad,dO⟩;exact ⟨⟨m,hinv⟩,Nat.lt_succ_of_le ((mA aM w' ⟨m,hinv⟩).2 m hinv)⟩
   ·rename_i eV;refine kA s1 e aF ad _ aC bH (fun l a w h=>h) gJ fun aM w' dO=>?_;cases e with
    | normal=>exact absurd ad (eV aF)
    | ret=>exact bp aM w' dO
    | exit id=>exact bp aM w' dO
theorem nx {C:b8} (bw:dc P C) (et:P.follows .mixedOrders=true) {A:dd} {fn:FuncId} {lo d:Nat} {rl:Option Nat} :
  ∀ (c:Code) (a2:Nat) (s:a7) (e:cA) (aF:a7),exec P A C fn lo d rl c a2 s=some (e,aF)→codeOk A c=true →
    ∀ (F:Fence) (Q:Exit→Act→World→Prop) (B N:Nat) (J:List Nat) (w:World) (U:Nat→Option aH) (S:Nat→Nat→Prop) (a:Act),jn F rl J→(∀ l a w,¬ Q (.goto l) a w) →
      cw B N U J S w s a→(∀ aM w',Step B N U J S w aF aM w'→Q (toExit e) aM w')→c.wpIn F 0 P Q a w:=by
 intro c
 induction c with
 | skip =>
   intro a2 s e aF h _ F Q B N J w U S a bF aO aL bp;simp only [exec,Option.some.injEq,Prod.mk.injEq] at h;obtain ⟨rfl,rfl⟩:=h;exact wpIn_skip (bp a w (Step.here aL))
 | label l =>
   intro a2 s e aF h _ F Q B N J w U S a bF aO aL bp;simp only [exec,Option.some.injEq,Prod.mk.injEq] at h;obtain ⟨rfl,rfl⟩:=h;exact wpIn_label (bp a w (Step.here aL))
 | ret =>
   intro a2 s e aF h _ F Q B N J w U S a bF aO aL bp;simp only [exec,Option.some.injEq,Prod.mk.injEq] at h;obtain ⟨rfl,rfl⟩:=h;exact wpIn_ret (bp a w (Step.here aL))
 | exit id =>
   intro a2 s e aF h _ F Q B N J w U S a bF aO aL bp;simp only [exec,Option.some.injEq,Prod.mk.injEq] at h;obtain ⟨rfl,rfl⟩:=h;exact wpIn_exit (bp a w (Step.here aL))
 | goto l=>intro a2 s e aF h;simp [exec] at h
 | refuse y=>intro a2 s e aF h;simp [exec] at h
 | region id ops draw =>
   intro a2 s e aF h bQ F Q B N J w U S a bF aO aL bp;simp only [exec] at h;split at h
   ·cases h
   rename_i kO;simp only [su,Prod.mk.injEq] at h;obtain ⟨s1,h,rfl,rfl⟩:=h;refine Ao bF.lZ et bw (fun a3=>?_) h (aL.cD _ _) bp;simp only [codeOk,xF,kO] at bQ;simpa [a3] using bQ
 | seq x y nV xk =>
   intro a2 s e aF h bQ F Q B N J w U S a bF aO aL bp;simp only [codeOk,sO] at bQ;simp only [exec] at h;split at h
   ·rename_i s1 ad;refine wpIn_seq (nV _ _ _ _ ad bQ.1 F _ B N J w U S a bF (fun l a w=>aO l a w) aL fun aM w' ai=>?_);obtain ⟨b5,c2,a8,aJ,aQ,cg⟩:=ai;exact xk _ _ _ _ h bQ.2 F Q B N c2 w' b5 a8 aM (bF.ext aJ) aO cg fun gW hs dO=>bp gW hs (dO.trans aJ aQ)
   ·rename_i eV;refine wpIn_seq (nV _ _ _ _ h bQ.1 F _ B N J w U S a bF (fun l a w=>aO l a w) aL fun aM w' ai=>?_);cases e with
    | normal=>exact absurd h (eV aF)
    | ret=>exact bp aM w' ai
    | exit id=>exact bp aM w' ai
 | cond x t f nU nT =>
   intro a2 s e aF h bQ F Q B N J w U S a bF aO aL bp;simp only [codeOk,sO] at bQ;simp only [exec] at h;have aj:=aL.aA x;split at h
   ·rename_i ag;rw [ag] at aj;exact wpIn_cond_true aj.h0 (nU _ _ _ _ h bQ.1 F Q B N J w U S a bF aO aL bp)
   ·rename_i ag;rw [ag] at aj;exact wpIn_cond_false aj.h0 (nT _ _ _ _ h bQ.2 F Q B N J w U S a bF aO aL bp)
   ·simp at h
 | block id c a_ =>
   intro a2 s e aF h bQ F Q B N J w U S a bF aO aL bp;simp only [exec] at h;refine wpIn_block ?_;split at h
   ·rename_i bA s1 ad;refine a_ _ _ _ _ ad bQ F _ B N J w U S a bF (fun l a w=>aO l a w) aL fun aM w' ai=>?_;by_cases aE:bA=id
    ·simp only [aE,if_true,Option.some.injEq,Prod.mk.injEq] at h;obtain ⟨rfl,rfl⟩:=h;simp only [toExit,Exit.inBlock,aE,if_true];exact bp aM w' ai
    ·simp only [aE,if_false,Option.some.injEq,Prod.mk.injEq] at h;obtain ⟨rfl,rfl⟩:=h;simp only [toExit,Exit.inBlock,aE,if_false];exact bp aM w' ai
   ·rename_i eV;refine a_ _ _ _ _ h bQ F _ B N J w U S a bF (fun l a w=>aO l a w) aL fun aM w' ai=>?_;cases e with
    | normal=>exact bp aM w' ai
    | ret=>exact bp aM w' ai
    | exit bA=>exact absurd h (eV bA aF)
 | scope c a_ =>
   intro a2 s e aF h bQ F Q B N J w U S a bF aO aL bp;simp only [exec] at h;exact BA (a_ _ _ _ _ h bQ F Q B N J w U S a bF aO aL bp) aO
 | loop c a_ =>
   intro a2 s e aF h bQ F Q B N J w U S a bF aO aL bp;simp only [exec] at h;refine D1 h aL bp fun s1 e1 s2 ad cG aC bH Dn gJ pd=>?_;obtain ⟨b5,c2,a8,aJ,aQ,cg⟩:=gJ;exact a_ _ _ _ _ ad bQ F cG B N c2 bH b5 a8 aC (bF.ext aJ) (fun l a w a0=>aO l a w (Dn l a w a0)) (cg.cD _ _) fun aM w' dO=>pd aM w' (dO.trans aJ aQ)
 | rangeFunc g bo as cq fk fv =>
   intro a2 s e aF h bQ F Q B N J w U S a bF aO aL bp;simp only [codeOk,sO] at bQ;simp only [exec] at h;split at h
   ·(rename_i k first cap g6 mc);have zh:=aL.aA g;rw [mc] at zh;split at h
    ·rename_i r H' al;split at h
     ·rename_i st cF gb dU dQ gC gD gA ao;split at h
      ·simp at h
      ·rename_i cC;have pd:∀ aM w',Step B N U J S w ⟨s.T.map I.settle,H'.set s.H.length .dead⟩ aM w'→xl F P Q cF aM w':=fun aM w' ai=>by
        split at h
        ·simp only [Option.some.injEq,Prod.mk.injEq] at h;obtain ⟨rfl,rfl⟩:=h;exact bp aM w' ai
        ·simp only [Option.some.injEq,Prod.mk.injEq] at h;obtain ⟨rfl,rfl⟩:=h;exact wpIn_ret (bp aM w' ai)
        ·simp only [Option.some.injEq,Prod.mk.injEq] at h;obtain ⟨rfl,rfl⟩:=h;exact wpIn_exit (bp aM w' ai)
        ·simp at h
       obtain ⟨a8,dB,dq,bW,kz,pg⟩:=A9 s.T a.tmps.toList .slot S (fun i j h=>by cases h;rfl) (fun i id=>by simp) (fun i id j=>by simp) aL.T aL.H;have dy:bj U S w U a8 w:=bj.settle dB fun b o h=>(dq b o h).imp id fun ⟨i,h⟩=>⟨_,h⟩;have cg:cw B N U J a8 w ⟨s.T.map I.settle,s.H⟩ a:=⟨kz,bW,aL.M.aA dy⟩;have kP:(s.T.map I.settle).map I.view=s.T.map I.view:=by
        rw [List.map_map];apply uN;intro u _;exact yb u
       (have mv:a9 .slot U J a8 w ((s.T.map I.settle).map I.view) a.tmps.toList:=by rw [kP];exact pg);rw [←kP] at al;have yT:∀ aM w',Step B N U J a8 w ⟨s.T.map I.settle,H'.set s.H.length .dead⟩ aM w'→xl F P Q cF aM w':=fun aM w' ai=>pd aM w' (Step.trans (Ext.refl J) dy ai);have dz:=zh.mono (Ext.refl J) (S':=a8) (w':=w) (fun b o h=>⟨dB b o h,rfl⟩);obtain ⟨⟨f0,CU,iI,Dg⟩,_⟩:=bw.ok al;have yU:U w.heap.size=none:=by
        cases ak:U w.heap.size with
        | none=>rfl
        | some l=>have:=(aL.H.base _ l ak).2;omega
       generalize C3:a.eval g=GK at dz;cases dz with
       | func _ _ _ vs ws aJ aQ bS bZ aT r2 =>
         refine wpIn_rangeFunc fun fn' _=>?_;have kM:∀ (l:Nat) (w0:World),(resolve a.eval (rangeCall g l) 0).run P w0=.ok { target:=.fn (.func k) ws,args:=vs++#[Value.func (.yield l) #[] #[]] } w0:=fun l w0=>by
          have:(#[Operand.const (Value.func (.yield l) #[] #[])]:Array Operand).map a.eval=#[Value.func (.yield l) #[] #[]]:=by simp [Act.eval]
          simp only [resolve,rangeCall,C3,Deferred.ofValue,this,Sem.run_pure]
         have hinv:∀ (l:Nat) (w0:World),(invoke (.fn (.func k) ws) (vs++#[Value.func (.yield l) #[] #[]])).run P w0=.ok (.enter k (vs++#[Value.func (.yield l) #[] #[]]++ws)) w0:=fun l w0=>by
          simp only [invoke,AV CU iI Dg]
         (have pA:Rel J a8 w (.func k first cap) (.func (.func k) vs ws):=.func k first cap vs ws aJ aQ bS bZ aT r2);(have yX:F.depth.isSome=true→1≤0:=fun iK=>by rw [bF.lZ.depth] at iK;cases iK);rcases bF with ⟨rfl,rfl⟩ | ⟨cu,dE,rfl,ag,rfl⟩
         ·have cn:=mu cg.H;have ff:=Ah (.inl rfl) bw cg mv pA bQ.1 bQ.2 al ao cC (yE cn (.deferred (some []))) (Dt cn (.deferred (some []))) (fn':=fn') (dfr:=w.heap.size)
           (mark:=[{ target:=.collected w.heap.size,args:=#[] }]) ⟨by have:=aL.M.1;simp;omega,fun d a3=>by
            simp only [ta] at a3;subst a3;exact ⟨w.heap.size,rfl,aL.M.1,nG yU,World.alloc_heap_new w _⟩,List.pairwise_singleton _ _⟩ (fun d a3 hM nM=>by
            simp only [ta] at a3;subst a3
            cases nM;exact ⟨yU,sB _⟩) yT
          (have bP:(w.alloc (.deferred (some []))).heap.size=w.heap.size+1:=by simp);rw [bP] at ff;exact ⟨_,_,_,_,_,k,_,_,run_enterLoop_outer fn' a.tmps bo as cq,kM _ _,fun _ _=>trivial,hinv _ _,yX,ff⟩
         ·have cn:=mu cg.H;simp only [inLoop] at g6;split at g6
          ·rename_i bC;obtain ⟨_,_,au,oM,aC,aI,aR,_⟩:=aL.H.obj cu _ bC;rw [ag] at aC;cases aC;have ff:=Ah (.inr ⟨dE,rfl⟩) bw cg mv pA bQ.1 bQ.2 al ao cC (bj.refl _ _ _) cn (fn':=fn') (dfr:=oM.defers)
            (mark:=[]) ⟨aL.M.1,fun d a3=>by simp at a3,List.Pairwise.nil⟩ (fun d a3=>by simp at a3) yT
           exact ⟨_,_,_,_,_,k,_,_,run_enterLoop_inner aR fn' a.tmps bo as cq,kM _ _,fun _ _=>trivial,hinv _ _,yX,ff⟩
          ·simp at g6
     ·simp at h
    ·simp at h
   ·simp at h
end
end Go.Proofs.YtfakoboiahbhaaaGreat.Ab


namespace Go.Proofs.YtfakoboiahbhaaaGreat.Ab
open Go
def hR (U:Nat→Option aH):Nat→Option aH:=fun b=>match U b with
 | some (.arg i)=>some (.slot i)
 | some (.obj id)=>some (.obj id)
 | some (.cell id j)=>some (.cell id j)
 | _=>none
def k9 (t:Nat) (U:Nat→Option aH):Nat→Option aH:=fun b=>match U b with
 | some (.slot i)=>if i=t then some .res else none
 | some (.obj id)=>some (.obj id)
 | some (.cell id j)=>some (.cell id j)
 | _=>none
section
variable {P:Program} {B N:Nat} {J:List Nat} {w:World} {H:List ar} {U:Nat→Option aH} {S:Nat→Nat→Prop}
theorem relabel {az:Nat→Option aH} (ah:aK B U J S w H) (ad:∀ b,U b=none→az b=none) (af:∀ b l,U b=some l→((∃ id,l=.obj id)∨∃ id j,l=.cell id j)→az b=some l) :
  bj U S w az S w∧aK B az J S w H:=by
 have aN:∀ b,az b≠none→U b≠none:=fun b h aV=>h (ad b aV);refine ⟨⟨rfl,rfl,rfl,sB _,fun _ _ _=>rfl,fun _ _ h=>⟨h,rfl⟩,fun _ _ h=>.inl h,fun b h=>.inl (aN b h)⟩,⟨ah.cE,fun id o aq=>?_,ah.cd,fun b l ag=>?_,ah.cW⟩⟩
 ·refine (ah.obj id o aq).frame (Ext.refl J) (fun _ _ h=>⟨h,rfl⟩) fun b l ag ao=>⟨af b l ag ?_,rfl,fun _ h=>h⟩;rcases ao with rfl | ⟨j,rfl⟩
  ·exact .inl ⟨id,rfl⟩
  ·exact .inr ⟨id,j,rfl⟩
 ·cases h:U b with
  | none=>rw [ad b h] at ag;cases ag
  | some l'=>exact ah.base b l' h
theorem oG (ah:aK B U J S w H):bj U S w (hR U) S w∧aK B (hR U) J S w H :=
 relabel ah (fun b h=>by simp [hR,h]) fun b l h ao=>by
  rcases ao with ⟨id,rfl⟩ | ⟨id,j,rfl⟩ <;> simp [hR,h]
theorem Ey (t:Nat) (ah:aK B U J S w H):bj U S w (k9 t U) S w∧aK B (k9 t U) J S w H :=
 relabel ah (fun b h=>by simp [k9,h]) fun b l h ao=>by
  rcases ao with ⟨id,rfl⟩ | ⟨id,j,rfl⟩ <;> simp [k9,h]
theorem x6 (ah:aK B U J S w H) {args:List I} {vs:List Value} (ae:a9 (fun i=>.arg i) U J S w args vs) (n:Nat) :
  cw B w.heap.size (hR U) J S w ⟨args++List.replicate (n-args.length) .junk,H⟩ { tmps:=vs.toArray++Array.replicate (n-vs.toArray.size) undef,defers:=[] }:=by
 have ao:=ae.len;refine ⟨?_,(oG ah).2,sB _,fun d a3=>by simp at a3,List.Pairwise.nil⟩;have xb:(vs.toArray++Array.replicate (n-vs.toArray.size) undef).toList=vs++List.replicate (n-vs.length) undef:=by simp
 simp only [xb];have key:∀ (i:Nat) (u:I) (v:Value),(args++List.replicate (n-args.length) .junk)[i]?=some u→(vs++List.replicate (n-vs.length) undef)[i]?=some v →
   Rel J S w u v∧aW (hR U) J S w (.slot i) u v:=fun i u v hu ak=>by
  rcases tq i args.length with ad | ad
  ·rw [sQ ad] at hu;rw [sQ (by omega)] at ak;exact ⟨ae.rel i u v hu ak,(ae.own i u v hu ak).mono (Ext.refl J) (fun _ _ h=>⟨h,rfl⟩) fun b ag=>⟨by simp [hR,ag],rfl,fun _ h=>h⟩⟩
  ·rw [s_ ad] at hu;rw [List.getElem?_replicate] at hu;split at hu
   ·cases hu;exact ⟨.junk v,aW.b4 rfl⟩
   ·simp at hu
 exact ⟨by simp [ao],fun i u v hu ak=>(key i u v hu ak).1,fun i u v hu ak=>(key i u v hu ak).2⟩
theorem nY {fn:Func} {tmps:Array Value} {R:Ending→World→Prop} {lC:Nat→Option aH} {S0:Nat→Nat→Prop} {w0:World} :
  ∀ (ds:List Deferred) (w:World),(∀ d∈ds,∃ r,d.target=.collected r∧w0.heap.size≤r∧U r=none∧w.heap[r]?=some (.deferred (some [])))→ds.Pairwise (fun a b=>a.target≠b.target)→bj lC S0 w0 U S w→aK B U J S w H →
    (∀ w',(∀ b l,U b=some l→w'.heap[b]?=w.heap[b]?)→(∀ b o,S b o→w'.cell? ⟨b,o,none⟩=w.cell? ⟨b,o,none⟩)→bj lC S0 w0 U S w'→aK B U J S w' H→∃ v,(results fn tmps).run P w'=.ok v w'∧R (.returned v) w')→LeavesInM Fence.wide 0 P fn tmps R ds .returning w
 | [],w,_,_,aA,ah,jD=>jD w (fun _ _ _=>rfl) (fun _ _ _=>rfl) aA ah
 | d::ds,w,a3,aB,aA,ah,jD=>by
   obtain ⟨r,ad,af,aG,a6⟩:=a3 d (by simp);have aj:r<w.heap.size:=(tt.1 a6).1;(have bP:(w.putObj r (.deferred none)).heap.size=w.heap.size:=by simp [World.putObj]);have h8:∀ b,b≠r→(w.putObj r (.deferred none)).heap[b]?=w.heap[b]?:=fun b h=>World.putObj_heap_other h;have bO:∀ b o,S b o→b≠r:=fun b o ai e=>by
    subst e;obtain ⟨v,ae⟩:=ah.cd b o ai;simp [World.cell?,a6] at ae
   have bx:∀ b o,b≠r→(w.putObj r (.deferred none)).cell? ⟨b,o,none⟩=w.cell? ⟨b,o,none⟩:=fun b o h=>by
    simp only [World.cell?,h8 b h]
   (have kE:∀ b l,U b=some l→b≠r:=fun b l h e=>by subst e;rw [aG] at h;cases h);have dy:bj lC S0 w0 U S (w.putObj r (.deferred none)):=by
    refine ⟨aA.os,aA.tape,aA.output,by rw [bP];exact aA.size,fun b ag aN=>?_,fun b o ai=>?_,aA.fresh,aA.own⟩
    ·rw [h8 b (by omega)];exact aA.cD b ag aN
    ·obtain ⟨aJ,aQ⟩:=aA.set b o ai;exact ⟨aJ,(bx b o (bO b o aJ)).trans aQ⟩
   have cm:∀ b o,S b o→S b o∧(w.putObj r (.deferred none)).cell? ⟨b,o,none⟩=w.cell? ⟨b,o,none⟩:=fun b o ai=>⟨ai,bx b o (bO b o ai)⟩;have gF:aK B U J S (w.putObj r (.deferred none)) H :=
    ⟨ah.cE,fun id o aq=>(ah.obj id o aq).frame (Ext.refl J) cm fun b l ag _=>⟨ag,h8 b (kE b l ag),fun _ h=>h⟩,fun b o ai=>by
     obtain ⟨v,ae⟩:=ah.cd b o ai
     exact ⟨v,(bx b o (bO b o ai)).trans ae⟩,fun b l ag=>by rw [bP];exact ah.base b l ag,by rw [bP];exact ah.cW⟩
   refine ⟨by simp,.inl ⟨r,_,ad,run_takeDeferred a6,?_⟩⟩;have zd:=tK.1 aB;refine nY ds _ (fun gZ nB=>?_) zd.2 dy gF (fun w' df aJ aQ cp=>jD w' (fun b l h=>(df b l h).trans (h8 b (kE b l h))) (fun b o h=>(aJ b o h).trans (bx b o (bO b o h))) aQ cp)
   ·obtain ⟨r',q1,aX,cy,dF⟩:=a3 gZ (by simp [nB])
    have:r'≠r:=fun e=>zd.1 gZ nB (by rw [ad,q1,e])
    exact ⟨r',q1,aX,cy,(h8 r' this).trans dF⟩
end
end Go.Proofs.YtfakoboiahbhaaaGreat.Ab


namespace Go.Proofs.YtfakoboiahbhaaaGreat.Ab
open Go
section
variable {P:Program} {B N:Nat} {J:List Nat} {w:World} {H:List ar} {U:Nat→Option aH} {S:Nat→Nat→Prop}
theorem pa {bB:Nat→aH} {T:List I} {bh:Array Value} (bX:a9 bB U J S w T bh.toList) (t:Nat):Rel J S w (c5 T t) (bh.getD t undef)∧aW U J S w (bB t) (c5 T t) (bh.getD t undef):=by
 rw [gd,sY];cases h:T[t]? with
 | none=>exact ⟨.junk _,aW.b4 rfl⟩
 | some u =>
   have ao:=bX.len;have aS:t<T.length:=(sv.1 h).1;(have mj:t<bh.size:=by rw [←Array.length_toList,←ao];exact aS);(have ak:bh.toList[t]?=some (bh.getD t undef):=by simp [sT,mj]);exact ⟨bX.rel t u _ h ak,bX.own t u _ h ak⟩
theorem m0 (ah:aK B U J S w H) {T:List I} {bh:Array Value} (bX:a9 .slot U J S w T bh.toList) {g:ResultVar→Sem Value} (cb:∀ t,g (.tmp t)=pure (bh.getD t undef))
  (b6:∀ a t,g (.cell a t)=do loadVar t (←asAddr (bh.getD a undef))):∀ (rs:List ResultVar) (vs:List I),fo P H T rs=some vs →
  ∃ xs,(rs.mapM g).run P w=.ok xs w∧vs.length=xs.length∧∀ (j:Nat) (u:I) (x:Value),vs[j]?=some u→xs[j]?=some x→Rel J S w u x∧((u.plain=true∧True)∨∃ t,(u=c5 T t∧x=bh.getD t undef)∧aW U J S w (.slot t) u x)
 | [],vs,h=>by
   simp only [fo,Option.some.injEq] at h;subst h;exact ⟨[],by simp,rfl,by simp⟩
 | .tmp t::r,vs,h=>by
   simp only [fo,su] at h;obtain ⟨cV,h,rfl⟩:=h;obtain ⟨xs,q1,aX,cy⟩:=m0 ah bX cb b6 r cV h;obtain ⟨aT,r2⟩:=pa bX t;refine ⟨bh.getD t undef::xs,by rw [wz];simp [cb,q1],by simp [aX],fun j u x hu ak=>?_⟩;cases j with
   | zero=>simp only [uJ,Option.some.injEq] at hu ak;subst hu ak;exact ⟨aT,.inr ⟨t,⟨rfl,rfl⟩,r2⟩⟩
   | succ j=>exact cy j u x (by simpa using hu) (by simpa using ak)
 | .cell a t::r,vs,h=>by
   simp only [fo] at h;split at h
   ·rename_i v cV ae hI;simp only [Option.some.injEq] at h;subst h;obtain ⟨xs,q1,aX,cy⟩:=m0 ah bX cb b6 r cV hI;have aj:=(pa bX a).1;obtain ⟨x,aJ,aQ,cp⟩:=lk ah ae aj;have aB:∃ lL,bh.getD a undef=.pointer (some lL):=by
     unfold dS at ae;generalize bh.getD a undef=He at aj ⊢;split at ae
     ·rename_i heq;rw [heq] at aj;cases aj;exact ⟨_,rfl⟩
     ·rename_i heq;rw [heq] at aj;cases aj;exact ⟨_,rfl⟩
     ·simp at ae
    obtain ⟨lL,aB⟩:=aB;rw [aB] at aJ;(have DM:(loadVar t lL).run P w=.ok x w:=by simpa [Instr.loadAt,Instr.sureAddr] using aJ);refine ⟨x::xs,by rw [wz];simp [b6,aB,asAddr,DM,q1],by simp [aX],fun j u y hu ak=>?_⟩;cases j with
    | zero=>simp only [uJ,Option.some.injEq] at hu ak;subst hu ak;exact ⟨aQ,.inl ⟨cp,trivial⟩⟩
    | succ j=>exact cy j u y (by simpa using hu) (by simpa using ak)
   ·simp at h
theorem xJ (ah:aK B U J S w H) {T:List I} {bh:Array Value} (bX:a9 .slot U J S w T bh.toList) {fn:Func} {vs:List I} (h:fo P H T fn.results.toList=some vs) :
  ∃ v,(results fn bh).run P w=.ok v w∧a1 B U J S w H (hl vs) v w:=by
 have run:∀ xs,(fn.results.toList.mapM (fun (x:ResultVar)=>match x with | .tmp t=>(pure (bh.getD t undef):Sem Value) | .cell a t=>do loadVar t (←asAddr (bh.getD a undef)))).run P w=.ok xs w →
   (results fn bh).run P w=.ok (if h:xs.toArray.size=1 then xs.toArray[0] else .tuple xs.toArray) w:=fun xs ak=>by
  have aO:results fn bh=(do
    let vs ←fn.results.mapM (fun (x:ResultVar)=>match x with | .tmp t=>(pure (bh.getD t undef):Sem Value) | .cell a t=>do loadVar t (←asAddr (bh.getD a undef)))
    pure (if h:vs.size=1 then vs[0] else .tuple vs)):=by
   unfold results;congr 1
  rw [aO,Array.mapM_eq_mapM_toList];simp only [Sem.run_bind,Sem.run_map,ak,Result.andThen_ok,Sem.run_pure]
 match vs,h with
 | [u],h =>
   obtain ⟨xs,q1,aX,cy⟩:=m0 ah bX (g:=fun x=>match x with | .tmp t=>pure (bh.getD t undef) | .cell a t=>do loadVar t (←asAddr (bh.getD a undef))) (fun _=>rfl) (fun _ _=>rfl) _ _ h
   match xs,aX with
   | [x],_ =>
     obtain ⟨aT,r2⟩:=cy 0 u x rfl rfl;refine ⟨x,by rw [run _ q1];rfl,?_⟩;rcases r2 with ⟨aB,_⟩ | ⟨t,_,aq⟩
     ·exact a1.same ah aT aB
     ·obtain ⟨aA,b_⟩:=Ey t ah;exact ⟨k9 t U,J,S,Ext.refl J,aA,b_,aT,aq.mono (Ext.refl J) (fun _ _ h=>⟨h,rfl⟩) fun b ag=>⟨by simp [k9,ag],rfl,fun _ h=>h⟩⟩
 | [],h =>
   obtain ⟨xs,q1,aX,cy⟩:=m0 ah bX (g:=fun x=>match x with | .tmp t=>pure (bh.getD t undef) | .cell a t=>do loadVar t (←asAddr (bh.getD a undef))) (fun _=>rfl) (fun _ _=>rfl) _ _ h
   match xs,aX with
   | [],_=>exact ⟨.tuple #[],by rw [run _ q1];rfl,a1.same ah (.tuple [] #[] rfl (by simp) (by simp)) rfl⟩
 | fA::gp::us,h =>
   obtain ⟨a8,dB,dq,bW,kz,pg⟩:=A9 T bh.toList .slot S (fun i j h=>by cases h;rfl) (fun i id=>by simp) (fun i id j=>by simp) bX ah;have dy:bj U S w U a8 w:=bj.settle dB fun b o h=>(dq b o h).imp id fun ⟨i,h⟩=>⟨_,h⟩;obtain ⟨xs,q1,aX,cy⟩:=m0 ah bX (g:=fun x=>match x with | .tmp t=>pure (bh.getD t undef) | .cell a t=>do loadVar t (←asAddr (bh.getD a undef))) (fun _=>rfl) (fun _ _=>rfl) _ _ h
   refine ⟨.tuple xs.toArray,by
    rw [run _ q1]
    have:¬ xs.toArray.size=1:=by simp at aX ⊢;omega
    rw [dif_neg this],a1.after (Ext.refl J) dy (a1.same bW (.tuple _ _ (by simp at aX ⊢;omega) ?_ ?_) rfl)⟩
   ·intro y aZ;obtain ⟨x,_,rfl⟩:=sM.1 aZ;exact I.dj x
   ·intro j y x aZ ak;simp only [sN,su] at aZ;obtain ⟨u,hu,rfl⟩:=aZ;obtain ⟨aT,r2⟩:=cy j u x hu (by simpa using ak);rcases r2 with ⟨aB,_⟩ | ⟨t,⟨rfl,rfl⟩,_⟩
    ·rw [I.kk aB];exact aT.mono (Ext.refl J) fun b o h=>⟨dB b o h,rfl⟩
    ·have:=(pa pg t).1;have ae:c5 (T.map I.view) t=(c5 T t).view:=by
      rw [gd,gd,sY,sY,sN];cases T[t]? <;> rfl
     rw [ae] at this;exact this
end
end Go.Proofs.YtfakoboiahbhaaaGreat.Ab


namespace Go.Proofs.YtfakoboiahbhaaaGreat.Ab
open Go
def ji (bo:List Nat) (U:Nat→Option aH):Nat→Option aH:=fun b=>match U b with
 | some (.arg i)=>(bo[i]?).map .slot
 | some (.obj id)=>some (.obj id)
 | some (.cell id j)=>some (.cell id j)
 | _=>none
section
variable {P:Program} {B N:Nat} {J:List Nat} {w:World} {H:List ar} {U:Nat→Option aH} {S:Nat→Nat→Prop}
theorem Gg (bo:List Nat) (ah:aK B U J S w H):bj U S w (ji bo U) S w∧aK B (ji bo U) J S w H :=
 relabel ah (fun b h=>by simp [ji,h]) fun b l h ao=>by
  rcases ao with ⟨id,rfl⟩ | ⟨id,j,rfl⟩ <;> simp [ji,h]
theorem A8:∀ (bo:List Nat) (us:List I) (T ba:List I) (xs bh:List Value),iq bo us T=some ba→us.length=xs.length→T.length=bh.length →
  bo.length=us.length∧ba.length=T.length∧((bo.zip xs).foldl (fun (l:List Value) (p:Nat×Value)=>l.set p.1 p.2) bh).length=bh.length ∧
  ∀ (i:Nat) (u:I) (x:Value),ba[i]?=some u→((bo.zip xs).foldl (fun (l:List Value) (p:Nat×Value)=>l.set p.1 p.2) bh)[i]?=some x →
    (T[i]?=some u∧bh[i]?=some x)∨∃ (j:Nat),bo[j]?=some i∧us[j]?=some u∧xs[j]?=some x
 | [],[],T,ba,xs,bh,h,ao,ay=>by
   simp only [iq,Option.some.injEq] at h;subst h;exact ⟨rfl,rfl,by simp,fun i u x hu ak=>.inl ⟨hu,by simpa using ak⟩⟩
 | p::bo,ya::us,T,ba,jl::xs,bh,h,ao,ay=>by
   simp only [iq,gU] at h;obtain ⟨ad,af,aG,a6⟩:=A8 bo us (T.set p ya) ba xs (bh.set p jl) h (by simpa using ao) (by simpa using ay);refine ⟨by simp [ad],by simpa using af,by simpa using aG,fun i u x hu ak=>?_⟩;rcases a6 i u x hu (by simpa using ak) with ⟨aJ,aQ⟩ | ⟨j,aJ,aQ,cp⟩
   ·by_cases zc:p=i
    ·subst zc;(have dL:p<T.length:=by have:=(sv.1 aJ).1;simpa using this);(have kV:p<bh.length:=by omega);rw [sI dL] at aJ;rw [sI kV] at aQ;exact .inr ⟨0,rfl,by simpa using aJ,by simpa using aQ⟩
    ·rw [sJ zc] at aJ aQ;exact .inl ⟨aJ,aQ⟩
   ·exact .inr ⟨j+1,by simpa using aJ,by simpa using aQ,by simpa using cp⟩
 | [],_::_,T,ba,xs,bh,h,ao,ay=>by simp [iq] at h
 | _::_,[],T,ba,xs,bh,h,ao,ay=>by simp [iq] at h
 | _::_,_::_,T,ba,[],bh,h,ao,ay=>by simp at ao
theorem E_ (L:Loop) (vs:List Value):(i_ L vs).toList=(L.params.toList.zip vs).foldl (fun (l:List Value) (p:Nat×Value)=>l.set p.1 p.2) L.tmps.toList:=by
 unfold i_;rw [←Array.foldl_toList,Array.toList_zip];generalize L.params.toList.zip vs=gq;generalize L.tmps=bh
 induction gq generalizing bh with
 | nil=>rfl
 | cons z gq a_=>simp only [List.foldl_cons];rw [a_];simp
theorem cw.loop {s:a7} {a:Act} (aL:cw B N U J S w s a) {id b:Nat} {L:Loop} {st:LoopState} {cF:Option Code} {fn:FuncId} {T:List I} {bo:List Nat} {as cq:Code} {an:dd}
  (aE:s.H[id]?=some (.loop st cF fn T bo as cq an)) (ag:J[id]?=some b) (fs:w.heap[b]?=some (.loop L)) (hr:LoopState) (hn:Option Code) :
  bj U S w U S (w.putObj b (.loop { L with state:=hr,pending:=hn }))∧cw B N U J S (w.putObj b (.loop { L with state:=hr,pending:=hn })) ⟨s.T,s.H.set id (.loop hr hn fn T bo as cq an)⟩ a:=by
 obtain ⟨aA,ah,_⟩:=D2 aL.H aE ag fs hr hn;obtain ⟨_,_,au,oM,aC,aI,_⟩:=aL.H.obj id _ aE;rw [ag] at aC;cases aC;refine ⟨aA,⟨⟨aL.T.len,fun i u v hu ae=>(aL.T.rel i u v hu ae).mono (Ext.refl J) aA.set,fun i u v hu ae=>?_⟩,ah,aL.M.aA aA⟩⟩;refine (aL.T.own i u v hu ae).mono (Ext.refl J) aA.set fun au bu=>⟨bu,World.putObj_heap_other (fun e=>?_),fun _ h=>h⟩;subst e;rw [aI] at bu;cases bu
theorem B_ (et:P.follows .mixedOrders=true) {C:b8} (bw:dc P C) {k:Nat} {f:Func} {c:Code} (aP:P.funcs[k]?=some f) (ag:f.body=some c) {A:dd} (bQ:codeOk A c=true)
  {lo d:Nat} {args:List I} {e:cA} {s:a7} (h:exec P A C k lo d none c 0 ⟨args++List.replicate (f.ntmps-args.length) .junk,H⟩=some (e,s)) (he:e=.normal∨e=.ret) {vs:List I}
  (aj:fo P s.H s.T f.results.toList=some vs) {xs:List Value} (ah:aK B U J S w H) (ae:a9 (fun i=>.arg i) U J S w args xs) :
  CallsIn Fence.wide 0 P k xs.toArray w (fV B U J S w s.H (hl vs)):=by
 refine callsIn_of_wp_marks aP ag trivial ?_;have aL:=x6 ah ae f.ntmps;have dy:=(oG ah).1;refine nx bw et c 0 _ _ _ h bQ Fence.wide _ B w.heap.size J w (hR U) S _ (.inl ⟨rfl,rfl⟩) (fun l a w aO=>aO.elim) aL fun aM w' ai=>?_;obtain ⟨b5,c2,a8,aJ,aQ,cg⟩:=ai;have iM:LeavesInM Fence.wide 0 P f aM.tmps (fV B U J S w s.H (hl vs)) aM.defers .returning w':=by
  refine nY (U:=b5) (S:=a8) (J:=c2) (B:=B) (H:=s.H) (lC:=U) (S0:=S) (w0:=w) aM.defers w' cg.M.2.1 cg.M.2.2 (dy.trans aQ) cg.H fun bY dB dq mD mE=>?_
  have bX:a9 .slot b5 c2 a8 bY s.T aM.tmps.toList:=⟨cg.T.len,fun i u v hu ae=>(cg.T.rel i u v hu ae).mono (Ext.refl _) (fun b o h=>⟨h,dq b o h⟩),fun i u v hu ae =>
   (cg.T.own i u v hu ae).mono (Ext.refl _) (fun b o h=>⟨h,dq b o h⟩) fun b ag=>⟨ag,dB b _ ag,fun _ h=>h⟩⟩
  obtain ⟨v,q1,aX⟩:=xJ mE bX aj;exact ⟨v,q1,a1.after aJ mD aX⟩
 rcases he with rfl | rfl
 ·exact iM
 ·exact iM
end
end Go.Proofs.YtfakoboiahbhaaaGreat.Ab


namespace Go.Proofs.YtfakoboiahbhaaaGreat.Ab
open Go
section
variable {P:Program} {B N:Nat} {J:List Nat} {w:World} {H:List ar} {U:Nat→Option aH} {S:Nat→Nat→Prop}
def lj (l:Nat) (H:List ar) (fn:FuncId) (T:List I) (bo:List Nat) (as cq:Code) (an:dd):cA→I×List ar
 | .normal=>(.bool true,H.set l (.loop .ready none fn T bo as cq an))
 | .ret=>(.bool false,H.set l (.loop .done (some .ret) fn T bo as cq an))
 | .exit id=>(.bool false,H.set l (.loop .done (some (.exit id)) fn T bo as cq an))
theorem B' (et:P.follows .mixedOrders=true) {C:b8} (bw:dc P C) {l lo d:Nat} {fn fn':FuncId} {j7 cF:Option Code} {T ba dU dG:List I} {bo dQ fS:List Nat} {as cq gC gD fE fF:Code} {an gA fD:dd} {gb fH:FuncId} {args:List I}
  (ao:H[l]?=some (.loop .ready j7 fn T bo as cq an)) (eG:iq bo args T=some ba) {s1 s2:a7} {e:cA} {j8:Option Code}
  (ad:exec P an C fn lo d (some l) as 0 ⟨ba,H⟩=some (.normal,s1)) (jO:s1.H[l]?=some (.loop .ready cF gb dU dQ gC gD gA))
  (af:exec P an C fn' lo d (some l) cq 0 ⟨s1.T,s1.H.set l (.loop .busy cF gb dU dQ gC gD gA)⟩=some (e,s2)) (gg:s2.H[l]?=some (.loop .busy j8 fH dG fS fE fF fD))
  {xs:List Value} {b:Nat} (ah:aK B U J S w H) (ae:a9 (fun i=>.arg i) U J S w args xs) (ag:J[l]?=some b) :
  ∃ L,w.heap[b]?=some (.loop L)∧xs.length=L.params.size ∧
    RoundIn Fence.wide 0 P b L.fn (i_ L xs) L.assign L.body w (fV B U J S w (lj l s2.H fH dG fS fE fF fD e).2 (lj l s2.H fH dG fS fE fF fD e).1):=by
 obtain ⟨a',bb,au,L,aC,aI,aR,bl,bd,bg,c',dv,dV,gz,BK⟩:=ah.obj l _ ao;rw [ag] at aC;cases aC;have cC:=A8 bo args T ba xs L.tmps.toList eG ae.len (by simpa using c'.symm);obtain ⟨cb,b6,er,iF⟩:=cC;refine ⟨L,aR,by rw [←ae.len,←cb,←dV];simp,?_⟩;refine roundIn_of_wpIn trivial ?_;have xb:(i_ L xs).toList=(bo.zip xs).foldl (fun (l:List Value) (p:Nat×Value)=>l.set p.1 p.2) L.tmps.toList:=by rw [E_,dV]
 obtain ⟨dy,gF⟩:=Gg bo ah;have aL:cw B w.heap.size (ji bo U) J S w ⟨ba,H⟩ { tmps:=i_ L xs,defers:=[] }:=by
  refine ⟨?_,gF,sB _,fun d a3=>by simp at a3,List.Pairwise.nil⟩;simp only [xb];have key:∀ (i:Nat) (u:I) (x:Value),ba[i]?=some u→((bo.zip xs).foldl (fun (l:List Value) (p:Nat×Value)=>l.set p.1 p.2) L.tmps.toList)[i]?=some x →
    Rel J S w u x∧aW (ji bo U) J S w (.slot i) u x:=fun i u x hu ak=>by
   rcases iF i u x hu ak with ⟨aJ,aQ⟩ | ⟨j,aJ,aQ,cp⟩
   ·obtain ⟨bS,bZ⟩:=dv i u x aJ (by simpa using aQ);exact ⟨bZ,aW.b4 bS⟩
   ·exact ⟨ae.rel j u x aQ cp,(ae.own j u x aQ cp).mono (Ext.refl J) (fun _ _ h=>⟨h,rfl⟩) fun b ag=>⟨by simp [ji,ag,aJ],rfl,fun _ h=>h⟩⟩
  exact ⟨by rw [b6,er,←c'];simp,fun i u x hu ak=>(key i u x hu ak).1,fun i u x hu ak=>(key i u x hu ak).2⟩
 rw [gz,BK];refine nx bw et as 0 _ _ _ ad a' _ _ B w.heap.size J w (ji bo U) S _ (.inr ⟨l,b,rfl,ag,rfl⟩) (fun l a w aO=>aO) aL fun aC bH ai=>?_;obtain ⟨b5,c2,a8,aJ,aQ,cg⟩:=ai;have gG:c2[l]?=some b:=aJ _ _ ag;obtain ⟨_,_,au,oN,d1,d2,d3,d4,d5,_⟩:=cg.H.obj l _ jO;rw [gG] at d1;cases d1;obtain ⟨ep,Cx⟩:=cg.loop jO gG d3 .busy cF;have CK:(Instr.beginRound b).run P bH=.ok () (bH.putObj b (.loop { oN with state:=.busy,pending:=cF })):=by
  rw [run_beginRound d3 d4]
  have:({ oN with state:=.busy,pending:=cF }:Loop)={ oN with state:=.busy }:=by rw [←d5]
  rw [this]
 refine ⟨_,CK,?_⟩;refine wpIn_mono (Q:=fun cX aM w'=>(∀ t,cX≠Exit.goto t)∧roundPost P b (fV B U J S w (lj l s2.H fH dG fS fE fF fD e).2 (lj l s2.H fH dG fS fE fF fD e).1) cX aM w') ?_ (fun e a w h=>h.2);refine nx bw et cq 0 _ _ _ af bb _ _ B w.heap.size c2 _ b5 a8 _ (.inr ⟨l,b,rfl,gG,rfl⟩) (fun l a w aO=>aO.1 l rfl) Cx fun aI bY ai=>?_;obtain ⟨br,ck,bL,cp,mF,yR⟩:=ai;have gH:ck[l]?=some b:=cp _ _ gG;obtain ⟨_,_,au,jo,f1,f2,f3,f4,f5,_⟩:=yR.H.obj l _ gg;rw [gH] at f1;cases f1;have lY:bj U S w br bL bY:=((dy.trans aQ).trans ep).trans mF;have fin:∀ (st:LoopState) (jump:Option Code),a1 B U J S w (s2.H.set l (.loop st jump fH dG fS fE fF fD)) (.bool jump.isNone) (.bool jump.isNone) (bY.putObj b (.loop { jo with state:=st,pending:=jump })):=fun st jump=>by
  obtain ⟨Ck,Cy⟩:=yR.loop gg gH f3 st jump;exact ⟨br,ck,bL,aJ.trans cp,lY.trans Ck,Cy.H,.bool _,aW.b4 rfl⟩
 refine ⟨fun t ay=>(by cases e <;> cases ay),?_⟩;cases e with
 | normal=>exact ⟨_,_,run_endRound none f3,fin .ready none⟩
 | ret=>exact ⟨_,_,run_endRound (some .ret) f3,fin .done (some .ret)⟩
 | exit id=>exact ⟨_,_,run_endRound (some (.exit id)) f3,fin .done (some (.exit id))⟩
theorem Ca (et:P.follows .mixedOrders=true) (A:FuncId→dd) {tab:b8} (ay:dc P tab)
  (bQ : ∀ k f c, (A k).bad = false → P.funcs[k]? = some f → f.body = some c → codeOk (A k) c = true ∧ f.name ≠ "runtime.NumGoroutine") : ∀ d, dc P (f_ P A tab d)
 | 0=>⟨fun h=>by simp [f_] at h,fun h=>by simp [f_] at h⟩
 | d+1=>by
   have bw:=Ca et A ay bQ d;have yO:∀ {k:FuncId} {args:List I} {H:List ar} {lo:Nat} {r:I} {H':List ar},f_ P A tab (d+1) (.fn k) args H lo=some (r,H')→tab (.fn k) args H lo=some (r,H') ∨
     ∃ f c e s vs,(A k).bad=false∧P.funcs[k]?=some f∧f.body=some c∧exec P (A k) (f_ P A tab d) k lo d none c 0 ⟨args++List.replicate (f.ntmps-args.length) .junk,H⟩=some (e,s)∧(e=.normal∨e=.ret) ∧
       fo P s.H s.T f.results.toList=some vs∧r=hl vs∧H'=s.H:=fun {k args H lo r H'} h=>by
    simp only [f_] at h;split at h
    ·rename_i x ak;cases h;exact .inl ak
    ·right;split at h
     ·simp at h
     rename_i ny;split at h
     ·rename_i f aP;split at h
      ·rename_i c ag;split at h
       ·rename_i s ai;simp only [su,Prod.mk.injEq] at h;obtain ⟨vs,aj,rfl,rfl⟩:=h;exact ⟨f,c,_,s,vs,ny,aP,ag,ai,.inl rfl,aj,rfl,rfl⟩
       ·rename_i s ai;simp only [su,Prod.mk.injEq] at h;obtain ⟨vs,aj,rfl,rfl⟩:=h;exact ⟨f,c,_,s,vs,ny,aP,ag,ai,.inr rfl,aj,rfl,rfl⟩
       ·simp at h
      ·simp at h
     ·simp at h
   have BF:∀ {l:Nat} {args:List I} {H:List ar} {lo:Nat} {r:I} {H':List ar},f_ P A tab (d+1) (.yield l) args H lo=some (r,H') →
     ∃ j7 fn T bo as cq an ba s1 cF gb dU dQ gC gD gA e s2 j8 fH dG fS fE fF fD,lo≤l∧H[l]?=some (.loop .ready j7 fn T bo as cq an)∧iq bo args T=some ba ∧
       exec P an (f_ P A tab d) fn lo d (some l) as 0 ⟨ba,H⟩=some (.normal,s1)∧s1.H[l]?=some (.loop .ready cF gb dU dQ gC gD gA) ∧
       exec P an (f_ P A tab d) gb lo d (some l) cq 0 ⟨s1.T,s1.H.set l (.loop .busy cF gb dU dQ gC gD gA)⟩=some (e,s2)∧s2.H[l]?=some (.loop .busy j8 fH dG fS fE fF fD) ∧
       (r,H')=lj l s2.H fH dG fS fE fF fD e:=fun {l args H lo r H'} h=>by
    simp only [f_] at h;split at h
    ·simp at h
    ·rename_i bC;split at h
     ·rename_i j7 fn T bo as cq an ao;split at h
      ·rename_i ba eG;split at h
       ·rename_i s1 ad;split at h
        ·rename_i cF gb dU dQ gC gD gA jO;split at h
         ·rename_i e s2 af;split at h
          ·rename_i j8 fH dG fS fE fF fD gg;refine ⟨j7,fn,T,bo,as,cq,an,ba,s1,cF,gb,dU,dQ,gC,gD,gA,e,s2,j8,fH,dG,fS,fE,fF,fD,by omega,ao,eG,ad,jO,af,gg,?_⟩;cases e <;> simp only [Option.some.injEq] at h <;> exact h.symm
          ·simp at h
         ·simp at h
        ·simp at h
       ·simp at h
      ·simp at h
     ·simp at h
   refine ⟨fun {b0 args H lo r H'} h=>?_,fun {b0 args H lo r H'} h=>?_⟩
   ·cases b0 with
    | fn k =>
      rcases yO h with h | ⟨f,c,e,s,vs,_,_,_,aG,_,_,_,rfl⟩
      ·exact ay.low h
      ·exact o7 bw c 0 _ e s aG
    | yield l =>
      obtain ⟨j7,fn,T,bo,as,cq,an,ba,s1,cF,gb,dU,dQ,gC,gD,gA,e,s2,j8,fH,dG,fS,fE,fF,fD,bC,ao,eG,ad,jO,af,gg,aj⟩:=BF h;have dg:=o7 bw as 0 _ _ s1 ad;have dh:=o7 bw cq 0 _ e s2 af;(have jZ:bc lo s2.H (lj l s2.H fH dG fS fE fF fD e).2:=by cases e <;> exact bc.set _ _ bC);rw [←aj] at jZ;exact (dg.trans ((bc.set s1.H _ bC).trans dh)).trans jZ
   ·cases b0 with
    | fn k =>
      rcases yO h with h | ⟨f,c,e,s,vs,ny,aP,ag,aG,he,aj,rfl,rfl⟩
      ·exact ay.ok h
      obtain ⟨bE,bR⟩:=bQ k f c ny aP ag;exact ⟨⟨f,aP,by simp [ag],bR⟩,fun B U J S w xs ah _ ae=>B_ et bw aP ag bE aG he aj ah ae⟩
    | yield l =>
      obtain ⟨j7,fn,T,bo,as,cq,an,ba,s1,cF,gb,dU,dQ,gC,gD,gA,e,s2,j8,fH,dG,fS,fE,fF,fD,bC,ao,eG,ad,jO,af,gg,aj⟩:=BF h;intro B U J S w xs b ah _ ae ag;have:=B' et bw ao eG ad jO af gg ah ae ag;rw [←aj] at this;exact this
end
end Go.Proofs.YtfakoboiahbhaaaGreat.Ab


namespace Go.Proofs.YtfakoboiahbhaaaGreat.Ab
open Go
def Sem (P:Program) (b0:fb) (args:List I) (H:List ar) (lo:Nat) (r:I) (H':List ar):Prop:=bc lo H H'∧jt P b0 args H H' r
def lE (P:Program) (k:FuncId) (args:List I) (v:I):Prop:=Sem P (.fn k) args [] 0 v []∧cj 8 v=true
abbrev dk:=List (FuncId×List I×I)
def hx (P:Program) (acc:dk):Prop:=(∀ p∈acc,lE P p.1 p.2.1 p.2.2)∧∀ p∈acc,∀ q∈acc,p.1=q.1→p.2.1=q.2.1→p.2.2=q.2.2
def hT (C:b8) (acc:dk):Prop:=∀ p∈acc,∃ r a4,C (.fn p.1) p.2.1 [] 0=some (r,a4)∧bJ a4 0 a4.length 0 8 r=some p.2.2
section
variable {P:Program}
theorem o0 {C:b8} (h:∀ b0 args H lo r H',C b0 args H lo=some (r,H')→Sem P b0 args H lo r H'):dc P C :=
 ⟨fun al=>(h _ _ _ _ _ _ al).1,fun al=>(h _ _ _ _ _ _ al).2⟩
theorem dc.Ha {C:b8} (bw:dc P C) {b0:fb} {args:List I} {H:List ar} {lo:Nat} {r:I} {H':List ar} (h:C b0 args H lo=some (r,H')):Sem P b0 args H lo r H':=⟨bw.low h,bw.ok h⟩
theorem yz:dc P (fun _ _ _ _=>none):=o0 fun _ _ _ _ _ _ h=>by cases h
noncomputable def k2 (b0:fb) (args:List I) (H:List ar) (lo:Nat) (r:I) (H':List ar):b8:=fun t a h l =>
 open Classical in if t=b0∧a=args∧h=H∧l=lo then some (r,H') else none
theorem Ev (b0:fb) (args:List I) (H:List ar) (lo:Nat) (r:I) (H':List ar):k2 b0 args H lo r H' b0 args H lo=some (r,H'):=by simp [k2]
theorem Ew {b0:fb} {args:List I} {H:List ar} {lo:Nat} {r:I} {H':List ar} (h:Sem P b0 args H lo r H'):dc P (k2 b0 args H lo r H') :=
 o0 fun t a aY l r' a4 al=>by
  unfold k2 at al;split at al
  ·rename_i he;obtain ⟨rfl,rfl,rfl,rfl⟩:=he;cases al;exact h
  ·cases al
theorem zP {f:I→Option I}:∀ {l:List I},(∀ u∈l,f u=some u)→ec f l=some l
 | [],_=>rfl
 | u::l,h=>by
   simp only [ec,h u (by simp),zP (l:=l) fun v ae=>h v (by simp [ae]),sD]
theorem o' {H:List ar} {lo id0 n:Nat}:∀ {d:Nat} {v:I},cj d v=true→bJ H lo id0 n d v=some v
 | 0,v,h=>by simp [cj] at h
 | d+1,v,h=>by
   have key:∀ {l:List I},l.all (cj d)=true→ec (bJ H lo id0 n d) l=some l:=fun h=>zP fun u hu=>o' (by rw [sR] at h;exact h u hu);cases v <;> simp only [cj,ua] at h <;> try rfl
   case ax cells len c=>simp only [bJ,key h,sD]
   case bU cells=>simp only [bJ,key h,sD]
   case agg cs=>simp only [bJ,key h,sD]
   case tuple cs=>simp only [bJ,key h,sD]
   case func f a b =>
    simp only [sO] at h;simp only [bJ,key h.1,key h.2]
theorem oS {acc:dk} (h:hx P acc):∃ C,dc P C∧hT C acc:=by
 classical
 obtain ⟨ad,af⟩:=h;have key:∀ x:fb×List I×List ar×Nat,∃ o:Option (I×List ar),(∀ r H',o=some (r,H')→Sem P x.1 x.2.1 x.2.2.1 x.2.2.2 r H') ∧
   ∀ p∈acc,x=(.fn p.1,p.2.1,[],0)→∃ r a4,o=some (r,a4)∧bJ a4 0 a4.length 0 8 r=some p.2.2:=fun x=>by
  by_cases ak:∃ p∈acc,x=(.fn p.1,p.2.1,[],0)
  ·obtain ⟨p,aB,rfl⟩:=ak;obtain ⟨q1,aX⟩:=ad p aB;refine ⟨some (p.2.2,[]),fun r' H' e=>by cases e;exact q1,fun q a0 e=>?_⟩;simp only [Prod.mk.injEq,fb.fn.injEq] at e;exact ⟨p.2.2,[],rfl,by rw [o' aX,af p aB q a0 e.1 e.2.1]⟩
  ·exact ⟨none,(fun r H' e=>nomatch e),fun p aB e=>absurd ⟨p,aB,e⟩ ak⟩
 let C:b8:=fun t a H l=>Classical.choose (key (t,a,H,l))
 have bw:∀ t a H l,_:=fun t a H l=>vX (key (t,a,H,l));exact ⟨C,o0 fun t a H l r H' al=>(bw t a H l).1 r H' al,fun p aB=>(bw _ _ _ _).2 p aB rfl⟩
def yj (o:Oper) (s:a7) (K:a7→Prop):Prop :=
 ∃ it r m since seen es clock,o.op=.next it false∧o.guard=none∧Ab.aA s.T it=.ptr r 0∧s.H[r]?=some (.iter m since seen clock)∧s.H[m]?=some (.map es clock)∧since≤clock∧(∀ e∈es,e.1<since) ∧
   ((∀ e∈es,e.1∈seen)→K ⟨put s.T o.dst (.tuple [.bool false]),s.H⟩) ∧
   ∀ e∈es,e.1 ∉ seen→K ⟨put s.T o.dst (.tuple [.bool true,e.2.1,e.2.2]),s.H.set r (.iter m since (seen++[e.1]) clock)⟩
section
variable {B N:Nat} {J:List Nat} {w:World} {H:List ar} {U:Nat→Option aH} {S:Nat→Nat→Prop}
theorem DL (ah:aK B U J S w H) {id m since since' kf stepped':Nat} {seen seen':List Nat} (aE:H[id]?=some (.iter m since seen kf)) {b ee:Nat}
  (aC:J[id]?=some b) (aI:U b=some (.obj id)) (aR:J[m]?=some ee) (bd:∀ o,¬ S b o) :
  bj U S w U S (w.putObj b (.mapIter (some ee) since' seen'.toArray stepped'))∧aK B U J S (w.putObj b (.mapIter (some ee) since' seen'.toArray stepped')) (H.set id (.iter m since' seen' stepped')):=by
 have hB:∀ au o,S au o→au≠b:=fun au o ai e=>bd o (e ▸ ai);have ag:=(ah.base b _ aI).2;have aA:bj U S w U S (w.putObj b (.mapIter (some ee) since' seen'.toArray stepped')) :=
  ⟨rfl,rfl,rfl,by simp,fun au _ aN=>World.putObj_heap_other (fun e=>by subst e;rw [aI] at aN;cases aN),fun au o ai=>⟨ai,oc (hB au o ai)⟩,fun au o ai=>.inl ai,fun au h=>.inl h⟩
 refine ⟨aA,by simpa using ah.cE,fun bA o aq=>?_,fun au o ai=>?_,fun au l h=>by simpa using ah.base au l h,by simpa using ah.cW⟩
 ·by_cases g4:bA=id
  ·subst g4;rw [sI (sv.1 aE).1] at aq;cases aq;exact ⟨b,ee,aC,aI,aR,World.putObj_heap_same ag,bd⟩
  ·rw [sJ (fun e=>g4 e.symm)] at aq;refine (ah.obj bA o aq).frame (Ext.refl J) aA.set fun au cu bu jN=>?_;have bO:au≠b:=fun e=>by
    subst e;rw [aI] at bu;cases bu;rcases jN with h | ⟨j,h⟩
    ·cases h;exact g4 rfl
    ·cases h
   exact ⟨bu,World.putObj_heap_other bO,fun o ai=>ai⟩
 ·obtain ⟨v,ae⟩:=ah.cd au o ai;exact ⟨v,(oc (hB au o ai)).trans ae⟩
theorem Er {F:Fence} (bF:en F) {o:Oper} {s:a7} {K':a7→Prop} (h:yj o s K') {a:Act} (aL:cw B N U J S w s a)
  {K:Act→World→Prop} {Q:Exit→Act→World→Prop} (fI:∀ aF,K' aF→∀ aM w',Step B N U J S w aF aM w'→K aM w'):o.wpIn F 0 P a w K Q:=by
 obtain ⟨it,r,m,since,seen,es,clock,aD,aO,C8,aj,hm,pV,hold,df,aJ⟩:=h;have jR:∀ c,o.op≠.defer c:=fun c al=>by rw [aD] at al;cases al
 refine ⟨fun f _=>bF.fn f,?_⟩;rw [Oper.semAt_eq _ _ _ jR];have mc:=aL.aA it;rw [C8] at mc;have gF:=mu aL.H;obtain ⟨b,ee,aC,aI,aR,bl,bd⟩:=gF.obj r _ aj;obtain ⟨GD,bz,a',bb,bt,b9,dY,fZ⟩:=gF.obj m _ hm;rw [aR] at a';cases a';generalize ae:a.eval it=v at mc;cases mc with
 | ptr _ _ au e4 =>
   rw [aC] at e4;cases e4;have CJ:∀ x∈bz.toList,x.born<since:=fun x ak=>by
    obtain ⟨j,aw⟩:=tE.1 ak;(have eg:bz[j]?=some x:=by simpa using aw);(have aS:j<es.length:=by have:=(tt.1 eg).1;omega);rcases bI:es[j] with ⟨i,k,v⟩;(have he:es[j]?=some (i,k,v):=by rw [sK aS,bI]);rw [(fZ j i k v x he eg).1];exact hold (i,k,v) (sZ he)
   have done:∀ {r':I} {H':List ar} {v:Value} {w':World},a1 B (dp U) J S w H' r' v w'→K' ⟨put s.T o.dst r',H'⟩→K (a.put o.dst v) w':=fun {r' H' v w'} aB av=>by
    obtain ⟨az,bV,S',q1,aX,gf,_⟩:=ob o.dst aL aB .junk (fun _ _ _ _ _=>.junk _);exact fI _ av _ _ ⟨az,bV,S',q1,aX,gf⟩
   rcases run_next_at (P:=P) w o.type b ee since clock seen.toArray bz clock bl bt CJ pV with ⟨aN,dN⟩ | ⟨x,ak,bH,zn,dN⟩
   ·(have pU:(Go.execOp a.eval o).run P w=.ok (.value (.tuple #[.bool false])) w:=by simp [Go.execOp,aD,ae,dN]);rw [pU];refine done (a1.same gF (.tuple _ _ rfl (by simp [I.plain]) fun j u bn hu bf=>?_) rfl) (df fun e he=>?_)
    ·match j with
     | 0=>simp at hu bf;subst hu;subst bf;exact .bool _
     | j+1=>simp at hu
    ·obtain ⟨j,aw⟩:=tE.1 he;have aS:j<es.length:=(sv.1 aw).1;have ak:bz[j]?=some bz[j]:=sS (by omega);have ag:=(fZ j e.1 e.2.1 e.2.2 _ aw ak).1;have mb:leftOf bz seen.toArray=#[]:=Array.eq_empty_of_size_eq_zero aN;unfold leftOf at mb;rw [Array.filter_eq_empty_iff] at mb;have:=mb bz[j] (by simp);simpa [ag] using this
   ·have pU:(Go.execOp a.eval o).run P w=.ok (.value (.tuple #[.bool true,x.key,x.val])) (bH.putObj b (.mapIter (some ee) since (seen++[x.born]).toArray clock)):=by
     simp [Go.execOp,aD,ae,dN,Go.ChangeMaps.setBlock,World.putObj]
    rw [pU];have nS:x∈bz.toList∧x.born ∉ seen:=by
     unfold leftOf at ak;simpa using ak
    obtain ⟨j,aw⟩:=tE.1 nS.1;(have eg:bz[j]?=some x:=by simpa using aw);(have aS:j<es.length:=by have:=(tt.1 eg).1;omega);rcases bI:es[j] with ⟨i,k,v⟩;(have he:es[j]?=some (i,k,v):=by rw [sK aS,bI]);obtain ⟨d1,d2,d3,d4,d5⟩:=fZ j i k v x he eg;have kF:(i,k,v)∈es:=sZ he;refine done (r':=.tuple [.bool true,k,v]) (H':=s.H.set r (.iter m since (seen++[i]) clock)) ?_ (aJ _ kF (by rw [←d1];exact nS.2));(have hw:aK B (dp U) J S bH s.H:=by rcases zn with rfl | rfl;exact gF;exact mr gF);(have pv:bj (dp U) S w (dp U) S bH:=by rcases zn with rfl | rfl;exact bj.refl _ _ _;exact kr _ _ _);refine a1.after (Ext.refl J) pv ?_;obtain ⟨aA,b_⟩:=DL hw (since':=since) (stepped':=clock) (seen':=seen++[i]) aj aC aI aR bd;rw [d1];refine ⟨dp U,J,S,Ext.refl J,aA,b_,.tuple _ _ rfl (fun u hu=>?_) (fun j u bn hu bf=>?_),aW.b4 rfl⟩
    ·simp only [sL,List.not_mem_nil,or_false] at hu;rcases hu with rfl | rfl | rfl
     ·rfl
     ·exact d2
     ·exact d4
    ·match j with
     | 0=>simp at hu bf;subst hu;subst bf;exact .bool _
     | 1=>simp at hu bf;subst hu;subst bf;exact (d3.mono (Ext.refl J) pv.set).mono (Ext.refl J) aA.set
     | 2=>simp at hu bf;subst hu;subst bf;exact (d5.mono (Ext.refl J) pv.set).mono (Ext.refl J) aA.set
     | j+3=>simp at hu
end
end
end Go.Proofs.YtfakoboiahbhaaaGreat.Ab


namespace Go.Proofs.YtfakoboiahbhaaaGreat.Ab
open Go
section
variable {P:Program} {B N:Nat} {J:List Nat} {w:World} {U:Nat→Option aH} {S:Nat→Nat→Prop}
theorem x1 {C:b8} {lo:Nat} {ops:Array Oper} {an:List b3} {i:Nat} {cO:Oper} (hi:ops[i]?=some cO) {R:Nat→Nat→Prop} {aF:a7}:∀ (l:List Nat) (s:a7),l.Pairwise R→i∈l →
  (∀ j∈l,R j i→∀ c4,ops[j]?=some c4→indep ops c4 (an.getD j {}) cO (an.getD i {})=true)→cv P C lo ops an l s=some aF →
  ∃ s1,dC P C lo ops cO (an.getD i {}) s=some s1∧cv P C lo ops an (l.erase i) s1=some aF
 | [],s,_,h,_,_=>by simp at h
 | j::r,s,aB,hm,jK,h=>by
   by_cases g7:j=i
   ·subst g7;simp only [cv,hi,sE] at h;obtain ⟨s1,ad,af⟩:=h;exact ⟨s1,ad,by simpa using af⟩
   ·have aj:i∈r:=by
     rcases sL.1 hm with h | h
     ·exact absurd h.symm g7
     ·exact h
    have aS:R j i:=(tK.1 aB).1 i aj;have he:(j::r).erase i=j::r.erase i:=by
     rw [List.erase_cons];simp [g7]
    rw [he];simp only [cv] at h ⊢;cases aw:ops[j]? with
    | none =>
      simp only [aw] at h;exact x1 hi r s (tK.1 aB).2 aj (fun k av=>jK k (by simp [av])) h
    | some c4 =>
      simp only [aw,sE] at h;obtain ⟨s1,ad,af⟩:=h;obtain ⟨s2,aJ,aQ⟩:=x1 hi r s1 (tK.1 aB).2 aj (fun k av=>jK k (by simp [av])) af;obtain ⟨di,q1,aX⟩:=Bl (jK j (by simp) aS c4 aw) ad aJ;exact ⟨di,q1,by dsimp only;rw [aX];exact aQ⟩
def c7 (O:List Nat) (listed:Array Bool):List Nat:=O.filter fun i=>!listed.getD i true
theorem At {O:List Nat} (l4:O.Nodup) {i:Nat} {listed:Array Bool}:c7 O (listed.setIfInBounds i true)=(c7 O listed).erase i:=by
 have jR:(c7 O listed).Nodup:=l4.filter _;rw [jR.erase_eq_filter];simp only [c7,List.filter_filter];congr 1;funext j;by_cases g5:j=i
 ·subst g5;rcases tq j listed.size with h | h
  ·simp [sT,h]
  ·simp [sT,h]
 ·have:(listed.setIfInBounds i true).getD j true=listed.getD j true:=by
   simp only [sT];rw [vR (Ne.symm g5)]
  rw [this];simp [g5]
def fp (n p q:Nat):List Nat:=(List.range n).map fun i=>if i=p then q else if i=q then p else i
def lG (p q j i:Nat):Prop:=(j<i∧¬ (j=p∧i=q))∨(j=q∧i=p)
theorem x9 {n p:Nat} (a0:p+1<n):(fp n p (p+1)).Pairwise (lG p (p+1)):=by
 unfold fp;rw [vl];refine List.Pairwise.imp (fun {a b} h=>?_) vk;unfold lG;split <;> split <;> (try split) <;> (try split) <;> omega
theorem x8 {n p:Nat} (a0:p+1<n):(fp n p (p+1)).Nodup:=by
 unfold fp List.Nodup;rw [vl];refine List.Pairwise.imp (fun {a b} h=>?_) uD;split <;> split <;> (try split) <;> (try split) <;> omega
theorem m7 {n p:Nat} (a0:p+1<n) (i:Nat):i∈fp n p (p+1)↔i<n:=by
 unfold fp;rw [sM];constructor
 ·rintro ⟨a,cc,rfl⟩;have:=sX.1 cc;split <;> (try split) <;> omega
 ·intro h;refine ⟨if i=p then p+1 else if i=p+1 then p else i,sX.2 ?_,?_⟩
  ·split <;> (try split) <;> omega
  ·by_cases ad:i=p
   ·subst ad;simp
   ·by_cases af:i=p+1
    ·subst af;simp
    ·simp [ad,af]
theorem BU {F:Fence} (bF:en F) {C:b8} (bw:dc P C) {lo:Nat} {ops:Array Oper} {an:List b3} {p:Nat} (a0:p+1<ops.size) (a3:nt ops an p (p+1)=true) {Q:Exit→Act→World→Prop} {s1 s2:a7} :
  ∀ (fuel:Nat) (listed:Array Bool) (s:a7) (a:Act) (w:World) (U:Nat→Option aH) (J:List Nat) (S:Nat→Nat→Prop),(c7 (List.range ops.size) listed).length≤fuel→lS ops listed →
    ((cv P C lo ops an (c7 (List.range ops.size) listed) s=some s1∧cv P C lo ops an (c7 (fp ops.size p (p+1)) listed) s=some s2∧listed.getD p true=false∧listed.getD (p+1) true=false) ∨
      (cv P C lo ops an (c7 (List.range ops.size) listed) s=some s1∧listed.getD p true=true)∨(cv P C lo ops an (c7 (fp ops.size p (p+1)) listed) s=some s2∧listed.getD (p+1) true=true)) →
    cw B N U J S w s a→(∀ aF,aF=s1∨aF=s2→∀ aM w',Step B N U J S w aF aM w'→Q .normal aM w')→wpAnyIn F 0 P .any ops Q fuel listed a w:=by
 have cU:∀ j c4,ops[j]?=some c4→((hf ops.toList []).getD j 0=mN (hf ops.toList []) c4)∧(∀ e∈c4.after,Region.binds .any e=true→e.on<j) ∧
   ∀ i cO,i<j→ops[i]?=some cO→((hf ops.toList []).getD j 0).testBit i=true∨indep ops cO (an.getD i {}) c4 (an.getD j {})=true∨(i=p∧j=p+1):=fun j c4 aw=>by
  have aS:j<ops.size:=(tt.1 aw).1;simp only [nt,z6,sR,sX] at a3;have h:=a3 j aS;rw [aw] at h;simp only [sO,beq_iff_eq,sR,sX] at h;obtain ⟨⟨ad,af⟩,aG⟩:=h;refine ⟨ad,fun e he ag=>?_,fun i cO g5 hi=>?_⟩
  ·have:=af e (by simpa using he);simp only [ag,Bool.not_true,Bool.false_or] at this;simpa [tF] using this
  ·have a6:=aG i g5;rw [hi] at a6;simp only [uc,sO] at a6;rcases a6 with (a6 | a6) | a6
   ·exact .inl a6
   ·exact .inr (.inl a6)
   ·exact .inr (.inr ⟨tw a6.1,tw a6.2⟩)
 have xI:∀ (listed:Array Bool),lS ops listed→∀ (n k:Nat) ok,k≤n→ops[k]?=some ok→(∀ e∈ok.after,Region.binds .any e=true→listed.getD e.on false=true) →
   ∀ j,((hf ops.toList []).getD k 0).testBit j=true→listed.getD j false=true:=by
  intro listed cB n
  induction n with
  | zero =>
    intro k ok av aq eT j aw;rw [(cU k ok aq).1] at aw;rcases mO _ j _ _ aw with h | ⟨e,he,ag,h⟩
    ·simp at h
    ·have:=(cU k ok aq).2.1 e (by simpa using he) ag;omega
  | succ n a_ =>
    intro k ok av aq eT j aw;rw [(cU k ok aq).1] at aw;rcases mO _ j _ _ aw with h | ⟨e,he,ag,h⟩
    ·simp at h
    ·(have jI:e∈ok.after:=by simpa using he);have aS:=(cU k ok aq).2.1 e jI ag;have h7:=eT e jI ag;rcases h with h | rfl
     ·have kD:=(tt.1 aq).1;have mm:ops[e.on]?=some ops[e.on]:=sS (by omega);have pS:listed.getD e.on true=true:=by
       rcases tq e.on listed.size with aY | aY
       ·simp [sT,aY] at h7 ⊢;exact h7
       ·simp [sT,aY] at h7
      exact a_ e.on _ (by omega) mm (cB e.on _ mm pS) j h
     ·exact h7
 have iN:∀ (O:List Nat) (listed:Array Bool) (i:Nat),i∈c7 O listed↔i∈O∧listed.getD i true=false:=fun O listed i=>by
  simp [c7]
 have mb:∀ (O:List Nat) (listed:Array Bool),(∀ i,i∈O↔i<ops.size)→c7 (List.range ops.size) listed=[]→c7 O listed=[]:=fun O listed l4 h=>by
  rw [vj];intro i hi;have:=(iN _ _ _).1 hi;have af:i∈c7 (List.range ops.size) listed:=(iN _ _ _).2 ⟨sX.2 ((l4 i).1 this.1),this.2⟩;rw [h] at af;simp at af
 have yZ:∀ (listed:Array Bool) (s:a7),c7 (List.range ops.size) listed=[] →
   ((cv P C lo ops an (c7 (List.range ops.size) listed) s=some s1∧cv P C lo ops an (c7 (fp ops.size p (p+1)) listed) s=some s2∧listed.getD p true=false∧listed.getD (p+1) true=false) ∨
     (cv P C lo ops an (c7 (List.range ops.size) listed) s=some s1∧listed.getD p true=true)∨(cv P C lo ops an (c7 (fp ops.size p (p+1)) listed) s=some s2∧listed.getD (p+1) true=true))→s=s1∨s=s2:=fun listed s h hinv=>by
  have af:=mb _ listed (m7 a0) h;rw [h,af] at hinv;simp only [cv,Option.some.injEq] at hinv;rcases hinv with h | h | h
  ·exact .inl h.1
  ·exact .inl h.1
  ·exact .inr h.1
 have front:∀ (O:List Nat) (R:Nat→Nat→Prop),O.Pairwise R→O.Nodup→(∀ i,i∈O↔i<ops.size)→∀ (listed:Array Bool) (s aF:a7) (i:Nat) (cO:Oper),lS ops listed→ops[i]?=some cO→listed.getD i true=false →
   (∀ e∈cO.after,Region.binds .any e=true→listed.getD e.on false=true)→(∀ j,R j i→listed.getD j true=false→j<i∧¬ (j=p∧i=p+1))→cv P C lo ops an (c7 O listed) s=some aF →
   ∃ di,dC P C lo ops cO (an.getD i {}) s=some di∧cv P C lo ops an (c7 O (listed.setIfInBounds i true)) di=some aF:=by
  intro O R CD CC CB listed s aF i cO cB eh ad eT jD dN;have aS:=(tt.1 eh).1
  obtain ⟨di,q1,aX⟩:=x1 eh (R:=R) (c7 O listed) s (CD.filter _) ((iN _ _ _).2 ⟨(CB i).2 aS,ad⟩) (fun j aw g7 c4 pR=>by
   have dA:=((iN _ _ _).1 aw).2;obtain ⟨jL,bO⟩:=jD j g7 dA;rcases (cU i cO eh).2.2 j c4 jL pR with h | h | h
   ·have:=xI listed cB i i cO (sB _) eh eT j h;rcases tq j listed.size with aY | aY
    ·simp [sT,aY] at dA this;rw [this] at dA;simp at dA
    ·simp [sT,aY] at dA
   ·exact h
   ·exact absurd h bO) dN
  exact ⟨di,q1,by rw [At CC];exact aX⟩
 intro fuel
 induction fuel with
 | zero =>
   intro listed s a w U J S pC cB hinv aL bp;have h6:c7 (List.range ops.size) listed=[]:=List.length_eq_zero_iff.1 (by omega);refine ⟨?_,bp s (yZ listed s h6 hinv) a w (Step.here aL)⟩;rw [vj];intro i hi;obtain ⟨ad,o,aq,_⟩:=mem_ready.1 hi
   have:i∈c7 (List.range ops.size) listed:=(iN _ _ _).2 ⟨sX.2 (tt.1 aq).1,by simp [ad]⟩
   rw [h6] at this;simp at this
 | succ fuel a_ =>
   intro listed s a w U J S pC cB hinv aL bp;refine ⟨fun aj=>?_,fun i hi=>?_⟩
   ·have h6:c7 (List.range ops.size) listed=[]:=by
     rw [vj];intro i
     induction i using Nat.strongRecOn with
     | _ i xj =>
       intro hi;obtain ⟨aS,dA⟩:=(iN _ _ _).1 hi;have aS:=sX.1 aS;have aq:ops[i]?=some ops[i]:=sS aS
       have:i∈Region.ready .any ops listed:=mem_ready.2 ⟨by simpa using dA,_,aq,fun e he ag=>by
        have h5:=(cU i _ aq).2.1 e he ag;have kH:=xj e.on h5;have ao:listed.getD e.on true=true:=by
         cases ak:listed.getD e.on true with
         | true=>rfl
         | false=>exact absurd ((iN _ _ _).2 ⟨sX.2 (by omega),ak⟩) kH
        rcases tq e.on listed.size with aY | aY
        ·simp [sT,aY] at ao ⊢;exact ao
        ·rcases tq i listed.size with l3 | l3
         ·omega
         ·simp [sT,l3] at dA⟩
       rw [aj] at this;simp at this
    exact bp s (yZ listed s h6 hinv) a w (Step.here aL)
   ·obtain ⟨ad,cO,eh,eT⟩:=mem_ready.1 hi;have aS:=(tt.1 eh).1;(have iH:listed.getD i true=false:=by simpa using ad);have kF:i∈c7 (List.range ops.size) listed:=(iN _ _ _).2 ⟨sX.2 aS,iH⟩;have ky:∀ i,i∈List.range ops.size↔i<ops.size:=fun i=>sX;have bP:i<listed.size:=by
     rcases tq i listed.size with aY | aY
     ·exact aY
     ·simp [sT,aY] at iH
    have nP:(listed.setIfInBounds i true).getD i true=true:=by
     simp [sT,bP]
    have bO:∀ k,k≠i→(listed.setIfInBounds i true).getD k true=listed.getD k true:=fun k av=>by
     simp only [sT];rw [vR (Ne.symm av)]
    obtain ⟨di,q1,C7⟩:∃ di,dC P C lo ops cO (an.getD i {}) s=some di ∧
      ((cv P C lo ops an (c7 (List.range ops.size) (listed.setIfInBounds i true)) di=some s1∧cv P C lo ops an (c7 (fp ops.size p (p+1)) (listed.setIfInBounds i true)) di=some s2∧(listed.setIfInBounds i true).getD p true=false∧(listed.setIfInBounds i true).getD (p+1) true=false) ∨
        (cv P C lo ops an (c7 (List.range ops.size) (listed.setIfInBounds i true)) di=some s1∧(listed.setIfInBounds i true).getD p true=true)∨(cv P C lo ops an (c7 (fp ops.size p (p+1)) (listed.setIfInBounds i true)) di=some s2∧(listed.setIfInBounds i true).getD (p+1) true=true)):=by
     rcases hinv with ⟨cb,b6,er,iF⟩ | ⟨cb,b6⟩ | ⟨cb,b6⟩
     ·by_cases me:i=p
      ·obtain ⟨di,aJ,aQ⟩:=front _ _ vk uD ky listed s s1 i cO cB eh iH eT (fun j aw _=>⟨aw,by omega⟩) cb;exact ⟨di,aJ,.inr (.inl ⟨aQ,by rw [←me];exact nP⟩)⟩
      ·by_cases mf:i=p+1
       ·obtain ⟨di,aJ,aQ⟩:=front _ _ (x9 a0) (x8 a0) (m7 a0) listed s s2 i cO cB eh iH eT (fun j aw _=>by unfold lG at aw;omega) b6;exact ⟨di,aJ,.inr (.inr ⟨aQ,by rw [←mf];exact nP⟩)⟩
       ·obtain ⟨di,aJ,aQ⟩:=front _ _ vk uD ky listed s s1 i cO cB eh iH eT (fun j aw _=>⟨aw,by omega⟩) cb;obtain ⟨G',cp,mF⟩:=front _ _ (x9 a0) (x8 a0) (m7 a0) listed s s2 i cO cB eh iH eT (fun j aw _=>by unfold lG at aw;omega) b6;rw [aJ] at cp;cases cp;exact ⟨di,aJ,.inl ⟨aQ,mF,by rw [bO _ (Ne.symm me)];exact er,by rw [bO _ (Ne.symm mf)];exact iF⟩⟩
     ·obtain ⟨di,aJ,aQ⟩:=front _ _ vk uD ky listed s s1 i cO cB eh iH eT (fun j aw dA=>⟨aw,fun e=>by rw [e.1,b6] at dA;simp at dA⟩) cb;refine ⟨di,aJ,.inr (.inl ⟨aQ,?_⟩)⟩;by_cases me:p=i
      ·rw [me];exact nP
      ·rw [bO _ me];exact b6
     ·obtain ⟨di,aJ,aQ⟩:=front _ _ (x9 a0) (x8 a0) (m7 a0) listed s s2 i cO cB eh iH eT (fun j aw dA=>by
       unfold lG at aw;rcases aw with aw | ⟨rfl,_⟩
       ·exact aw
       ·rw [b6] at dA;simp at dA) cb
      refine ⟨di,aJ,.inr (.inr ⟨aQ,?_⟩)⟩;by_cases mf:p+1=i
      ·rw [mf];exact nP
      ·rw [bO _ mf];exact b6
    refine Bo bF bw eh q1 aL fun aM w' ai=>?_;obtain ⟨b5,c2,a8,aJ,aQ,cg⟩:=ai;refine a_ (listed.setIfInBounds i true) di aM w' b5 c2 a8 ?_ ?_ C7 cg fun aF g9 gW hs dO=>bp aF g9 gW hs (dO.trans aJ aQ)
    ·rw [At uD,List.length_erase_of_mem kF];omega
    ·intro k ok av ao e he ag;by_cases iL:k=i
     ·subst iL;rw [eh] at av;cases av;exact getD_set_true (eT e he ag)
     ·have:listed.getD k true=true:=by rw [getD_set_ne true (Ne.symm iL)] at ao;exact ao
      exact getD_set_true (cB k ok av this e he ag)
theorem ER {F:Fence} (bF:en F) (hm:P.follows .mixedOrders=true) {C:b8} (bw:dc P C) {lo id:Nat} {ops:Array Oper} {an:List b3} {p:Nat} (a0:p+1<ops.size) (a3:nt ops an p (p+1)=true) {Q:Exit→Act→World→Prop} {s s1 s2:a7} {a:Act}
  (ad:cv P C lo ops an (List.range ops.size) s=some s1) (af:cv P C lo ops an (fp ops.size p (p+1)) s=some s2) (aL:cw B N U J S w s a) (bp:∀ aF,aF=s1∨aF=s2→∀ aM w',Step B N U J S w aF aM w'→Q .normal aM w'):(Code.region id ops true).wpIn F 0 P Q a w:=by
 refine wpIn_region_any hm ?_;have hw:aK B U J S w.drew s.H:=mr aL.H;have aA:=kr U S w;have gf:cw B N U J S w.drew s a:=⟨⟨aL.T.len,fun i u v hu ae=>(aL.T.rel i u v hu ae).mono (Ext.refl J) aA.set,fun i u v hu ae=>(aL.T.own i u v hu ae).mono (Ext.refl J) aA.set fun b ag=>⟨ag,rfl,fun _ h=>h⟩⟩,hw,aL.M.aA aA⟩;have dA:∀ i,i<ops.size→(Array.replicate ops.size false).getD i true=false:=fun i hi=>by simp [sT,hi]
 have kL:∀ O:List Nat,(∀ i,i∈O↔i<ops.size)→c7 O (Array.replicate ops.size false)=O:=fun O l4=>by
  simp only [c7];rw [List.filter_eq_self];intro i hi;rw [dA i ((l4 i).1 hi)];rfl
 have ky:∀ i,i∈List.range ops.size↔i<ops.size:=fun i=>sX;refine BU bF bw a0 a3 (s1:=s1) (s2:=s2) (lo:=lo) ops.size (Array.replicate ops.size false) s a w.drew U J S (by rw [kL _ ky];simp) ?_ (.inl ⟨by rw [kL _ ky];exact ad,by rw [kL _ (m7 a0)];exact af,dA _ (by omega),dA _ a0⟩) gf fun aF g9 aM w' ai=>bp aF g9 aM w' (ai.trans (Ext.refl J) aA);intro k o aq ao;have aS:=(tt.1 aq).1;rw [dA k aS] at ao;cases ao
end
end Go.Proofs.YtfakoboiahbhaaaGreat.Ab


namespace Go.Proofs.YtfakoboiahbhaaaGreat.Ab
open Go
section
variable (P:Program)
def iy (lo:Nat) (ops:Array Oper) (o:Oper) (an:b3) (s:a7) (K:a7→Prop):Prop :=
 (∃ C aF,dc P C∧dC P C lo ops o an s=some aF∧K aF)∨yj o s K
def runN (lo:Nat) (ops:Array Oper):List Oper→List b3→a7→(a7→Prop)→Prop
 | [],_,s,K=>K s
 | o::r,as,s,K=>iy P lo ops o (as.headD {}) s fun aF=>runN lo ops r as.tail aF K
def E' (lo:Nat) (ops:Array Oper) (as:List b3) (s:a7) (K:a7→Prop):Prop :=
 ∃ acc aF,hx P acc∧(∀ C,dc P C→hT C acc→eR P C lo ops ops.toList as s=some aF)∧K aF
def Fa (lo:Nat) (ops:Array Oper) (as:List b3) (p:Nat) (s:a7) (K:a7→Prop):Prop :=
 ∃ acc s1 s2,hx P acc∧(∀ C,dc P C→hT C acc→cv P C lo ops as (List.range ops.size) s=some s1∧cv P C lo ops as (fp ops.size p (p+1)) s=some s2)∧K s1∧K s2
def fB (f:a7→(cA→a7→Prop)→Prop):Nat→a7→(cA→a7→Prop)→Prop
 | 0,_,_=>False
 | n+1,s,Q=>f s fun e aF=>match e with
   | .normal=>fB f n aF Q
   | e=>Q e aF
def c_ (A:dd) (fn:FuncId) (lo:Nat) (rl:Option Nat):Code→Nat→a7→(cA→a7→Prop)→Prop
 | .skip,_,s,Q=>Q .normal s
 | .region id ops draw,_,s,Q=>match kg A id draw with
   | some p=>Fa P lo ops (A.ops.getD id []) p (e5 A.ib id s) (Q .normal)
   | none=>match draw with
     | true=>E' P lo ops (A.ops.getD id []) (e5 A.ib id s) (Q .normal)
     | false=>runN P lo ops ops.toList (A.ops.getD id []) (e5 A.ib id s) (Q .normal)
 | .seq a b,a2,s,Q=>c_ A fn lo rl a a2 s fun e aF=>match e with
   | .normal=>c_ A fn lo rl b a2 aF Q
   | e=>Q e aF
 | .cond c a b,a2,s,Q=>(∃ t,aA s.T c=.bool t∧match t with
   | true=>c_ A fn lo rl a a2 s Q
   | false=>c_ A fn lo rl b a2 s Q)∨(aA s.T c=.dw∧c_ A fn lo rl a a2 s Q∧c_ A fn lo rl b a2 s Q)
 | .block id body,_,s,Q=>c_ A fn lo rl body id s fun e aF=>match e with
   | .exit bA=>if bA=id then Q .normal aF else Q (.exit bA) aF
   | e=>Q e aF
 | .loop body,a2,s,Q=>∃ n,fB (fun aF=>c_ A fn lo rl body a2 (e5 A.ia a2 aF)) n s Q
 | .exit id,_,s,Q=>Q (.exit id) s
 | .ret,_,s,Q=>Q .ret s
 | .scope body,a2,s,Q=>c_ A fn lo rl body a2 s Q
 | .label _,_,s,Q=>Q .normal s
 | .rangeFunc f params assign body,a2,s,Q=>∃ C e aF,dc P C∧exec P A C fn lo 0 rl (.rangeFunc f params assign body) a2 s=some (e,aF)∧Q e aF
 | _,_,_,_=>False
end
section
variable {P:Program} {B N:Nat} {J:List Nat} {w:World} {H:List ar} {U:Nat→Option aH} {S:Nat→Nat→Prop}
theorem Gc {F:Fence} (bF:en F) {lo:Nat} {ops:Array Oper} {o:Oper} {an:b3} {s:a7} {K':a7→Prop} (h:iy P lo ops o an s K') {a:Act} (aL:cw B N U J S w s a)
  {rest:List Oper} {Q:Exit→Act→World→Prop} (fI:∀ aF,K' aF→∀ aM w',Step B N U J S w aF aM w'→wpListIn F 0 P ops Q rest aM w'):wpListIn F 0 P ops Q (o::rest) a w:=by
 rcases h with ⟨C,aF,bw,h,av⟩ | h
 ·unfold dC at h;unfold wpListIn;split at h
  ·rename_i hw;rw [lx aL hw];simp only [if_true];exact x7 bF bw h aL fun aM w' ai=>fI aF av aM w' ai
  ·rename_i hw;rw [lx aL hw];simp only [ua,if_false];simp only [Option.some.injEq] at h;subst h;exact ⟨fun f _=>bF.fn f,fI _ av _ _ (Step.here (aL.skip o.dst))⟩
  ·simp at h
 ·have aO:o.guard=none:=by obtain ⟨_,_,_,_,_,_,_,_,aO,_⟩:=h;exact aO
  unfold wpListIn;have hw:Region.wanted o (yielded ops a.tmps)=true:=by unfold Region.wanted;rw [aO]
  rw [hw];simp only [if_true];exact Er bF h aL fun aF av aM w' ai=>fI aF av aM w' ai
theorem AQ {F:Fence} (bF:en F) {lo:Nat} {ops:Array Oper} {K':a7→Prop} {Q:Exit→Act→World→Prop} :
  ∀ (rest:List Oper) (as:List b3) (s:a7) (a:Act) (w:World) (U:Nat→Option aH) (J:List Nat) (S:Nat→Nat→Prop),runN P lo ops rest as s K'→cw B N U J S w s a →
    (∀ aF,K' aF→∀ aM w',Step B N U J S w aF aM w'→Q .normal aM w')→wpListIn F 0 P ops Q rest a w
 | [],as,s,a,w,U,J,S,h,aL,bp=>bp s h a w (Step.here aL)
 | o::rest,as,s,a,w,U,J,S,h,aL,bp=>by
   refine Gc bF h aL fun aF av aM w' ai=>?_;obtain ⟨b5,c2,a8,aJ,aQ,cg⟩:=ai;exact AQ bF rest as.tail aF aM w' b5 c2 a8 av cg fun Fm C9 gW hs dO=>bp Fm C9 gW hs (dO.trans aJ aQ)
theorem DZ {F:Fence} {c:Code} {f:a7→(cA→a7→Prop)→Prop} {cG:cA→a7→Prop} {Q:Exit→Act→World→Prop} {s:a7} {a:Act} {n:Nat}
  (h:fB f n s cG) (aL:cw B N U J S w s a) (bp:∀ e aF,cG e aF→∀ aM w',Step B N U J S w aF aM w'→Q (toExit e) aM w')
  (kA:∀ (s1:a7) (oO:cA→a7→Prop),f s1 oO→∀ (lF:Exit→Act→World→Prop) (aC:Act) (bH:World),(∀ l a w,lF (.goto l) a w→Q (.goto l) a w)→Step B N U J S w s1 aC bH →
   (∀ e s2,oO e s2→∀ aM w',Step B N U J S w s2 aM w'→lF (toExit e) aM w')→c.wpIn F 0 P lF aC bH):(Code.loop c).wpIn F 0 P Q a w:=by
 classical
 let Inv:Nat→Act→World→Prop:=fun n aM w'=>∃ s1,fB f n s1 cG∧Step B N U J S w s1 aM w'
 let gu:Act→World→Nat:=fun aM w'=>if h:∃ n,Inv n aM w' then Classical.choose (kt h) else 0
 have mA:∀ aM w',(∃ n,Inv n aM w')→Inv (gu aM w') aM w'∧∀ m,Inv m aM w'→gu aM w'≤m:=fun aM w' h=>by
  have:gu aM w'=Classical.choose (kt h):=by simp only [gu,dif_pos h]
  rw [this];exact vX (kt h)
 refine wpIn_loop (fun aM w'=>∃ n,Inv n aM w') gu ⟨n,s,h,Step.here aL⟩ fun aC bH kx=>?_;obtain ⟨⟨s1,ad,gJ⟩,_⟩:=mA aC bH kx;cases aN:gu aC bH with
 | zero=>rw [aN] at ad;exact ad.elim
 | succ m =>
   rw [aN] at ad;simp only [fB] at ad;refine kA s1 _ ad _ aC bH (fun l a w h=>h) gJ fun e s2 av aM w' dO=>?_;cases e with
   | normal =>
     have hinv:Inv m aM w':=⟨s2,av,dO⟩;exact ⟨⟨m,hinv⟩,Nat.lt_succ_of_le ((mA aM w' ⟨m,hinv⟩).2 m hinv)⟩
   | ret=>exact bp .ret s2 av aM w' dO
   | exit id=>exact bp (.exit id) s2 av aM w' dO
theorem By (et:P.follows .mixedOrders=true) {A:dd} {fn:FuncId} {lo:Nat} {rl:Option Nat} :
  ∀ (c:Code) (a2:Nat) (s:a7) (K:cA→a7→Prop),c_ P A fn lo rl c a2 s K→codeOk A c=true →
    ∀ (F:Fence) (Q:Exit→Act→World→Prop) (B N:Nat) (J:List Nat) (w:World) (U:Nat→Option aH) (S:Nat→Nat→Prop) (a:Act),jn F rl J→(∀ l a w,¬ Q (.goto l) a w) →
      cw B N U J S w s a→(∀ e aF,K e aF→∀ aM w',Step B N U J S w aF aM w'→Q (toExit e) aM w')→c.wpIn F 0 P Q a w:=by
 intro c
 induction c with
 | skip=>intro a2 s K h _ F Q B N J w U S a bF aO aL bp;exact wpIn_skip (bp _ _ h a w (Step.here aL))
 | label l=>intro a2 s K h _ F Q B N J w U S a bF aO aL bp;exact wpIn_label (bp _ _ h a w (Step.here aL))
 | ret=>intro a2 s K h _ F Q B N J w U S a bF aO aL bp;exact wpIn_ret (bp _ _ h a w (Step.here aL))
 | exit id=>intro a2 s K h _ F Q B N J w U S a bF aO aL bp;exact wpIn_exit (bp _ _ h a w (Step.here aL))
 | goto l=>intro a2 s K h;exact h.elim
 | refuse y=>intro a2 s K h;exact h.elim
 | region id ops draw =>
   intro a2 s K h bQ F Q B N J w U S a bF aO aL bp;simp only [c_] at h;simp only [codeOk,xF] at bQ;split at h
   ·rename_i p kO;rw [kO] at bQ;simp only [sO,tF] at bQ;cases draw with
    | false=>simp [kg] at kO
    | true =>
      obtain ⟨acc,s1,s2,hC,ak,C_,pI⟩:=h;obtain ⟨C,bw,cf⟩:=oS hC;obtain ⟨lz,lA⟩:=ak C bw cf;exact ER bF.lZ et bw bQ.1 bQ.2 lz lA (aL.cD _ _) fun aF g9 aM w' ai=>by
       rcases g9 with rfl | rfl
       ·exact bp _ _ C_ aM w' ai
       ·exact bp _ _ pI aM w' ai
   rename_i kO;rw [kO] at bQ;cases draw with
   | true =>
     obtain ⟨acc,aF,hC,ak,av⟩:=h;obtain ⟨C,bw,cf⟩:=oS hC;exact Ao bF.lZ et bw (fun _=>by simpa using bQ) (ak C bw cf) (aL.cD _ _) fun aM w' ai=>bp _ _ av aM w' ai
   | false=>exact wpIn_region_list (AQ bF.lZ ops.toList _ _ a w U J S h (aL.cD _ _) fun aF av aM w' ai=>bp _ _ av aM w' ai)
 | seq x y nV xk =>
   intro a2 s K h bQ F Q B N J w U S a bF aO aL bp;simp only [codeOk,sO] at bQ;refine wpIn_seq (nV _ _ _ h bQ.1 F _ B N J w U S a bF (fun l a w=>aO l a w) aL fun e s1 av aM w' ai=>?_);cases e with
   | normal =>
     obtain ⟨b5,c2,a8,aJ,aQ,cg⟩:=ai;exact xk _ _ _ av bQ.2 F Q B N c2 w' b5 a8 aM (bF.ext aJ) aO cg fun e s2 pI gW hs dO=>bp e s2 pI gW hs (dO.trans aJ aQ)
   | ret=>exact bp _ _ av aM w' ai
   | exit id=>exact bp _ _ av aM w' ai
 | cond x t f nU nT =>
   intro a2 s K h bQ F Q B N J w U S a bF aO aL bp;simp only [codeOk,sO] at bQ;rcases h with ⟨b,ag,h⟩ | ⟨ag,ad,af⟩
   ·have aj:=aL.aA x;rw [ag] at aj;cases b with
    | true=>exact wpIn_cond_true aj.h0 (nU _ _ _ h bQ.1 F Q B N J w U S a bF aO aL bp)
    | false=>exact wpIn_cond_false aj.h0 (nT _ _ _ h bQ.2 F Q B N J w U S a bF aO aL bp)
   ·have aj:=aL.aA x;rw [ag] at aj;obtain ⟨b,aj⟩:=aj.BV;cases b with
    | true=>exact wpIn_cond_true aj (nU _ _ _ ad bQ.1 F Q B N J w U S a bF aO aL bp)
    | false=>exact wpIn_cond_false aj (nT _ _ _ af bQ.2 F Q B N J w U S a bF aO aL bp)
 | block id c a_ =>
   intro a2 s K h bQ F Q B N J w U S a bF aO aL bp;refine wpIn_block ?_;refine a_ _ _ _ h bQ F _ B N J w U S a bF (fun l a w=>aO l a w) aL fun e s1 av aM w' ai=>?_;cases e with
   | normal=>exact bp _ _ av aM w' ai
   | ret=>exact bp _ _ av aM w' ai
   | exit bA =>
     simp only at av;by_cases aE:bA=id
     ·simp only [aE,if_true] at av;simp only [toExit,Exit.inBlock,aE,if_true];exact bp _ _ av aM w' ai
     ·simp only [aE,if_false] at av;simp only [toExit,Exit.inBlock,aE,if_false];exact bp _ _ av aM w' ai
 | loop c a_ =>
   intro a2 s K h bQ F Q B N J w U S a bF aO aL bp;obtain ⟨n,h⟩:=h;refine DZ h aL bp fun s1 oO ad lF aC bH Dp ai fI=>?_;obtain ⟨b5,c2,a8,aJ,aQ,cg⟩:=ai;exact a_ _ _ _ ad bQ F lF B N c2 bH b5 a8 aC (bF.ext aJ) (fun l a w h=>aO l a w (Dp l a w h)) (cg.cD _ _) fun e s2 av aM w' dO=>fI e s2 av aM w' (dO.trans aJ aQ)
 | scope c a_ =>
   intro a2 s K h bQ F Q B N J w U S a bF aO aL bp;exact BA (a_ _ _ _ h bQ F Q B N J w U S a bF aO aL bp) aO
 | rangeFunc f params assign body _ _ =>
   intro a2 s K h bQ F Q B N J w U S a bF aO aL bp;obtain ⟨C,e,aF,bw,ak,av⟩:=h;exact nx bw et _ _ _ _ _ ak bQ F Q B N J w U S a bF aO aL fun aM w' ai=>bp _ _ av aM w' ai
def lD (H H':List ar):Prop:=H'.length=H.length∧∀ (id:Nat) (o:ar),H'[id]?=some o→o=.dead∨H[id]?=some o
theorem lD.refl (H:List ar):lD H H:=⟨rfl,fun _ _ h=>.inr h⟩
theorem aK.o8 {H':List ar} (ah:aK B U J S w H) (h:lD H H'):aK B U J S w H' :=
 ⟨by rw [h.1];exact ah.cE,fun id o aq=>by
  rcases h.2 id o aq with rfl | aY
  ·trivial
  ·exact ah.obj id o aY,ah.cd,ah.base,ah.cW⟩
theorem a1.o8 {H1 H':List ar} {r:I} {v:Value} {w':World} (h:lD H1 H') (aB:a1 B U J S w H1 r v w'):a1 B U J S w H' r v w':=by
 obtain ⟨br,ck,bL,a,b,c,d⟩:=aB;exact ⟨br,ck,bL,a,b,c.o8 h,d⟩
theorem EI (et : P.follows .mixedOrders = true) {k : Nat} {f : Func} {c : Code} (aP : P.funcs[k]? = some f) (ag : f.body = some c) (aN : f.name ≠ "runtime.NumGoroutine") {A : dd} (bQ : codeOk A c = true)
  {args:List I} {v:I} (aB:cj 8 v=true)
  (h:c_ P A k 0 none c 0 ⟨args++List.replicate (f.ntmps-args.length) .junk,[]⟩ fun e s=>(e=.normal∨e=.ret)∧∃ vs r,fo P s.H s.T f.results.toList=some vs∧bJ s.H 0 s.H.length 0 8 (hl vs)=some r∧(r=v∨r.settle=v)):lE P k args v:=by
 refine ⟨⟨bc.refl _ _,⟨f,aP,by simp [ag],aN⟩,fun B U J S w xs ah _ ae=>?_⟩,aB⟩;refine callsIn_of_wp_marks aP ag trivial ?_;have aL:=x6 ah ae f.ntmps;have dy:=(oG ah).1;refine By et c 0 _ _ h bQ Fence.wide _ B w.heap.size J w (hR U) S _ (.inl ⟨rfl,rfl⟩) (fun l a w aO=>aO.elim) aL fun e s av aM w' ai=>?_;obtain ⟨he,vs,r,aj,C0,eG⟩:=av;obtain ⟨b5,c2,a8,aJ,aQ,cg⟩:=ai;have iM:LeavesInM Fence.wide 0 P f aM.tmps (fV B U J S w [] v) aM.defers .returning w':=by
  refine nY (U:=b5) (S:=a8) (J:=c2) (B:=B) (H:=s.H) (lC:=U) (S0:=S) (w0:=w) aM.defers w' cg.M.2.1 cg.M.2.2 (dy.trans aQ) cg.H fun bY dB dq mD mE=>?_
  have bX:a9 .slot b5 c2 a8 bY s.T aM.tmps.toList:=⟨cg.T.len,fun i u v hu ae=>(cg.T.rel i u v hu ae).mono (Ext.refl _) (fun b o h=>⟨h,dq b o h⟩),fun i u v hu ae =>
   (cg.T.own i u v hu ae).mono (Ext.refl _) (fun b o h=>⟨h,dq b o h⟩) fun b ag=>⟨ag,dB b _ ag,fun _ h=>h⟩⟩
  obtain ⟨x,q1,aX⟩:=xJ mE bX aj;have kJ:=xA ah (fun id aE=>by simp at aE) C0 (a1.after aJ mD aX);refine ⟨x,q1,?_⟩;rcases eG with rfl | eG
  ·exact kJ
  ·cases r with
   | ax cells len eo =>
     cases eo with
     | uniq z=>simp only [I.settle] at eG;subst eG;exact kJ.settle
     | _=>simp only [I.settle] at eG;subst eG;exact kJ
   | _=>simp only [I.settle] at eG;subst eG;exact kJ
 rcases he with rfl | rfl
 ·exact iM
 ·exact iM
theorem Hb (et : P.follows .mixedOrders = true) {k : Nat} {f : Func} {c : Code} (aP : P.funcs[k]? = some f) (ag : f.body = some c) (aN : f.name ≠ "runtime.NumGoroutine") {A : dd} (bQ : codeOk A c = true)
  {lo:Nat} {args:List I} {H H':List ar} {r:I} (ao:bc lo H H')
  (h:c_ P A k lo none c 0 ⟨args++List.replicate (f.ntmps-args.length) .junk,H⟩ fun e s=>(e=.normal∨e=.ret)∧lD s.H H'∧∃ vs,fo P s.H s.T f.results.toList=some vs∧hl vs=r):Sem P (.fn k) args H lo r H':=by
 refine ⟨ao,⟨f,aP,by simp [ag],aN⟩,fun B U J S w xs ah _ ae=>?_⟩;refine callsIn_of_wp_marks aP ag trivial ?_;have aL:=x6 ah ae f.ntmps;have dy:=(oG ah).1;refine By et c 0 _ _ h bQ Fence.wide _ B w.heap.size J w (hR U) S _ (.inl ⟨rfl,rfl⟩) (fun l a w aO=>aO.elim) aL fun e s av aM w' ai=>?_;obtain ⟨he,nE,vs,aj,rfl⟩:=av;obtain ⟨b5,c2,a8,aJ,aQ,cg⟩:=ai;have iM:LeavesInM Fence.wide 0 P f aM.tmps (fV B U J S w H' (hl vs)) aM.defers .returning w':=by
  refine nY (U:=b5) (S:=a8) (J:=c2) (B:=B) (H:=s.H) (lC:=U) (S0:=S) (w0:=w) aM.defers w' cg.M.2.1 cg.M.2.2 (dy.trans aQ) cg.H fun bY dB dq mD mE=>?_
  have bX:a9 .slot b5 c2 a8 bY s.T aM.tmps.toList:=⟨cg.T.len,fun i u v hu ae=>(cg.T.rel i u v hu ae).mono (Ext.refl _) (fun b o h=>⟨h,dq b o h⟩),fun i u v hu ae =>
   (cg.T.own i u v hu ae).mono (Ext.refl _) (fun b o h=>⟨h,dq b o h⟩) fun b ag=>⟨ag,dB b _ ag,fun _ h=>h⟩⟩
  obtain ⟨v,q1,aX⟩:=xJ mE bX aj;exact ⟨v,q1,(a1.after aJ mD aX).o8 nE⟩
 rcases he with rfl | rfl
 ·exact iM
 ·exact iM
end
end Go.Proofs.YtfakoboiahbhaaaGreat.Ab


namespace Go.Proofs.YtfakoboiahbhaaaGreat.Ab
open Go
inductive jq where
 | sl (t:Nat) | jh (t:Nat) | Bt (t:Nat) | lT (v:I)
inductive e' where
 | one | str (s:Nat) | arr (s:Nat)
inductive hX where
 | int (k:IntKind) | str (n:Nat)
inductive iw where
 | mP | nil (z:Nat) | Br
 | zy (a:e') | zz (a:e') | take | Bq | Bk | Bj (s:Nat) | st (s:Nat) | box | yr | alloc (z:List I)
 | zV (z:List I) (s bytes:Nat)
 | zU (z:List I) (s bytes:Nat)
 | zD | zB (n:Nat) | min | max
 | app (s bytes:Nat)
 | yl (s bytes:Nat)
 | call (mode:Nat)
 | pick | build (z:List I) (bo:List (Nat×Nat)) | yu (k:Nat) (z:List I) (bo:List (Nat×Nat)) | yv (len s:Nat) (z:List I) (ix:List Nat) | yt (len s:Nat) (z:List I) (ix:List Nat)
 | zY | bin (op:BinOp) | oW (neq:Bool) | un (op:UnOp) | conv (k:IntKind)
 | zS (f:FuncId) (n m:Nat)
 | Bh (s:Nat) (l h m:Bool)
 | zT | zN (fl:hX) | zM (fl:hX) (ok:Bool) (zero:Option I) | zL (fl:hX) | AN | yC | zC
 | yH (off:Nat) | yN (off:Nat) (a:e') | kR (s:Nat) | zo (len s:Nat) | ext (i:Nat)
 | other (o:Oper) (mode:Nat)
structure du where
 dst:Option Nat
 Gb:List jq
 guard:Option (Nat×Bool)
 ip:Option Nat
 k:iw
inductive fW where
 | skip
 | oj (draw:Bool) (l:List du)
 | seq (a b:fW)
 | cond (c:jq) (a b:fW)
 | block (id:Nat) (c:fW)
 | loop (cD:Option (List Bool)) (c:fW)
 | exit (id:Nat)
 | ret
 | AM (f:jq) (params:List Nat) (assign body:Code)
 | zZ (it:Nat) (dst:Option Nat) (l:List du)
 | two (pre:List du) (a b:du) (post:List du)
noncomputable section
def ma (v:I) (K:I→Prop):Prop:=match v with
 | .int k n=>K (.int k n)
 | .bool b=>K (.bool b)
 | .ax c n .shared=>K (.ax c n .shared)
 | .ax c n .full=>K (.ax c n .full)
 | .ax c n (.own z)=>K (.ax c n (.own z))
 | .ax c n (.uniq z)=>K (.ax c n (.uniq z))
 | .agg cs=>K (.agg cs)
 | .ptr id off=>K (.ptr id off)
 | .bU cs=>K (.bU cs)
 | .ref id off n cap sz=>K (.ref id off n cap sz)
 | .func f a b=>K (.func f a b)
 | .yield id=>K (.yield id)
 | .map id=>K (.map id)
 | .tuple vs=>K (.tuple vs)
 | .junk=>K .junk
 | .eJ=>K .eJ
 | .str s=>K (.str s)
 | .raw c n z=>K (.raw c n z)
 | .cl i g n z=>K (.cl i g n z)
 | .dw=>K .dw
 | .cZ as c n z bs=>K (.cZ as c n z bs)
theorem nC (v:I) (K:I→Prop):ma v K=K v:=by
 unfold ma;split <;> rfl
def hA:List I→Nat→(I→Prop)→Prop
 | [],_,K=>K .junk
 | h::_,0,K=>K h
 | _::t,n+1,K=>hA t n K
theorem iG:∀ (T:List I) (t:Nat) (K:I→Prop),hA T t K=K (c5 T t)
 | [],t,K=>rfl
 | h::T,0,K=>rfl
 | h::T,n+1,K=>by rw [hA,iG T n K];rfl
def jd:List I→Nat→I→(List I→Prop)→Prop
 | [],_,_,K=>K []
 | _::t,0,v,K=>K (v::t)
 | h::t,n+1,v,K=>jd t n v fun jg=>K (h::jg)
theorem kb:∀ (T:List I) (t:Nat) (v:I) (K:List I→Prop),jd T t v K=K (gT T t v)
 | [],t,v,K=>rfl
 | h::T,0,v,K=>rfl
 | h::T,n+1,v,K=>by rw [jd,kb T n v];rfl
def mY (T:List I) (d:Option Nat) (v:I) (K:List I→Prop):Prop:=match d with
 | some d=>jd T d v K
 | none=>K T
theorem xB (T:List I) (d:Option Nat) (v:I) (K:List I→Prop):mY T d v K=K (put T d v):=by
 cases d with
 | none=>rfl
 | some d=>exact kb T d v K
def kS:List Bool→List I→(List I→Prop)→Prop
 | b::bs,v::vs,K=>kS bs vs fun cV=>match b with
   | true=>K (v::cV)
   | false=>K (.junk::cV)
 | [],vs,K=>K vs
 | _::_,[],K=>K []
theorem zu:∀ (bs:List Bool) (vs:List I) (K:List I→Prop),kS bs vs K=K (e0 bs vs)
 | [],vs,K=>by simp [kS,e0]
 | b::bs,[],K=>by simp [kS,e0]
 | b::bs,v::vs,K=>by rw [kS,zu bs vs];cases b <;> simp [e0]
def ki (v:I) (K:I→Prop):Prop:=match v with
 | .ax c n (.own _)=>K (.ax c n .shared)
 | .ax c n (.uniq _)=>K (.ax c n .shared)
 | .raw _ _ _=>K .junk
 | .cZ _ _ _ _ _=>K .junk
 | .cl id _ n z=>K (.ref id 0 n none z)
 | v=>K v
theorem kj (v:I) (K:I→Prop):ki v K=K v.view:=by
 cases v with
 | ax c n k=>cases k <;> rfl
 | _=>rfl
def Bi (T:List I) (t:Nat) (v:I) (K:I→List I→Prop):Prop:=match v with
 | .ax c n (.uniq z)=>jd T t (.ax c n (.own z)) fun fX=>K (.ax c n .shared) fX
 | .ax c n (.own _)=>K (.ax c n .shared) T
 | .raw _ _ _=>K .junk T
 | .cZ _ _ _ _ _=>K .junk T
 | .cl id _ n z=>K (.ref id 0 n none z) T
 | v=>K v T
theorem Ga (T:List I) (t:Nat) (v:I) (K:I→List I→Prop):Bi T t v K=K v.view (fU T t v):=by
 cases v with
 | ax c n k =>
   cases k with
   | uniq z=>exact kb _ _ _ _
   | _=>rfl
 | _=>rfl
def gm:List jq→List I→(List I→List I→Prop)→Prop
 | [],T,K=>K [] T
 | .lT v::r,T,K=>gm r T fun vs ba=>K (v::vs) ba
 | .jh t::r,T,K=>hA T t fun v=>jd T t .junk fun fX=>gm r fX fun vs ba=>K (v::vs) ba
 | .Bt t::r,T,K=>hA T t fun v=>ki v fun v=>jd T t .junk fun fX=>gm r fX fun vs ba=>K (v::vs) ba
 | .sl t::r,T,K=>hA T t fun v=>Bi T t v fun v fX=>gm r fX fun vs ba=>K (v::vs) ba
def hN (eb:Bool):List Bool→List Operand→List jq
 | _,[]=>[]
 | ts,.tmp t::rest=>(match ts.headD false,eb with | true,true=>.jh t | true,false=>.Bt t | false,_=>.sl t)::hN eb ts.tail rest
 | ts,x::rest=>.lT (match eb with | true=>aA [] x | false=>(aA [] x).view)::hN eb ts.tail rest
theorem i' (eb:Bool):∀ (xs:List Operand) (ts:List Bool) (T:List I) (K:List I→List I→Prop),gm (hN eb ts xs) T K=K (fw eb (rd T ts xs).1) (rd T ts xs).2
 | [],ts,T,K=>by cases eb <;> simp [hN,gm,rd,fw]
 | .tmp t::rest,ts,T,K=>by
   simp only [hN];cases bI:ts.headD false with
   | true =>
     cases eb with
     | true =>
       simp only [gm,iG,kb,rd,bI,i' true rest];rfl
     | false =>
       simp only [gm,iG,kb,kj,rd,bI,i' false rest];rfl
   | false =>
     simp only [gm,iG,Ga,rd,bI,i' eb rest];cases eb
     ·simp only [fw,sG,I.kk (I.dj _)]
     ·rfl
 | .const v::rest,ts,T,K=>by
   simp only [hN,gm,rd,i' eb rest];cases eb <;> rfl
 | .func v::rest,ts,T,K=>by
   simp only [hN,gm,rd,i' eb rest];cases eb <;> rfl
 | .global v::rest,ts,T,K=>by
   simp only [hN,gm,rd,i' eb rest];cases eb <;> rfl
end
end Go.Proofs.YtfakoboiahbhaaaGreat.Ab


namespace Go.Proofs.YtfakoboiahbhaaaGreat.Ab
open Go
noncomputable section
def eK {α:Type}:List α→Nat→(α→Prop)→Prop
 | [],_,_=>False
 | h::_,0,K=>K h
 | _::t,n+1,K=>eK t n K
theorem e6 {α:Type}:∀ {l:List α} {n:Nat} {K:α→Prop},eK l n K→∃ x,l[n]?=some x∧K x
 | [],_,_,h=>h.elim
 | h::_,0,_,k=>⟨h,rfl,k⟩
 | _::t,n+1,K,k=>by simpa using e6 (l:=t) (n:=n) (K:=K) k
theorem Es {α:Type}:∀ {l:List α} {n:Nat} {x:α} {K:α→Prop},l[n]?=some x→K x→eK l n K
 | [],_,_,_,h,_=>by simp at h
 | h::_,0,_,_,e,k=>by simp at e;subst e;exact k
 | _::t,n+1,_,K,e,k=>Es (l:=t) (n:=n) (by simpa using e) k
def jk:List I→Nat→I→(List I→Prop)→Prop
 | [],_,_,_=>False
 | _::t,0,v,K=>K (v::t)
 | h::t,n+1,v,K=>jk t n v fun jg=>K (h::jg)
theorem lr:∀ {l:List I} {n:Nat} {v:I} {K:List I→Prop},jk l n v K→n<l.length∧K (l.set n v)
 | [],_,_,_,h=>h.elim
 | _::_,0,_,_,k=>⟨by simp,k⟩
 | h::t,n+1,v,K,k=>by
   obtain ⟨ad,af⟩:=lr (l:=t) (n:=n) k;exact ⟨by simpa using ad,af⟩
theorem Gm:∀ {l:List I} {n:Nat} {v:I} {K:List I→Prop},n<l.length→K (l.set n v)→jk l n v K
 | [],_,_,_,h,_=>by simp at h
 | _::_,0,_,_,_,k=>k
 | h::t,n+1,v,K,e,k=>Gm (l:=t) (n:=n) (by simpa using e) k
def lu:List I→Nat→List I→(List I→Prop)→Prop
 | l,_,[],K=>K l
 | l,n,v::vs,K=>jk l n v fun l'=>lu l' (n+1) vs K
theorem m9:∀ {vs l:List I} {n:Nat} {K:List I→Prop},lu l n vs K→(n+vs.length≤l.length∨vs=[])∧K (setCells n vs l)
 | [],_,_,_,h=>⟨.inr rfl,h⟩
 | v::vs,l,n,K,h=>by
   obtain ⟨ad,af⟩:=lr h;obtain ⟨aG,a6⟩:=m9 af;refine ⟨.inl ?_,a6⟩;rcases aG with aG | rfl
   ·simp only [tA] at aG;simp only [sV];omega
   ·simp only [sV,uV];omega
def oh:Nat→List I→Nat→(List I→Prop)→Prop
 | 0,_,_,K=>K []
 | s+1,l,off,K=>eK l off fun v=>ki v fun v=>ma v fun v=>oh s l (off+1) fun vs=>K (v::vs)
theorem Aj:∀ {s:Nat} {l:List I} {off:Nat} {K:List I→Prop},oh s l off K→(off+s≤l.length∨s=0)∧K (((l.drop off).take s).map I.view)
 | 0,l,off,K,h=>⟨.inr rfl,by simpa [oh] using h⟩
 | s+1,l,off,K,h=>by
   obtain ⟨v,ae,h⟩:=e6 h;rw [kj,nC] at h;obtain ⟨ad,af⟩:=Aj h;have aS:=(sv.1 ae).1;refine ⟨.inl (by rcases ad with ad | rfl <;> omega),?_⟩;have a3:l.drop off=v::l.drop (off+1):=by
    rw [tn aS,(sv.1 ae).2]
   rw [a3];simpa using af
def oi:Nat→List I→Nat→(List I→Prop)→Prop
 | 0,_,_,K=>K []
 | s+1,l,off,K=>eK l off fun v=>ma v fun v=>oi s l (off+1) fun vs=>K (v::vs)
theorem Ak:∀ {s:Nat} {l:List I} {off:Nat} {K:List I→Prop},oi s l off K→(off+s≤l.length∨s=0)∧K ((l.drop off).take s)
 | 0,l,off,K,h=>⟨.inr rfl,by simpa [oi] using h⟩
 | s+1,l,off,K,h=>by
   obtain ⟨v,ae,h⟩:=e6 h;rw [nC] at h;obtain ⟨ad,af⟩:=Ak h;have aS:=(sv.1 ae).1;refine ⟨.inl (by rcases ad with ad | rfl <;> omega),?_⟩;have a3:l.drop off=v::l.drop (off+1):=by
    rw [tn aS,(sv.1 ae).2]
   rw [a3];simpa using af
def mI (a:e') (l:List I) (off:Nat) (K:I→Prop):Prop:=match a with
 | .one=>eK l off fun v=>ki v K
 | .str s=>oh s l off fun vs=>K (.agg vs)
 | .arr s=>off+s≤l.length∧K (.agg (((l.drop off).take s).map I.view))
def Ad (a:e') (l:List I) (off:Nat) (K:I→Prop):Prop:=match a with
 | .one=>eK l off fun v=>ki v K
 | .str s=>oi s l off fun vs=>K (.agg vs)
 | .arr s=>off+s≤l.length∧K (.agg ((l.drop off).take s))
def gX (P:Program) (t:TypeId):Option e':=match dJ P t,P.underlying t with
 | true,some (.struct _)=>(match bD P t with | some (s+1)=>some (.str (s+1)) | _=>none)
 | true,_=>(bD P t).map .arr
 | false,some _=>some .one
 | false,none=>none
section
variable {P:Program}
theorem oT {t:TypeId} {a:e'} (h:gX P t=some a):(a=.one∧dJ P t=false∧∃ d,P.underlying t=some d)∨(∃ s,(a=.str (s+1)∧bD P t=some (s+1)∨a=.arr s∧bD P t=some s)∧dJ P t=true):=by
 unfold gX at h;split at h
 ·rename_i ad _;split at h
  ·rename_i s ai;cases h;exact .inr ⟨_,.inl ⟨rfl,ai⟩,ad⟩
  ·cases h
 ·rename_i ad _;simp only [su] at h;obtain ⟨s,ai,rfl⟩:=h;exact .inr ⟨s,.inr ⟨rfl,ai⟩,ad⟩
 ·rename_i d ad af;cases h;exact .inl ⟨rfl,ad,d,af⟩
 ·cases h
theorem nX {t:TypeId} {a:e'} (cc:gX P t=some a) {l:List I} {off:Nat} {K:I→Prop} (h:mI a l off K):∃ v,ez P t l off=some v∧K v:=by
 rcases oT cc with ⟨rfl,ad,d,af⟩ | ⟨s,af,ad⟩
 ·obtain ⟨v,ae,h⟩:=e6 h;rw [kj] at h;exact ⟨v.view,by simp [ez,ad,af,ae],h⟩
 ·rcases af with ⟨rfl,af⟩ | ⟨rfl,af⟩
  ·obtain ⟨aJ,aQ⟩:=Aj h;exact ⟨_,by simp only [ez,ad,af,sx];rw [if_pos (by omega)],aQ⟩
  ·exact ⟨_,by simp only [ez,ad,af,sx];rw [if_pos h.1],h.2⟩
theorem EG {t:TypeId} {a:e'} (cc:gX P t=some a) {l:List I} {off:Nat} {K:I→Prop} (h:Ad a l off K):∃ v,iA P t l off=some v∧K v.view:=by
 rcases oT cc with ⟨rfl,ad,d,af⟩ | ⟨s,af,ad⟩
 ·obtain ⟨v,ae,h⟩:=e6 h;rw [kj] at h;exact ⟨v,by simp [iA,ad,af,ae],h⟩
 ·rcases af with ⟨rfl,af⟩ | ⟨rfl,af⟩
  ·obtain ⟨aJ,aQ⟩:=Ak h;exact ⟨_,by simp only [iA,ad,af,sx];rw [if_pos (by omega)],show K (I.view (.agg _)) from aQ⟩
  ·exact ⟨_,by simp only [iA,ad,af,sx];rw [if_pos h.1],show K (I.view (.agg _)) from h.2⟩
end
def oA (v:I) (K:I→Prop):Prop:=match v with
 | .ax c n (.uniq z)=>K (.ax c n (.own z))
 | v=>K v
theorem x3 (v:I) (K:I→Prop):oA v K=K v.settle:=by
 cases v with
 | ax c n k=>cases k <;> rfl
 | _=>rfl
def kp (v:I) (nc:I→Prop) (nd:List I→Prop):Prop:=match v with
 | .agg vc=>nd vc
 | .junk=>False
 | .tuple _=>False
 | .raw _ _ _=>False
 | .cZ _ _ _ _ _=>False
 | v=>nc v
theorem lQ {v:I} {nc:I→Prop} {nd:List I→Prop} (h:kp v nc nd):(v.cells=some [v]∧nc v)∨∃ vc,v.cells=some vc∧v=.agg vc∧nd vc:=by
 cases v <;> first | exact .inl ⟨rfl,h⟩ | exact h.elim | exact .inr ⟨_,rfl,rfl,h⟩
def ga:List (Nat×Nat)→List I→List I→(List I→Prop)→Prop
 | [],[],cs,K=>K cs
 | (off,size)::bo,v::vs,cs,K=>kp v (fun v=>match Nat.beq size 1 with | true=>jk cs off v fun cs=>ga bo vs cs K | false=>False) (fun vc=>match Nat.beq vc.length size,Nat.blt 0 size with | true,true=>lu cs off vc fun cs=>ga bo vs cs K | _,_=>False)
 | _,_,_,_=>False
theorem iE {place:Nat→Option (Nat×Nat)}:∀ {ix:List Nat} {bo:List (Nat×Nat)} {vs cs:List I} {K:List I→Prop},ga bo vs cs K→ix.map place=bo.map some →
  ∃ c8,fC place cs (ix.zip vs)=some c8∧K c8
 | [],[],[],cs,K,h,_=>⟨cs,rfl,h⟩
 | i::ix,(off,size)::bo,v::vs,cs,K,h,aB=>by
   simp only [sG,List.cons.injEq] at aB;obtain ⟨fL,jV⟩:=aB;simp only [ga] at h;simp only [wB,fC,fL];rcases lQ h with ⟨ad,h⟩ | ⟨vc,ad,_,h⟩
   ·split at h
    ·rename_i af;have af:=tw af;obtain ⟨aG,h⟩:=lr h;obtain ⟨c8,q1,aX⟩:=iE h jV;subst af;exact ⟨c8,by simp only [ad];rw [if_pos ⟨rfl,by omega⟩];exact q1,aX⟩
    ·exact h.elim
   ·split at h
    ·rename_i af a6;have af:=tw af;(have a6:0<size:=by simpa [tF] using a6);obtain ⟨aG,h⟩:=m9 h;obtain ⟨c8,q1,aX⟩:=iE h jV;have bM:off+size≤cs.length:=by
      rcases aG with aG | aG
      ·omega
      ·rw [aG] at af;simp only [uV] at af;omega
     refine ⟨c8,?_,aX⟩;simp only [ad];rw [if_pos ⟨af,bM⟩];exact q1
    ·exact h.elim
 | [],_::_,_,_,_,_,aB=>by simp at aB
 | _::_,[],_,_,_,_,aB=>by simp at aB
 | [],[],_::_,_,_,h,_=>h.elim
 | _::_,_::_,[],_,_,h,_=>h.elim
def A_:BinOp→Bool
 | .shl=>true
 | .shr=>true
 | _=>false
theorem FA {op:BinOp} {k k':IntKind} (h:(decide (k=k') || A_ op)=true):k=k'∨op=.shl∨op=.shr:=by
 rw [uc] at h;rcases h with h | h
 ·exact .inl (of_decide_eq_true h)
 ·cases op <;> first | exact .inr (.inl rfl) | exact .inr (.inr rfl) | cases h
def oU (op:BinOp) (k:IntKind) (a b:Int) (K:I→Prop):Prop:=match op with
 | .add=>K (.int k (k.wrap (a+b)))
 | .sub=>K (.int k (k.wrap (a-b)))
 | .mul=>K (.int k (k.wrap (a*b)))
 | .quo=>b≠0∧K (.int k (k.wrap (a.tdiv b)))
 | .rem=>b≠0∧K (.int k (a.tmod b))
 | .eql=>K (.bool (decide (a=b)))
 | .neq=>K (.bool (decide (a≠b)))
 | .lss=>K (.bool (decide (a<b)))
 | .leq=>K (.bool (decide (a≤b)))
 | .gtr=>K (.bool (decide (b<a)))
 | .geq=>K (.bool (decide (b≤a)))
 | .and=>K (.int k (k.wrap (BitVec.ofInt k.bits a &&& BitVec.ofInt k.bits b).toNat))
 | .or=>K (.int k (k.wrap (BitVec.ofInt k.bits a ||| BitVec.ofInt k.bits b).toNat))
 | .xor=>K (.int k (k.wrap (BitVec.ofInt k.bits a ^^^ BitVec.ofInt k.bits b).toNat))
 | .shl=>0≤b∧K (.int k (k.wrap (a*2 ^ (Nat.min b.toNat k.bits))))
 | .shr=>0≤b∧K (.int k (a.fdiv (2 ^ (Nat.min b.toNat k.bits))))
 | _=>False
section
variable {P:Program}
theorem BN (op:BinOp) (t:TypeId) (k k':IntKind) (a b:Int):fq P op t (.int k a) (.int k' b)=match op with
  | .shl=>hy .shl k a b
  | .shr=>hy .shr k a b
  | op=>if k=k' then jv op k a b else none:=by cases op <;> rfl
theorem B1 {op:BinOp} {t:TypeId} {k k':IntKind} {a b:Int} {K:I→Prop} (av:k=k'∨op=.shl∨op=.shr) (h:oU op k a b K):∃ v,fq P op t (.int k a) (.int k' b)=some v∧K v:=by
 rw [BN];cases op <;> simp only [oU] at h <;> try exact h.elim
 case shl=>exact ⟨_,by simp only [hy];rw [if_neg (by omega)],h.2⟩
 case shr=>exact ⟨_,by simp only [hy];rw [if_neg (by omega)],h.2⟩
 all_goals (obtain rfl:k=k':=by rcases av with av | av | av <;> first | exact av | cases av)
 all_goals simp only [if_true,jv]
 case quo=>exact ⟨_,by rw [if_neg h.1],h.2⟩
 case rem=>exact ⟨_,by rw [if_neg h.1],h.2⟩
 case neq =>
  have e:(a != b)=decide (a≠b):=by by_cases jF:a=b <;> simp [jF]
  exact ⟨_,rfl,by rw [e];exact h⟩
 case eql=>exact ⟨_,rfl,h⟩
 all_goals exact ⟨_,rfl,h⟩
end
end
end Go.Proofs.YtfakoboiahbhaaaGreat.Ab


namespace Go.Proofs.YtfakoboiahbhaaaGreat.Ab
open Go
noncomputable section
def xW (v:I) (H:List ar) (K:I→List ar→Prop):Prop:=match v with
 | .ax cells len (.uniq z)=>(len≠0∧K (.ref H.length 0 len none z) (H++[.cells cells]))∨(len=0∧K (.ax cells len (.uniq z)) H)
 | .ax [] 0 .full=>K (.ax [] 0 .full) H
 | .ref id off len cap sz=>K (.ref id off len cap sz) H
 | _=>False
def xP (a:e') (v:I) (H:List ar) (K:I→List ar→Prop):Prop:=match v with
 | .ptr id off=>eK H id fun o=>match o with | .cells l=>mI a l off fun v=>K v H | .grow l _ _=>mI a l off fun v=>K v H | _=>False
 | .bU cells=>mI a cells 0 fun v=>K v H
 | _=>False
def xU (lo:Nat) (v:I) (H:List ar) (K:I→List ar→Prop):Prop:=match v with
 | .ptr id off=>match Nat.ble lo id with
   | true=>eK H id fun o=>match o with
     | .cells l=>(eK l off fun v=>match v with | .ax c n (.own z)=>K (.ax c n (.own z)) (H.set id (.cells (l.set off (.ax c n .shared)))) | .ax c n .full=>K (.ax c n .full) H | .raw c n z=>K (.ax c n (.uniq z)) (H.set id (.cells (l.set off .junk))) | _=>False)
     | .grow l g cT=>(eK l off fun v=>match v with | .ax c n (.own z)=>K (.ax c n (.own z)) (H.set id (.grow (l.set off (.ax c n .shared)) g cT)) | .ax c n .full=>K (.ax c n .full) H | _=>False)
     | _=>False
   | false=>False
 | _=>False
def xV (lo:Nat) (v:I) (H:List ar) (K:I→List ar→Prop):Prop:=match v with
 | .ptr id off=>match Nat.ble lo id with
   | true=>eK H id fun o=>match o with | .cells l=>(eK l off fun v=>match v with | .raw c n z=>n≠0∧K (.ref H.length 0 n none z) (H.set id (.cells (l.set off (.ref H.length 0 n none z)))++[.cells c]) | .ax c n .full=>K (.ax c n .full) H | _=>False) | _=>False
   | false=>False
 | _=>False
def xT (lo:Nat) (p v:I) (H:List ar) (K:I→List ar→Prop):Prop:=match p with
 | .ptr id off=>match Nat.ble lo id with
   | true=>eK H id fun o=>match o with
     | .cells l=>(match v with | .ax c n (.uniq z)=>c.all gS=true∧n≠0∧jk l off (.raw c n z) fun l'=>K .junk (H.set id (.cells l')) | _=>False)
     | _=>False
   | false=>False
 | _=>False
def xS (lo s:Nat) (p v:I) (H:List ar) (K:I→List ar→Prop):Prop:=match p with
 | .ptr id off=>match Nat.ble lo id with
   | true=>eK H id fun o=>match o with
     | .cells l=>(match v with | .cZ as c n z bs=>(match Nat.beq (as.length+1+bs.length) s with | true=>lu l off (as++.ax c n (.own z)::bs) fun l'=>K .junk (H.set id (.cells l')) | false=>False) | _=>False)
     | _=>False
   | false=>False
 | _=>False
def xO (k:Nat) (z:List I) (bo:List (Nat×Nat)) (vs:List I) (H:List ar) (K:I→List ar→Prop):Prop:=match vs.drop k,bo.drop k with
 | .ax c n (.own s)::post,(off,1)::dQ=>match (vs.take k).all I.plain && post.all I.plain && dQ.all fun p=>Nat.blt off p.1 || Nat.ble (p.1+p.2) off with
   | true=>ga (bo.take k) (vs.take k) z fun eQ=>match Nat.blt off eQ.length with
     | true=>ga dQ post (eQ.set off .junk) fun ef=>K (.cZ (ef.take off) c n s (ef.drop (off+1))) H
     | false=>False
   | false=>False
 | .ax c n (.uniq s)::post,(off,1)::dQ=>match (vs.take k).all I.plain && post.all I.plain && dQ.all fun p=>Nat.blt off p.1 || Nat.ble (p.1+p.2) off with
   | true=>ga (bo.take k) (vs.take k) z fun eQ=>match Nat.blt off eQ.length with
     | true=>ga dQ post (eQ.set off .junk) fun ef=>K (.cZ (ef.take off) c n s (ef.drop (off+1))) H
     | false=>False
   | false=>False
 | _,_=>False
def xR (lo s:Nat) (p v:I) (H:List ar) (K:I→List ar→Prop):Prop:=match p with
 | .ptr id off=>match Nat.ble lo id with
   | true=>eK H id fun o=>match o with
     | .cells l=>kp v (fun v=>match Nat.beq s 1 with | true=>oA v fun v=>jk l off v fun l'=>K .junk (H.set id (.cells l')) | false=>False) (fun vc=>match Nat.beq vc.length s,Nat.blt 0 s with | true,true=>lu l off (vc.map I.settle) fun l'=>K .junk (H.set id (.cells l')) | _,_=>False)
     | .grow l g z=>kp v (fun v=>match Nat.beq s 1 with | true=>oA v fun v=>jk l off v fun l'=>K .junk (H.set id (.grow l' g z)) | false=>False) (fun vc=>match Nat.beq vc.length s,Nat.blt 0 s with | true,true=>lu l off (vc.map I.settle) fun l'=>K .junk (H.set id (.grow l' g z)) | _,_=>False)
     | _=>False
   | false=>False
 | _=>False
def xM (v:I) (H:List ar) (K:I→List ar→Prop):Prop :=
 kp v (fun v=>oA v fun v=>K (.ptr H.length 0) (H++[.cells [v]])) (fun vc=>K (.ptr H.length 0) (H++[.cells (vc.map I.settle)]))
def xN (v:I) (H:List ar) (K:I→List ar→Prop):Prop :=
 kp v (fun v=>v.plain=true∧K (.bU [v]) H) (fun vc=>vc.all I.plain=true∧K (.bU vc) H)
def xw:List I→Int→(Int→Prop)→Prop
 | [],a,K=>K a
 | .int _ b::r,a,K=>xw r (min a b) K
 | _::_,_,_=>False
def xv:List I→Int→(Int→Prop)→Prop
 | [],a,K=>K a
 | .int _ b::r,a,K=>xv r (max a b) K
 | _::_,_,_=>False
def xL (lo s bytes:Nat) (x y:I) (H:List ar) (K:I→List ar→Prop):Prop:=match y with
 | .ax new m _=>(new.length=m*s∧m*bytes≤140737488355328)∧match x with
   | .ax cells n .full=>(m≠0∧(n+m)*bytes≤140737488355328∧cells.length=n*s)∧K (.cl H.length (H.length+1) (n+m) s) (H++[.grow (cells++new) (H.length+1) s,.dead])
   | .ax cells n (.uniq z)=>(z=s∧m≠0∧(n+m)*bytes≤140737488355328)∧K (.cl H.length (H.length+1) (n+m) z) (H++[.grow (cells++new) (H.length+1) z,.dead])
   | .cl id gid n z=>match Nat.ble lo id with
     | true=>eK H id fun o=>match o with
       | .grow l g cT=>((g=gid∧cT=z∧z=s∧l.length=n*z∧0<m∧(n+m)*bytes≤140737488355328)∧K (.cl H.length (H.length+1) (n+m) z) (H.set id .dead++[.grow (l++new) (H.length+1) z,.dead])) ∨
         ((g=gid∧cT=z∧z=s∧n*z<l.length∧0<m∧(n+m)*bytes≤140737488355328)∧K (.cl H.length (H.length+1) (n+m) z) (H.set id .dead++[.grow (l.take (n*z)++new) (H.length+1) z,.dead]))
       | _=>False
     | false=>False
   | _=>False
 | _=>False
def AK (z:List I) (s bytes:Nat) (a b:I) (H:List ar) (K:I→List ar→Prop):Prop:=match a,b with
 | .int _ n,.int _ c=>0≤n∧n≤c∧c.toNat*bytes≤140737488355328∧K (.ref H.length 0 n.toNat (some c.toNat) s) (H++[.cells (e8 c.toNat z)])
 | _,_=>False
def AJ (z:List I) (s bytes:Nat) (a b:I) (H:List ar) (K:I→List ar→Prop):Prop:=match a,b with
 | .int _ n,.int _ c=>n=c∧0≤n∧c.toNat*bytes≤140737488355328∧K (.ax (e8 c.toNat z) n.toNat (.uniq s)) H
 | _,_=>False
def AF (v:I) (H:List ar) (K:I→List ar→Prop):Prop:=match v with
 | .ax _ n _=>K (.int .i64 n) H
 | .ref _ _ n _ _=>K (.int .i64 n) H
 | _=>False
def ou (s bytes:Nat) (x:I) (new:List I) (m:Nat) (H:List ar) (K:I→List ar→Prop):Prop:=new.length=m*s∧m*bytes≤140737488355328∧match x with
    | .ax cells n .shared=>m=0∧K (.ax cells n .shared) H
    | .ax cells n .full=>m≠0∧(n+m)*bytes≤140737488355328∧cells.length=n*s∧K (.ax (cells++new) (n+m) (.uniq s)) H
    | .ax cells n (.own z)=>z=s∧(n+m)*bytes≤140737488355328∧K (.ax (cells++new) (n+m) (.own z)) H
    | .ax cells n (.uniq z)=>z=s∧(n+m)*bytes≤140737488355328∧K (.ax (cells++new) (n+m) (.uniq z)) H
    | _=>False
def xK (s bytes:Nat) (x y:I) (H:List ar) (K:I→List ar→Prop):Prop:=match y with
 | .ax new m _=>ou s bytes x new m H K
 | .ref id off m _ z=>eK H id fun o=>match o with
   | .cells l=>off+m*z≤l.length∧ou s bytes x (((l.drop off).take (m*z)).map I.view) m H K
   | _=>False
 | _=>False
def xQ (s:Nat) (l h m:Bool) (x:I) (vs:List I) (H:List ar) (K:I→List ar→Prop):Prop:=match x with
 | .ax cells n c=>match l,h,m,vs with
   | false,false,false,[]=>match c with
     | .uniq z=>K (.ax (cells.take (n*z)) n (.uniq z)) H
     | .shared=>K (.ax (cells.take (n*s)) n .shared) H
     | _=>False
   | true,false,false,[.int _ i]=>match c with
     | .own z=>(s=z∧0≤i∧i≤n)∧K (.ax (cells.drop (i.toNat*z)) (n-i.toNat) (.own z)) H
     | .shared | .uniq _=>(0≤i∧i≤n)∧K (.ax ((cells.drop (i.toNat*s)).take ((n-i.toNat)*s)) (n-i.toNat) .shared) H
     | _=>False
   | false,true,false,[.int _ j]=>match c with
     | .uniq z=>(0≤j∧j≤n)∧K (.ax (cells.take (j.toNat*z)) j.toNat (.uniq z)) H
     | .shared | .own _=>(0≤j∧j≤n)∧K (.ax (cells.take (j.toNat*s)) j.toNat .shared) H
     | _=>False
   | true,true,false,[.int _ i,.int _ j]=>match c with
     | .shared | .own _ | .uniq _=>(0≤i∧i≤j∧j≤n)∧K (.ax ((cells.drop (i.toNat*s)).take ((j.toNat-i.toNat)*s)) (j.toNat-i.toNat) .shared) H
     | _=>False
   | false,true,true,[.int _ j,.int _ k]=>(j=k∧0≤j∧j≤n)∧K (.ax (cells.take (j.toNat*s)) j.toNat .full) H
   | true,true,true,[.int _ i,.int _ j,.int _ k]=>(j=k∧0≤i∧i≤j∧j≤n)∧K (.ax ((cells.drop (i.toNat*s)).take ((j.toNat-i.toNat)*s)) (j.toNat-i.toNat) .full) H
   | _,_,_,_=>False
 | .ref id off n cap sz=>match l,h,m,vs with
   | true,false,false,[.int _ i]=>sz=s∧(0≤i∧i≤n)∧(i<n→K (.ref id (off+i.toNat*s) (n-i.toNat) (cap.map (·-i.toNat)) sz) H)∧(i=n→K (.ax [] 0 .shared) H)
   | false,true,false,[.int _ j]=>sz=s∧(0≤j∧j≤n∧0<n)∧K (.ref id off j.toNat cap sz) H
   | _,_,_,_=>False
 | .cl id gid n z=>match l,h,m,vs with
   | false,true,false,[.int _ j]=>(0≤j∧j≤n)∧K (.cl id gid j.toNat z) H
   | _,_,_,_=>False
 | _=>False
def AA (off:Nat) (v:I) (H:List ar) (K:I→List ar→Prop):Prop:=match v with
 | .ptr id o=>K (.ptr id (o+off)) H
 | .bU cells=>K (.bU (cells.drop off)) H
 | _=>False
def AB (s:Nat) (x i:I) (H:List ar) (K:I→List ar→Prop):Prop:=match i with
 | .int _ n=>match x with
   | .ax cells len _=>(0≤n∧n<len)∧K (.bU (cells.drop (n.toNat*s))) H
   | .ref id off len _ _=>(0≤n∧n<len)∧K (.ptr id (off+n.toNat*s)) H
   | _=>False
 | _=>False
def AD (len s:Nat) (x i:I) (H:List ar) (K:I→List ar→Prop):Prop:=match i with
 | .int _ n=>match x with
   | .ptr id off=>(0≤n∧n<len)∧K (.ptr id (off+n.toNat*s)) H
   | .bU cells=>(0≤n∧n<len)∧K (.bU (cells.drop (n.toNat*s))) H
   | _=>False
 | _=>False
def kT (fl:hX) (k:I):Prop:=match fl,k with
 | .int q,.int fT _=>q=fT
 | .str n,.agg cs=>cs.length=n
 | _,_=>False
def AI (lo:Nat) (fl:hX) (m k v:I) (H:List ar) (K:I→List ar→Prop):Prop:=match m with
 | .map id=>match Nat.ble lo id with
   | true=>kT fl k∧∃ es clock,H[id]?=some (.map es clock)∧∃ r,fG k es 0=some r∧(match r with
     | some i=>K .junk (H.set id (.map (es.modify i fun e=>(e.1,k,v)) clock))
     | none=>K .junk (H.set id (.map (es++[(clock,k,v)]) (clock+1))))
   | false=>False
 | _=>False
def AH (fl:hX) (ok:Bool) (zero:Option I) (m k:I) (H:List ar) (K:I→List ar→Prop):Prop:=match m with
 | .map id=>kT fl k∧∃ es clock,H[id]?=some (.map es clock)∧∃ r,fG k es 0=some r∧(match r with
   | some i=>∃ e,es[i]?=some e∧(match ok with | true=>K (.tuple [e.2.2,.bool true]) H | false=>K e.2.2 H)
   | none=>∃ z,zero=some z∧(match ok with | true=>K (.tuple [z,.bool false]) H | false=>K z H))
 | _=>False
def AG (lo:Nat) (fl:hX) (m k:I) (H:List ar) (K:I→List ar→Prop):Prop:=match m with
 | .map id=>match Nat.ble lo id with
   | true=>kT fl k∧∃ es clock,H[id]?=some (.map es clock)∧∃ r,fG k es 0=some r∧(match r with
     | some i=>K (.tuple []) (H.set id (.map (es.eraseIdx i) clock))
     | none=>K (.tuple []) H)
   | false=>False
 | _=>False
def AL (m:I) (H:List ar) (K:I→List ar→Prop):Prop:=match m with
 | .map id=>∃ es clock,H[id]?=some (.map es clock)∧K (.ptr H.length 0) (H++[.iter id clock [] clock])
 | _=>False
def Az (p:I) (H:List ar) (K:I→List ar→Prop):Prop:=match p with
 | .ptr r 0=>∃ m since seen clock gn es e,H[r]?=some (.iter m since seen clock)∧seen.getLast?=some gn∧H[m]?=some (.map es clock)∧es.find? (fun e=>e.1 == gn)=some e∧K (.tuple [e.2.1,e.2.2]) H
 | _=>False
def AE (m:I) (H:List ar) (K:I→List ar→Prop):Prop:=match m with
 | .map id=>∃ es clock,H[id]?=some (.map es clock)∧K (.int .i64 es.length) H
 | _=>False
def bN (P:Program) (lo:Nat) (k:iw) (vs:List I) (H:List ar) (K:I→List ar→Prop):Prop:=match k with
 | .mP=>match vs with | [v]=>K v H | _=>False
 | .nil z=>match vs with | [_]=>K (.ax [] 0 (.uniq z)) H | _=>False
 | .Br=>match vs with | [v]=>xW v H K | _=>False
 | .zy a=>match vs with | [v]=>xP a v H K | _=>False
 | .zz a=>match vs with | [.bU cells]=>mI a cells 0 fun v=>K v H | _=>False
 | .take=>match vs with | [v]=>xU lo v H K | _=>False
 | .Bq=>match vs with | [v]=>xV lo v H K | _=>False
 | .Bk=>match vs with | [p,v]=>xT lo p v H K | _=>False
 | .Bj s=>match vs with | [p,v]=>xS lo s p v H K | _=>False
 | .st s=>match vs with | [p,v]=>xR lo s p v H K | _=>False
 | .box=>match vs with | [v]=>xM v H K | _=>False
 | .yr=>match vs with | [v]=>xN v H K | _=>False
 | .alloc z=>K (.ptr H.length 0) (H++[.cells z])
 | .zV z s bytes=>match vs with | [a,b]=>AK z s bytes a b H K | _=>False
 | .zU z s bytes=>match vs with | [a,b]=>AJ z s bytes a b H K | _=>False
 | .zD=>match vs with | [v]=>AF v H K | _=>False
 | .zB n=>match vs with | [.ax _ _ _] | [.ref _ _ _ _ _] | [.map _]=>False | [_]=>K (.int .i64 n) H | _=>False
 | .min=>match vs with | .int k a::r=>xw r a fun n=>K (.int k n) H | _=>False
 | .max=>match vs with | .int k a::r=>xv r a fun n=>K (.int k n) H | _=>False
 | .app s bytes=>match vs with | [x,y]=>xK s bytes x y H K | _=>False
 | .yl s bytes=>match vs with | [x,y]=>xL lo s bytes x y H K | _=>False
 | .call _=>False
 | .pick=>match vs with | [.bool c,a,b]=>(match c with | true=>K a H | false=>K b H) | _=>False
 | .build z bo=>ga bo vs z fun cs=>K (.agg cs) H
 | .yu k z bo=>xO k z bo vs H K
 | .yv len s z ix=>ga (ix.map fun i=>(i*s,s)) vs (e8 len z) fun cs=>K (.ax cs len (.uniq s)) H
 | .yt len s z ix=>ga (ix.map fun i=>(i*s,s)) vs (e8 len z) fun cs=>K (.ax cs len .full) H
 | .zY=>match vs with | [.ptr id off]=>K (.ptr id off) H | [.bU cells]=>K (.bU cells) H | _=>False
 | .bin op=>match vs with | [.int k a,.int k' b]=>(match decide (k=k') || A_ op with | true=>oU op k a b fun v=>K v H | false=>False) | _=>False
 | .oW neq=>match vs with | [.bool a,.bool b]=>(match neq with | true=>K (.bool (!(a == b))) H | false=>K (.bool (a == b)) H) | _=>False
 | .un op=>match vs with
   | [.bool b]=>(match op with | .not=>K (.bool !b) H | _=>False)
   | [.int k n]=>(match op with | .neg=>K (.int k (k.wrap (-n))) H | _=>False)
   | _=>False
 | .conv k=>match vs with | [.int _ n]=>K (.int k (k.wrap n)) H | _=>False
 | .zS f n m=>(match Nat.beq vs.length (n+m) with | true=>K (.func f (vs.take n) (vs.drop n)) H | false=>False)
 | .Bh s l h m=>match vs with | x::vs=>xQ s l h m x vs H K | _=>False
 | .zT=>K (.map H.length) (H++[.map [] 0])
 | .zN fl=>match vs with | [m,k,v]=>AI lo fl m k v H K | _=>False
 | .zM fl ok z=>match vs with | [m,k]=>AH fl ok z m k H K | _=>False
 | .zL fl=>match vs with | [m,k]=>AG lo fl m k H K | _=>False
 | .AN=>match vs with | [m]=>AL m H K | _=>False
 | .yC=>match vs with | [m]=>Az m H K | _=>False
 | .zC=>match vs with | [m]=>AE m H K | _=>False
 | .yH off=>match vs with | [v]=>AA off v H K | _=>False
 | .yN off a=>match vs with | [.agg cs]=>Ad a cs off fun v=>K v H | _=>False
 | .kR s=>match vs with | [x,i]=>AB s x i H K | _=>False
 | .zo len s=>match vs with | [x,i]=>AD len s x i H K | _=>False
 | .ext i=>match vs with | [.tuple ws]=>(eK ws i fun v=>ki v fun v=>K v H) | _=>False
 | .other o mode=>∃ v H',(∀ C,a5 P C lo o mode vs H=some (v,H'))∧K v H'
def oq (P:Program) (o:Oper) (mode:Nat) (x:Operand):iw:=match mode with
 | 0=>match iR x,P.underlying o.type with
   | true,some (.slice e)=>(match bD P e with | some z=>.nil z | none=>.other o mode)
   | _,_=>.mP
 | 1=>.Br
 | _=>.other o mode
def mG (P:Program) (t:TypeId):Option (hX×TypeId):=match j1 P t with
 | some (k,e)=>(match P.underlying k with
   | some (.int q)=>some (.int q,e)
   | some (.struct bm)=>some (.str bm.size,e)
   | _=>none)
 | none=>none
def ho (P:Program) (o:Oper) (mode:Nat):iw:=match o.op with
 | .move x | .assign x=>oq P o mode x
 | .load t _=>match mode with
   | 0=>(match gX P t with | some a=>.zy a | none=>.other o mode)
   | 2=>(match P.underlying t with | some (.slice _)=>.Bq | _=>.other o mode)
   | 3=>(match gX P t with | some a=>.zz a | none=>.other o mode)
   | 5=>.other o mode
   | _=>match P.underlying t with | some (.slice _)=>.take | _=>.other o mode
 | .store t _ _=>match mode,bD P t with | 0,some s=>.st s | 2,some s=>.Bj s | _+1,some 1=>.Bk | _,_=>.other o mode
 | .box _ _=>match mode with | 0=>.box | _=>.yr
 | .alloc t=>match mode with
   | 0=>(match zeroCells P t with | some z=>.alloc z | none=>.other o mode)
   | _=>(match zeroCells P t,P.underlying t with
     | some [.ax [] 0 .full],some (.slice e)=>(match bD P e with | some s=>.alloc [.ax [] 0 (.own s)] | none=>.other o mode)
     | _,_=>.other o mode)
 | .makeSlice t _ _=>match mode,P.underlying t with
   | 0,some (.slice e)=>(match bD P e,zeroCells P e,(P.info? e).map (·.bytes) with
     | some s,some z,some bytes=>(match Nat.beq z.length s && Nat.blt 0 s && Nat.ble 1 bytes with | true=>.zV z s bytes | false=>.other o mode)
     | _,_,_=>.other o mode)
   | _+1,some (.slice e)=>(match bD P e,zeroCells P e,(P.info? e).map (·.bytes) with
     | some s,some z,some bytes=>(match Nat.beq z.length s && Nat.blt 0 s && Nat.ble 1 bytes with | true=>.zU z s bytes | false=>.other o mode)
     | _,_,_=>.other o mode)
   | _,_=>.other o mode
 | .call c=>match c.callee with
   | .builtin b=>match b with
     | .len=>(match iS P c.argTypes[0]? with
       | true=>.zD
       | false=>match (c.argTypes[0]?).bind P.underlying with | some (.array n _)=>.zB n | some (.map _ _)=>.zC | _=>.other o mode)
     | .delete=>(match (c.argTypes[0]?).bind (mG P) with | some x=>.zL x.1 | none=>.other o mode)
     | .min=>.min
     | .max=>.max
     | .append=>(match c.argTypes.toList with
       | [t,dt]=>(match Nat.beq t dt,P.underlying t with
         | true,some (.slice e)=>(match bD P e,zeroCells P e,(P.info? e).map (·.bytes) with
           | some s,some z,some bytes=>(match Nat.beq z.length s && Nat.blt 0 s && Nat.ble 1 bytes,mode with | true,0=>.app s bytes | true,_=>.yl s bytes | false,_=>.other o mode)
           | _,_,_=>.other o mode)
         | _,_=>.other o mode)
       | _=>.other o mode)
     | _=>.other o mode
   | .value _=>.call mode
   | .invoke _ _=>.other o mode
 | .makeMap t r=>match r,P.underlying t with | none,some (.map _ _)=>.zT | _,_=>.other o mode
 | .mapUpdate t _ _ _=>match mG P t with | some x=>.zN x.1 | none=>.other o mode
 | .lookup t _ _ ok=>match mG P t with | some x=>.zM x.1 ok (oK P x.2) | none=>.other o mode
 | .range t _=>match P.underlying t with | some (.map _ _)=>.AN | _=>.other o mode
 | .entry _=>.yC
 | .pick _ _ _=>.pick
 | .build t parts=>match zeroCells P t,P.underlying t with
   | some z,some (.struct bm)=>(match bm.toList.all (fun f=>(bD P f.type).isSome),mM (fun i=>(bm[i]?).bind fun f=>(bD P f.type).map fun s=>(f.offset,s)) (parts.toList.map (·.1)) with
     | true,some bo=>(match mode with | 0=>.build z bo | k+1=>.yu k z bo)
     | _,_=>.other o mode)
   | some z,some (.array _ e)=>(match bD P e,mode with | some s,0=>.build z (parts.toList.map fun p=>(p.1*s,s)) | _,_=>.other o mode)
   | _,_=>.other o mode
 | .buildSlice t len parts=>match P.underlying t with
   | some (.slice e)=>(match bD P e,zeroCells P e with
     | some s,some z=>(match Nat.beq z.length s && Nat.blt 0 s && Nat.ble (len*s) 16777216,mode with | true,0=>.yv len s z (parts.toList.map (·.1)) | true,_=>.yt len s z (parts.toList.map (·.1)) | false,_=>.other o mode)
     | _,_=>.other o mode)
   | _=>.other o mode
 | .nilCheck _=>.zY
 | .binOp op t _ y _=>match iR y,P.underlying t with
   | false,some (.int _)=>.bin op
   | false,some .bool=>(match op with | .eql=>.oW false | .neq=>.oW true | _=>.other o mode)
   | _,_=>.other o mode
 | .unOp op _ _=>.un op
 | .convert src dst _=>match P.underlying src,P.underlying dst with
   | some _,some (.int k)=>.conv k
   | _,_=>.other o mode
 | .makeFunc fn first captured=>match fn with | .func f=>.zS f first.size captured.size | _=>.other o mode
 | .slice t _ l h m=>match P.underlying t with
   | some (.slice e)=>(match bD P e with | some s=>.Bh s l.isSome h.isSome m.isSome | none=>.other o mode)
   | _=>.other o mode
 | .fieldAddr t _ f=>match P.underlying t with
   | some (.struct bm)=>(match (bm[f]?).bind fun g=>(bD P g.type).map fun s=>(s,g.offset) with
     | some (s+1,off)=>.yH off
     | _=>.other o mode)
   | _=>.other o mode
 | .field t _ f=>match P.underlying t with
   | some (.struct bm)=>(match (bm[f]?).bind fun g=>(gX P g.type).map fun a=>(a,g.offset) with
     | some (a,off)=>.yN off a
     | _=>.other o mode)
   | _=>.other o mode
 | .indexAddr t _ _=>match P.underlying t with
   | some (.slice e)=>(match bD P e with | some s=>.kR s | none=>.other o mode)
   | some (.array len e)=>(match bD P e with | some s=>.zo len s | none=>.other o mode)
   | _=>.other o mode
 | .extract _ i=>.ext i
 | _=>.other o mode
where
 mM {α β:Type} (f:α→Option β):List α→Option (List β)
  | []=>some []
  | x::xs=>match f x with | some y=>(mM f xs).map (y::·) | none=>none
end
end Go.Proofs.YtfakoboiahbhaaaGreat.Ab


namespace Go.Proofs.YtfakoboiahbhaaaGreat.Ab
open Go
section
variable {P:Program} {H:List ar}
theorem gl {n bytes:Nat} (ad:n*bytes≤140737488355328) (af:1≤bytes):fy n bytes=true:=by
 simp only [fy,sO,uO];exact ⟨ad,af⟩
theorem E1 {lo:Nat} {t:TypeId} {a:e'} (cc:gX P t=some a) {v:I} {K:I→List ar→Prop} (h:xP a v H K):∃ r H',dP P lo 0 t H [v]=some (r,H')∧K r H':=by
 unfold xP at h;split at h
 ·obtain ⟨x,ao,h⟩:=e6 h;split at h
  ·obtain ⟨r,ad,af⟩:=nX cc h;exact ⟨r,H,by simp [dP,dS,ao,ad],af⟩
  ·obtain ⟨r,ad,af⟩:=nX cc h;exact ⟨r,H,by simp [dP,dS,ao,ad],af⟩
  ·exact h.elim
 ·obtain ⟨r,ad,af⟩:=nX cc h;exact ⟨r,H,by simp [dP,dS,ad],af⟩
 ·exact h.elim
theorem E7 {lo mode:Nat} {t e:TypeId} (hm:mode≠0) (jP:mode≠2) (y5:mode≠3) (y6:mode≠5) (ay:P.underlying t=some (.slice e)) {v:I} {K:I→List ar→Prop} (h:xU lo v H K):∃ r H',dP P lo mode t H [v]=some (r,H')∧K r H':=by
 unfold xU at h;split at h
 ·split at h
  ·rename_i bC;obtain ⟨x,ao,h⟩:=e6 h;have bC:=uq bC;split at h
   ·obtain ⟨v,ae,h⟩:=e6 h;split at h
    ·refine ⟨_,_,?_,h⟩;cases mode with
     | zero=>exact absurd rfl hm
     | succ m=>simp only [dP,ay,bC,if_true,ao,ae]
    ·refine ⟨_,_,?_,h⟩;cases mode with
     | zero=>exact absurd rfl hm
     | succ m=>simp only [dP,ay,bC,if_true,ao,ae];rfl
    ·refine ⟨_,_,?_,h⟩;cases mode with
     | zero=>exact absurd rfl hm
     | succ m=>simp only [dP,ay,bC,if_true,ao,ae];rw [if_neg jP]
    ·exact h.elim
   ·obtain ⟨v,ae,h⟩:=e6 h;split at h
    ·refine ⟨_,_,?_,h⟩;cases mode with
     | zero=>exact absurd rfl hm
     | succ m=>simp only [dP,ay,bC,if_true,ao,ae]
    ·refine ⟨_,_,?_,h⟩;cases mode with
     | zero=>exact absurd rfl hm
     | succ m=>simp only [dP,ay,bC,if_true,ao,ae]
    ·exact h.elim
   ·exact h.elim
  ·exact h.elim
 ·exact h.elim
theorem E6 {lo:Nat} {t e:TypeId} (ay:P.underlying t=some (.slice e)) {v:I} {K:I→List ar→Prop} (h:xV lo v H K):∃ r H',dP P lo 2 t H [v]=some (r,H')∧K r H':=by
 unfold xV at h;split at h
 ·split at h
  ·rename_i bC;obtain ⟨x,ao,h⟩:=e6 h;have bC:=uq bC;split at h
   ·obtain ⟨v,ae,h⟩:=e6 h;split at h
    ·exact ⟨_,_,by simp only [dP,ay,bC,if_true,ao,ae];rw [if_neg h.1],h.2⟩
    ·exact ⟨_,_,by simp only [dP,ay,bC,if_true,ao,ae];rfl,h⟩
    ·exact h.elim
   ·exact h.elim
  ·exact h.elim
 ·exact h.elim
theorem E4 {lo mode:Nat} {t:TypeId} (hm:mode≠0) (jP:mode≠2) (ai:bD P t=some 1) {p v:I} {K:I→List ar→Prop} (h:xT lo p v H K):∃ r H',gP P lo mode t H [p,v]=some (r,H')∧K r H':=by
 unfold xT at h;split at h
 ·split at h
  ·rename_i bC;have bC:=uq bC;obtain ⟨x,ao,h⟩:=e6 h;split at h
   ·split at h
    ·obtain ⟨ad,af,h⟩:=h;obtain ⟨aG,h⟩:=lr h;refine ⟨.junk,_,?_,h⟩;cases mode with
     | zero=>exact absurd rfl hm
     | succ m =>
       have e:∀ a v,gP P lo (m+1) t H [a,v]=(km P lo H t a v).map fun H'=>(.junk,H'):=fun a v=>by
        cases m with
        | zero=>rfl
        | succ m=>cases m with
          | zero=>exact absurd rfl jP
          | succ m=>rfl
       rw [e];simp only [km,ai];rw [if_pos ⟨ad,af⟩];simp only [fP,bC,if_true,ao];rw [if_pos aG];rfl
    ·exact h.elim
   ·exact h.elim
  ·exact h.elim
 ·exact h.elim
theorem E3 {lo s:Nat} {t:TypeId} (ai:bD P t=some s) {p v:I} {K:I→List ar→Prop} (h:xS lo s p v H K):∃ r H',gP P lo 2 t H [p,v]=some (r,H')∧K r H':=by
 unfold xS at h;split at h
 ·split at h
  ·rename_i bC;have bC:=uq bC;obtain ⟨x,ao,h⟩:=e6 h;split at h
   ·split at h
    ·split at h
     ·rename_i ag;have ag:=tw ag;obtain ⟨aG,h⟩:=m9 h;refine ⟨.junk,_,?_,h⟩;have a6:∀ {a b:Nat},a+b≤a+b:=fun {a b}=>sB _;simp only [List.length_append,sV] at aG;simp only [gP,lJ,ai];rw [if_pos ag];simp only [fP,bC,if_true,ao];rw [if_pos (by rcases aG with aG | aG <;> first | omega | simp at aG)];rfl
     ·exact h.elim
    ·exact h.elim
   ·exact h.elim
  ·exact h.elim
 ·exact h.elim
theorem z3 {i:Nat} {c:List I} {n s:Nat} {q:hv} {r:List (Nat×I)} (a0:q=.own s∨q=.uniq s):∀ (l pre:List (Nat×I)),(∀ x∈l,x.2.plain=true)→iZ pre (l++(i,.ax c n q)::r)=some (pre++l,i,c,n,s,r)
 | [],pre,_=>by rcases a0 with rfl | rfl <;> simp [iZ]
 | (j,u)::l,pre,h=>by
   have hu:u.plain=true:=h (j,u) (by simp);have a_:=z3 (i:=i) (c:=c) (n:=n) (r:=r) a0 l (pre++[(j,u)]) fun x ak=>h x (by simp [ak]);rw [sH,List.singleton_append] at a_;rw [uK,←a_];cases u with
   | ax c n k=>cases k <;> first | rfl | simp [I.plain] at hu
   | _=>rfl
theorem E0 {t:TypeId} {bm:Array Field} {z:List I} (bk:zeroCells P t=some z) (hu:P.underlying t=some (.struct bm)) (cU:bm.toList.all (fun f=>(bD P f.type).isSome)=true) {ix:List Nat} {bo:List (Nat×Nat)}
  (kK:ix.map (fun i=>(bm[i]?).bind fun f=>(bD P f.type).map fun s=>(f.offset,s))=bo.map some) {k:Nat} {vs:List I} {K:I→List ar→Prop} (h:xO k z bo vs H K):∃ r,kl P t (ix.zip vs)=some r∧K r H:=by
 have key:∀ {c:List I} {n s off:Nat} {q:hv} {post:List I} {dQ:List (Nat×Nat)},vs.drop k=.ax c n q::post→bo.drop k=(off,1)::dQ→(q=.own s∨q=.uniq s) →
   ((vs.take k).all I.plain && post.all I.plain && dQ.all fun p=>Nat.blt off p.1 || Nat.ble (p.1+p.2) off)=true →
   (ga (bo.take k) (vs.take k) z fun eQ=>match Nat.blt off eQ.length with
   | true=>ga dQ post (eQ.set off .junk) fun ef=>K (.cZ (ef.take off) c n s (ef.drop (off+1))) H
   | false=>False)→∃ r,kl P t (ix.zip vs)=some r∧K r H:=by
  intro c n s off q post dQ ae aB a0 l9 h;simp only [sO,sR] at l9;obtain ⟨⟨a',bb⟩,bt⟩:=l9;have GU:k<vs.length:=by
   have:=congrArg List.length ae;simp at this;omega
  have GR:k<bo.length:=by
   have:=congrArg List.length aB;simp at this;omega
  have GQ:ix.length=bo.length:=by have:=congrArg List.length kK;simpa using this
  have iL:k<ix.length:=by omega
  have aA:vs=vs.take k++.ax c n q::post:=by rw [←ae,uW]
  have Ch:ix=ix.take k++ix[k]::ix.drop (k+1):=by rw [←tn iL,uW]
  have bS:(ix.take k).map (fun i=>(bm[i]?).bind fun f=>(bD P f.type).map fun s=>(f.offset,s))=(bo.take k).map some:=by rw [ur,kK,ur]
  have bZ:(ix.drop k).map (fun i=>(bm[i]?).bind fun f=>(bD P f.type).map fun s=>(f.offset,s))=(bo.drop k).map some:=by rw [uC,kK,uC]
  rw [tn iL,aB,sG,sG,List.cons.injEq] at bZ;obtain ⟨bZ,ed⟩:=bZ;obtain ⟨eQ,f1,h⟩:=iE h bS;split at h
  ·rename_i aS;(have aS:off<eQ.length:=by simpa [tF] using aS);obtain ⟨ef,f2,h⟩:=iE h ed;refine ⟨_,?_,h⟩;have Cn:ix.zip vs=(ix.take k).zip (vs.take k)++(ix[k],.ax c n q)::(ix.drop (k+1)).zip post:=by
    (conv=>lhs;rw [Ch,aA]);rw [List.zip_append (by simp;omega),wB]
   have aD:iZ [] (ix.zip vs)=some ((ix.take k).zip (vs.take k),ix[k],c,n,s,(ix.drop (k+1)).zip post):=by
    rw [Cn,z3 a0 _ _ (fun x ak=>a' x.2 (vZ (a:=x.1) (b:=x.2) ak).2),List.nil_append]
   have hE:(((ix.take k).zip (vs.take k)).all (fun x=>x.2.plain) && ((ix.drop (k+1)).zip post).all (fun x=>x.2.plain) && ((ix.drop (k+1)).zip post).all (fun x=>match (bm[x.1]?).bind fun f=>(bD P f.type).map fun s=>(f.offset,s) with | some (o,s)=>decide (off<o∨o+s≤off) | none=>false))=true:=by
    simp only [sO,sR];refine ⟨⟨fun x ak=>a' x.2 (vZ (a:=x.1) (b:=x.2) ak).2,fun x ak=>bb x.2 (vZ (a:=x.1) (b:=x.2) ak).2⟩,fun x ak=>?_⟩;have hm:=(vZ (a:=x.1) (b:=x.2) ak).1;have jP:(bm[x.1]?).bind (fun f=>(bD P f.type).map fun s=>(f.offset,s))∈dQ.map some:=by
     rw [←ed];exact List.mem_map_of_mem hm
    obtain ⟨p,aB,e⟩:=sM.1 jP;have:=bt p aB;rw [←e];simp only [uc,tF,uO] at this;exact decide_eq_true this
   unfold kl;rw [bk,hu,aD];dsimp only;rw [cU,bZ];split
   ·rename_i e1 ca;cases ca;split
    ·rw [f1];simp only [sx];rw [if_pos aS,f2];rfl
    ·rename_i al;exact absurd (al.symm.trans hE) (by simp)
   ·rename_i eV;exact absurd rfl (eV off rfl)
  ·exact h.elim
 unfold xO at h;split at h
 ·rename_i ae aB;split at h
  ·rename_i al;exact key ae aB (.inl rfl) al h
  ·exact h.elim
 ·rename_i ae aB;split at h
  ·rename_i al;exact key ae aB (.inr rfl) al h
  ·exact h.elim
 ·exact h.elim
theorem E5 {lo s:Nat} {t:TypeId} (ai:bD P t=some s) {p v:I} {K:I→List ar→Prop} (h:xR lo s p v H K):∃ r H',gP P lo 0 t H [p,v]=some (r,H')∧K r H':=by
 unfold xR at h;split at h
 ·split at h
  ·rename_i bC;have bC:=uq bC;obtain ⟨x,ao,h⟩:=e6 h;split at h
   ·rcases lQ h with ⟨ad,av⟩ | ⟨vc,ad,_,av⟩
    ·split at av
     ·rename_i af;have af:=tw af;rw [x3] at av;obtain ⟨aG,av⟩:=lr av;clear h;subst af;exact ⟨.junk,_,by simp only [gP,iB,ai,ad,hg,bC,if_true,ao];rw [if_pos ⟨rfl,by omega⟩];rfl,av⟩
     ·exact av.elim
    ·split at av
     ·rename_i af a6;have af:=tw af;(have a6:0<s:=by simpa [tF] using a6);obtain ⟨aG,av⟩:=m9 av;(have bM:=aG.resolve_right fun aG=>by simp only [List.map_eq_nil_iff] at aG;rw [aG] at af;simp only [uV] at af;omega);simp only [td,af] at bM;exact ⟨.junk,_,by simp only [gP,iB,ai,ad,hg,bC,if_true,ao];rw [if_pos ⟨af,bM⟩];rfl,av⟩
     ·exact av.elim
   ·rcases lQ h with ⟨ad,av⟩ | ⟨vc,ad,_,av⟩
    ·split at av
     ·rename_i af;have af:=tw af;rw [x3] at av;obtain ⟨aG,av⟩:=lr av;clear h;subst af;exact ⟨.junk,_,by simp only [gP,iB,ai,ad,hg,bC,if_true,ao];rw [if_pos ⟨rfl,by omega⟩];rfl,av⟩
     ·exact av.elim
    ·split at av
     ·rename_i af a6;have af:=tw af;(have a6:0<s:=by simpa [tF] using a6);obtain ⟨aG,av⟩:=m9 av;(have bM:=aG.resolve_right fun aG=>by simp only [List.map_eq_nil_iff] at aG;rw [aG] at af;simp only [uV] at af;omega);simp only [td,af] at bM;exact ⟨.junk,_,by simp only [gP,iB,ai,ad,hg,bC,if_true,ao];rw [if_pos ⟨af,bM⟩];rfl,av⟩
     ·exact av.elim
   ·exact h.elim
  ·exact h.elim
 ·exact h.elim
theorem EZ {v:I} {K:I→List ar→Prop} (h:xM v H K):∃ r H',gO 0 H [v]=some (r,H')∧K r H':=by
 unfold xM at h;rcases lQ h with ⟨ad,h⟩ | ⟨vc,ad,_,h⟩
 ·rw [x3] at h;exact ⟨_,_,by simp only [gO,ad,sD,sG,List.map_nil],h⟩
 ·exact ⟨_,_,by simp only [gO,ad,sD],h⟩
theorem EY {mode:Nat} (hm:mode≠0) {v:I} {K:I→List ar→Prop} (h:xN v H K):∃ r H',gO mode H [v]=some (r,H')∧K r H':=by
 unfold xN at h;cases mode with
 | zero=>exact absurd rfl hm
 | succ m =>
 rcases lQ h with ⟨ad,af,h⟩ | ⟨vc,ad,_,af,h⟩
 ·have aG:[v].all I.plain=true:=by simp [af]
  exact ⟨_,_,by simp only [gO,ad,aG],h⟩
 ·exact ⟨_,_,by simp only [gO,ad,af],h⟩
theorem zR:∀ (l:List I) (a:Int) {K:Int→Prop},xw l a K→∃ n,k0 l a=some n∧K n
 | [],a,K,h=>⟨a,rfl,h⟩
 | .int k b::r,a,K,h=>by
   obtain ⟨n,ad,af⟩:=zR r _ h;(have e:min a b=if b<a then b else a:=by split <;> omega);rw [e] at ad;exact ⟨n,ad,af⟩
 | .junk::_,_,_,h | .bool _::_,_,_,h | .eJ::_,_,_,h | .ptr _ _::_,_,_,h | .bU _::_,_,_,h | .ax _ _ _::_,_,_,h | .ref _ _ _ _ _::_,_,_,h | .func _ _ _::_,_,_,h | .yield _::_,_,_,h | .map _::_,_,_,h
 | .agg _::_,_,_,h | .tuple _::_,_,_,h | .str _::_,_,_,h | .raw _ _ _::_,_,_,h | .cl _ _ _ _::_,_,_,h=>h.elim
theorem zQ:∀ (l:List I) (a:Int) {K:Int→Prop},xv l a K→∃ n,kZ l a=some n∧K n
 | [],a,K,h=>⟨a,rfl,h⟩
 | .int k b::r,a,K,h=>by
   obtain ⟨n,ad,af⟩:=zQ r _ h;(have e:max a b=if b > a then b else a:=by split <;> omega);rw [e] at ad;exact ⟨n,ad,af⟩
 | .junk::_,_,_,h | .bool _::_,_,_,h | .eJ::_,_,_,h | .ptr _ _::_,_,_,h | .bU _::_,_,_,h | .ax _ _ _::_,_,_,h | .ref _ _ _ _ _::_,_,_,h | .func _ _ _::_,_,_,h | .yield _::_,_,_,h | .map _::_,_,_,h
 | .agg _::_,_,_,h | .tuple _::_,_,_,h | .str _::_,_,_,h | .raw _ _ _::_,_,_,h | .cl _ _ _ _::_,_,_,h=>h.elim
theorem E8 {lo:Nat} {t:TypeId} {x:Operand} {v:I} {K:I→List ar→Prop} (h:xW v H K):∃ r H',eY P lo 1 t x H [v]=some (r,H')∧K r H':=by
 unfold xW at h;split at h
 ·rcases h with h | h
  ·exact ⟨_,_,by simp only [eY];rw [if_neg h.1],h.2⟩
  ·exact ⟨_,_,by simp only [eY];rw [if_pos h.1],h.2⟩
 ·exact ⟨_,_,rfl,h⟩
 ·exact ⟨_,_,rfl,h⟩
 ·exact h.elim
theorem Ay {t e:TypeId} {s bytes:Nat} (ay:P.underlying t=some (.slice e)) (ai:bD P e=some s) {z:List I} (bk:zeroCells P e=some z) (ag:(P.info? e).map (·.bytes)=some bytes)
  (ey:z.length=s) (aV:0<s) (ad:1≤bytes) {x y:I} {new:List I} {m:Nat} (eS:appended H y=some (m,new)) {K:I→List ar→Prop} (h:ou s bytes x new m H K):∃ r H',iW P #[t,t] H [x,y]=some (r,H')∧K r H':=by
 unfold ou at h;obtain ⟨aC,aI,h⟩:=h;have al:new.length=m*s∧0<s∧z.length=s∧fy m bytes=true:=⟨aC,aV,ey,gl aI ad⟩;have key:∀ {r:I},fc P H t t x y=some r→iW P #[t,t] H [x,y]=some (r,H):=fun h=>by simp [iW,h]
 have beq:Nat.beq t t=true:=wG t;split at h
 ·obtain ⟨bq,h⟩:=h;subst bq;refine ⟨_,_,key ?_,h⟩;simp only [fc,ay,ai,ag,bk,beq,eS];rw [if_pos al];rfl
 ·obtain ⟨bq,cI,eE,h⟩:=h;refine ⟨_,_,key ?_,h⟩;simp only [fc,ay,ai,ag,bk,beq,eS];rw [if_pos al];simp only [bq,if_false];rw [if_pos ⟨gl cI ad,eE⟩]
 ·obtain ⟨bq,cI,h⟩:=h;refine ⟨_,_,key ?_,h⟩;simp only [fc,ay,ai,ag,bk,beq,eS];rw [if_pos al];simp only [bq];rw [if_pos ⟨trivial,gl cI ad⟩]
 ·obtain ⟨bq,cI,h⟩:=h;refine ⟨_,_,key ?_,h⟩;simp only [fc,ay,ai,ag,bk,beq,eS];rw [if_pos al];simp only [bq];rw [if_pos ⟨trivial,gl cI ad⟩]
 ·exact h.elim
theorem EX {t e:TypeId} {s bytes:Nat} (ay:P.underlying t=some (.slice e)) (ai:bD P e=some s) {z:List I} (bk:zeroCells P e=some z) (ag:(P.info? e).map (·.bytes)=some bytes)
  (ey:z.length=s) (aV:0<s) (ad:1≤bytes) {x y:I} {K:I→List ar→Prop} (h:xK s bytes x y H K):∃ r H',iW P #[t,t] H [x,y]=some (r,H')∧K r H':=by
 unfold xK at h;split at h
 ·rename_i new m c;exact Ay ay ai bk ag ey aV ad (y:=.ax new m c) rfl h
 ·rename_i id off m c cT;obtain ⟨o,aq,h⟩:=e6 h;split at h
  ·rename_i l;obtain ⟨bq,h⟩:=h;refine Ay ay ai bk ag ey aV ad (y:=.ref id off m c cT) ?_ h;simp only [appended,lenOf,rowOf,aq,if_pos bq]
  ·exact h.elim
 ·exact h.elim
theorem Nat.B6 {a b:Nat} (h:b=a):Nat.blt a b=false:=by
 cases ag:Nat.blt a b with
 | false=>rfl
 | true=>have:=uq ag;omega
theorem EW {lo:Nat} {t e:TypeId} {s bytes:Nat} (ay:P.underlying t=some (.slice e)) (ai:bD P e=some s) {z:List I} (bk:zeroCells P e=some z) (ag:(P.info? e).map (·.bytes)=some bytes)
  (ey:z.length=s) (aV:0<s) (ad:1≤bytes) {x y:I} {K:I→List ar→Prop} (h:xL lo s bytes x y H K):∃ r H',iX P lo #[t,t] H [x,y]=some (r,H')∧K r H':=by
 unfold xL at h;split at h
 ·rename_i new m c;obtain ⟨⟨aC,aI⟩,h⟩:=h;have eS:appended H (.ax new m c)=some (m,new):=rfl;have al:new.length=m*s∧0<s∧z.length=s∧fy m bytes=true:=⟨aC,aV,ey,gl aI ad⟩;have beq:Nat.beq t t=true:=wG t;split at h
  ·rename_i cells n;obtain ⟨⟨bq,cI,eE⟩,h⟩:=h;refine ⟨_,_,?_,h⟩;have q:fc P H t t (.ax cells n .full) (.ax new m c)=some (.ax (cells++new) (n+m) (.uniq s)):=by
    simp only [fc,ay,ai,ag,bk,beq,eS];rw [if_pos al];simp only [bq,if_false];rw [if_pos ⟨gl cI ad,eE⟩]
   simp only [iX,je,ig,q];rw [if_neg (by omega)]
  ·rename_i cells n cT;obtain ⟨⟨rfl,bq,cI⟩,h⟩:=h;refine ⟨_,_,?_,h⟩;have q:fc P H t t (.ax cells n (.uniq cT)) (.ax new m c)=some (.ax (cells++new) (n+m) (.uniq cT)):=by
    simp only [fc,ay,ai,ag,bk,beq,eS];rw [if_pos al];rw [if_pos ⟨trivial,gl cI ad⟩]
   simp only [iX,je,ig,q];rw [if_neg (by omega)]
  ·rename_i id gid n z;split at h
   ·rename_i bC;have bC:=uq bC;obtain ⟨o,aE,h⟩:=e6 h;split at h
    ·rcases h with ⟨⟨cb,b6,er,bq,cI,eE⟩,bM⟩ | ⟨⟨cb,b6,er,bq,cI,eE⟩,bM⟩
     ·subst cb b6 er;refine ⟨_,_,?_,bM⟩;have iI:=Nat.B6 bq;simp only [iX,je,aE,iI,Bool.false_and];simp only [ig,bC,if_true,ay,aE,ai,ag,bk,eS];rw [if_pos ⟨trivial,trivial,trivial,trivial,bq,aC,aV,cI,ey,gl aI ad,gl eE ad⟩]
     ·rename_i l g cT;subst cb b6 er;refine ⟨_,_,?_,bM⟩;have iI:Nat.blt (n*cT) l.length=true:=uF bq;have gH:Nat.ble lo id=true:=uF bC;have C6:=(sv.1 aE).1;(have pF:(H.set id (.grow (l.take (n*cT)) g cT))[id]?=some (.grow (l.take (n*cT)) g cT):=by rw [sI C6]);simp only [iX,je,aE,iI,gH,Bool.and_self];simp only [ig,bC,if_true,ay,pF,ai,ag,bk];have CG:appended (H.set id (.grow (l.take (n*cT)) g cT)) (.ax new m c)=some (m,new):=rfl;simp only [CG];rw [if_pos ⟨trivial,trivial,trivial,trivial,by rw [List.length_take];omega,aC,aV,cI,ey,gl aI ad,gl eE ad⟩,List.set_set,tA]
    ·exact h.elim
   ·exact h.elim
  ·exact h.elim
 ·exact h.elim
theorem E2 {t e:TypeId} {s:Nat} (ay:P.underlying t=some (.slice e)) (ai:bD P e=some s) {l h m:Option Operand} {x:I} {vs:List I} {K:I→List ar→Prop}
  (av:xQ s l.isSome h.isSome m.isSome x vs H K):∃ r,ek P t l h m (x::vs)=some r∧K r H:=by
 unfold xQ at av;split at av
 ·rename_i cells n c;split at av
  ·rename_i e1 ca dx;obtain rfl:=tM.1 e1 |> tN.1;obtain rfl:=tM.1 ca |> tN.1;obtain rfl:=tM.1 dx |> tN.1;split at av
   ·exact ⟨_,by simp [ek,ay,ai,cH,dr],av⟩
   ·exact ⟨_,by simp [ek,I.view,e2,ay,ai,cH,dr],av⟩
   ·exact av.elim
  ·rename_i k i e1 ca dx;obtain ⟨l,rfl⟩:=tR.1 e1;obtain rfl:=tM.1 ca |> tN.1;obtain rfl:=tM.1 dx |> tN.1;split at av
   ·obtain ⟨⟨rfl,ag⟩,av⟩:=av;exact ⟨_,by simp [ek,ay,ai,cH,dr,ag],av⟩
   ·obtain ⟨ag,av⟩:=av;exact ⟨_,by simp [ek,I.view,e2,ay,ai,cH,dr,ag],av⟩
   ·obtain ⟨ag,av⟩:=av;exact ⟨_,by simp [ek,I.view,e2,ay,ai,cH,dr,ag],av⟩
   ·exact av.elim
  ·rename_i k j e1 ca dx;obtain rfl:=tM.1 e1 |> tN.1;obtain ⟨h,rfl⟩:=tR.1 ca;obtain rfl:=tM.1 dx |> tN.1;split at av
   ·obtain ⟨ag,av⟩:=av;exact ⟨_,by simp [ek,ay,ai,cH,dr,ag],av⟩
   ·obtain ⟨ag,av⟩:=av;exact ⟨_,by simp [ek,I.view,e2,ay,ai,cH,dr,ag],av⟩
   ·obtain ⟨ag,av⟩:=av;exact ⟨_,by simp [ek,I.view,e2,ay,ai,cH,dr,ag],av⟩
   ·exact av.elim
  ·rename_i k i k' j e1 ca dx;obtain ⟨l,rfl⟩:=tR.1 e1;obtain ⟨h,rfl⟩:=tR.1 ca;obtain rfl:=tM.1 dx |> tN.1;have aw:0≤i∧i≤j∧j≤n→(0≤j∧j≤n)∧i≤max j 0:=fun ag=>⟨⟨by omega,ag.2.2⟩,by omega⟩;split at av
   ·obtain ⟨ag,av⟩:=av;obtain ⟨q1,aX⟩:=aw ag;exact ⟨_,by simp [ek,I.view,e2,ay,ai,cH,dr,q1,aX,ag.1],av⟩
   ·obtain ⟨ag,av⟩:=av;obtain ⟨q1,aX⟩:=aw ag;exact ⟨_,by simp [ek,I.view,e2,ay,ai,cH,dr,q1,aX,ag.1],av⟩
   ·obtain ⟨ag,av⟩:=av;obtain ⟨q1,aX⟩:=aw ag;exact ⟨_,by simp [ek,I.view,e2,ay,ai,cH,dr,q1,aX,ag.1],av⟩
   ·exact av.elim
  ·rename_i k j k' zs e1 ca dx;obtain rfl:=tM.1 e1 |> tN.1;obtain ⟨h,rfl⟩:=tR.1 ca;obtain ⟨m,rfl⟩:=tR.1 dx;obtain ⟨⟨rfl,ag⟩,av⟩:=av;(have q:j≤max j 0:=by omega);refine ⟨_,?_,av⟩;cases c <;> simp [ek,I.view,e2,ay,ai,cH,dr,ag,q]
  ·rename_i k i k' j G4 zs e1 ca dx;obtain ⟨l,rfl⟩:=tR.1 e1;obtain ⟨h,rfl⟩:=tR.1 ca;obtain ⟨m,rfl⟩:=tR.1 dx;obtain ⟨⟨rfl,ag⟩,av⟩:=av;(have q:j≤max j 0:=by omega);(have aX:i≤max j 0:=by omega);(have cy:0≤j:=by omega);refine ⟨_,?_,av⟩;cases c <;> simp [ek,I.view,e2,ay,ai,cH,dr,ag,q,aX,cy]
  ·exact av.elim
 ·rename_i id off n cap sz;split at av
  ·rename_i k i e1 ca dx;obtain ⟨l,rfl⟩:=tR.1 e1;obtain rfl:=tM.1 ca |> tN.1;obtain rfl:=tM.1 dx |> tN.1;obtain ⟨rfl,ag,aJ,aQ⟩:=av;by_cases hi:i<n
   ·(have hi':i.toNat<n:=by omega);exact ⟨_,by simp [ek,I.view,e2,ay,ai,cH,dr,ag,hi'],aJ hi⟩
   ·(have hi':¬ i.toNat<n:=by omega);exact ⟨_,by simp [ek,I.view,e2,ay,ai,cH,dr,ag,hi'],aQ (by omega)⟩
  ·rename_i k j e1 ca dx;obtain rfl:=tM.1 e1 |> tN.1;obtain ⟨h,rfl⟩:=tR.1 ca;obtain rfl:=tM.1 dx |> tN.1;obtain ⟨rfl,⟨bq,cI,eE⟩,av⟩:=av;(have al:cap.map (·-0)=cap:=by cases cap <;> rfl);exact ⟨_,by simp [ek,I.view,e2,ay,ai,cH,dr,bq,cI,eE],av⟩
  ·exact av.elim
 ·rename_i id gid n z;split at av
  ·rename_i k j e1 ca dx;obtain rfl:=tM.1 e1 |> tN.1;obtain ⟨h,rfl⟩:=tR.1 ca;obtain rfl:=tM.1 dx |> tN.1;obtain ⟨ag,av⟩:=av;exact ⟨_,by simp [ek,ay,ai,cH,dr,ag],av⟩
  ·exact av.elim
 ·exact av.elim
end
end Go.Proofs.YtfakoboiahbhaaaGreat.Ab


namespace Go.Proofs.YtfakoboiahbhaaaGreat.Ab
open Go
section
variable {P:Program} {H:List ar}
theorem xt {α β:Type} {f:α→Option β}:∀ {l:List α} {r:List β},ho.mM f l=some r→l.map f=r.map some
 | [],r,h=>by simp [ho.mM] at h;subst h;rfl
 | x::xs,r,h=>by
   simp only [ho.mM] at h;split at h
   ·rename_i y aZ;simp only [su] at h;obtain ⟨ys,h,rfl⟩:=h;simp [aZ,xt h]
   ·simp at h
theorem xn {t:TypeId} {x:hX×TypeId} (h:mG P t=some x):∃ ea,j1 P t=some (ea,x.2)∧∀ k,kT x.1 k→isKey P ea k=true:=by
 unfold mG at h;split at h
 ·rename_i ea e hm;split at h
  ·rename_i q a0;cases h;refine ⟨ea,hm,fun k av=>?_⟩;cases k <;> simp only [kT] at av;subst av;simp [isKey,a0]
  ·rename_i bm ai;cases h;refine ⟨ea,hm,fun k av=>?_⟩;cases k <;> simp only [kT] at av;simp [isKey,ai,av]
  ·cases h
 ·cases h
theorem Aw {lo:Nat} {o:Oper} {mode:Nat} {vs:List I} {K:I→List ar→Prop} (h:bN P lo (ho P o mode) vs H K):∃ v H',(∀ C,a5 P C lo o mode vs H=some (v,H'))∧K v H':=by
 have G6:∀ {x:iw},x=.other o mode→bN P lo x vs H K→∃ v H',(∀ C,a5 P C lo o mode vs H=some (v,H'))∧K v H':=fun e h=>by subst e;exact h
 have pure:∀ {r:I},(∀ C,a5 P C lo o mode vs H=(cx P o vs).map (·,H))→cx P o vs=some r→K r H→∃ v H',(∀ C,a5 P C lo o mode vs H=some (v,H'))∧K v H':=fun ad af aG=>⟨_,H,fun C=>by rw [ad C,af];rfl,aG⟩;have mP:∀ x,(o.op=.move x∨o.op=.assign x)→(∀ C,a5 P C lo o mode vs H=eY P lo mode o.type x H vs)→bN P lo (oq P o mode x) vs H K→∃ v H',(∀ C,a5 P C lo o mode vs H=some (v,H'))∧K v H':=fun x _ hm h=>by
  unfold oq at h;split at h
  ·split at h
   ·rename_i e aN hu;split at h
    ·rename_i z bk;simp only [bN] at h;split at h
     ·exact ⟨_,_,fun C=>by rw [hm C];simp only [eY,aN,hu,bk,sD],h⟩
     ·exact h.elim
    ·exact h
   ·rename_i eV;simp only [bN] at h;split at h
    ·refine ⟨_,H,fun C=>?_,h⟩;rw [hm C];simp only [eY]
     try (split
          ·rename_i e ad af;exact absurd af (eV e ad)
          ·rfl)
    ·exact h.elim
  ·simp only [bN] at h;split at h
   ·obtain ⟨r,H',ad,af⟩:=E8 (P:=P) (lo:=lo) (t:=o.type) (x:=x) h;exact ⟨r,H',fun C=>by rw [hm C];exact ad,af⟩
   ·exact h.elim
  ·exact h
 unfold ho at h;cases aD:o.op <;> simp only [aD] at h <;> (try exact h)
 case move x=>exact mP x (.inl aD) (fun C=>by simp [a5,aD]) h
 case assign x=>exact mP x (.inr aD) (fun C=>by simp [a5,aD]) h
 case load t a =>
  split at h
  ·split at h
   ·rename_i BS cc;simp only [bN] at h;split at h
    ·obtain ⟨r,H',ad,af⟩:=E1 (P:=P) (lo:=lo) cc h;exact ⟨r,H',fun C=>by simp only [a5,aD];exact ad,af⟩
    ·exact h.elim
   ·exact h
  ·split at h
   ·rename_i e hu;simp only [bN] at h;split at h
    ·obtain ⟨r,H',ad,af⟩:=E6 (P:=P) (lo:=lo) hu h;exact ⟨r,H',fun C=>by simp only [a5,aD];exact ad,af⟩
    ·exact h.elim
   ·exact h
  ·split at h
   ·rename_i BS cc;simp only [bN] at h;split at h
    ·obtain ⟨r,ad,af⟩:=nX cc h;exact ⟨r,H,fun C=>by simp only [a5,aD,dP,ad,sD],af⟩
    ·exact h.elim
   ·exact h
  ·exact h
  ·rename_i hm jP y5 y6;split at h
   ·rename_i e hu;simp only [bN] at h;split at h
    ·obtain ⟨r,H',ad,af⟩:=E7 (P:=P) (lo:=lo) (mode:=mode) (fun e=>hm e) (fun e=>jP e) (fun e=>y5 e) (fun e=>y6 e) hu h;exact ⟨r,H',fun C=>by simp only [a5,aD];exact ad,af⟩
    ·exact h.elim
   ·exact h
 case store t a x =>
  split at h
  ·rename_i s ai;simp only [bN] at h;split at h
   ·obtain ⟨r,H',ad,af⟩:=E5 (P:=P) (lo:=lo) ai h;exact ⟨r,H',fun C=>by simp only [a5,aD];exact ad,af⟩
   ·exact h.elim
  ·rename_i s ai;simp only [bN] at h;split at h
   ·obtain ⟨r,H',ad,af⟩:=E3 (P:=P) (lo:=lo) ai h;exact ⟨r,H',fun C=>by simp only [a5,aD];exact ad,af⟩
   ·exact h.elim
  ·rename_i m eV ai;simp only [bN] at h;split at h
   ·obtain ⟨r,H',ad,af⟩:=E4 (P:=P) (lo:=lo) (mode:=m+1) (by omega) (fun e=>by first | exact eV _ e rfl | exact eV e | simp_all) ai h;exact ⟨r,H',fun C=>by simp only [a5,aD];exact ad,af⟩
   ·exact h.elim
  ·exact h
 case box e x =>
  split at h
  ·simp only [bN] at h;split at h
   ·obtain ⟨r,H',ad,af⟩:=EZ h;exact ⟨r,H',fun C=>by simp only [a5,aD];exact ad,af⟩
   ·exact h.elim
  ·rename_i hm;simp only [bN] at h;split at h
   ·obtain ⟨r,H',ad,af⟩:=EY (mode:=mode) (fun e=>hm e) h;exact ⟨r,H',fun C=>by simp only [a5,aD];exact ad,af⟩
   ·exact h.elim
 case alloc t =>
  split at h
  ·split at h
   ·rename_i z bk;exact ⟨_,_,fun C=>by simp only [a5,aD,k3,bk,sD],h⟩
   ·exact h
  ·rename_i hm;split at h
   ·rename_i e bk hu;split at h
    ·rename_i s ai;refine ⟨_,_,fun C=>?_,h⟩;simp only [a5,aD];unfold k3;split
     ·exact absurd rfl hm
     ·simp only [bk,hu,ai,sD]
    ·exact h
   ·exact h
 case makeSlice t a b =>
  split at h
  ·rename_i Et e hu;split at h
   ·rename_i s z bytes ai bk ag;split at h
    ·rename_i al;simp only [sO,vm,tF,uO] at al;obtain ⟨⟨a',bb⟩,bt⟩:=al;simp only [bN] at h;split at h
     ·unfold AK at h;split at h
      ·obtain ⟨d1,d2,d3,h⟩:=h;refine ⟨_,_,fun C=>?_,h⟩;simp only [a5,aD,j6];rw [if_pos ⟨d1,d2⟩];simp only [jm,hu,ai,bk,ag];rw [if_pos ⟨a',bb,gl d3 bt⟩];rfl
      ·exact h.elim
     ·exact h.elim
    ·exact h
   ·exact h
  ·rename_i Et m e hu;split at h
   ·rename_i s z bytes ai bk ag;split at h
    ·rename_i al;simp only [sO,vm,tF,uO] at al;obtain ⟨⟨a',bb⟩,bt⟩:=al;simp only [bN] at h;split at h
     ·unfold AJ at h;split at h
      ·obtain ⟨d1,d2,d3,h⟩:=h;refine ⟨_,_,fun C=>?_,h⟩;simp only [a5,aD,j6];rw [if_pos ⟨by omega,by omega⟩,if_pos ⟨d1,d2⟩];simp only [jm,hu,ai,bk,ag];rw [if_pos ⟨a',bb,gl d3 bt⟩];rfl
      ·exact h.elim
     ·exact h.elim
    ·exact h
   ·exact h
  ·exact h
 case call c =>
  split at h
  ·rename_i b ag;split at h
   ·split at h
    ·rename_i ai;simp only [bN] at h;split at h
     ·unfold AF at h;split at h
      ·exact ⟨_,_,fun C=>by simp only [a5,aD,ag,eA,hk,ai],h⟩
      ·exact ⟨_,_,fun C=>by simp only [a5,aD,ag,eA,hk,ai],h⟩
      ·exact h.elim
     ·exact h.elim
    ·split at h
     ·rename_i n e hu;simp only [bN] at h;split at h
      ·exact h.elim
      ·exact h.elim
      ·exact h.elim
      ·rename_i x b7 ch En;refine ⟨_,_,fun C=>?_,h⟩;simp only [a5,aD,ag,eA,hk,hu]
       try (cases x <;> first | rfl | exact absurd rfl (b7 _ _ _) | exact absurd rfl (ch _ _ _ _ _) | exact absurd rfl (En _))
      ·exact h.elim
     ·rename_i _ _ hu;simp only [bN] at h;split at h
      ·unfold AE at h;split at h
       ·obtain ⟨es,clock,ad,h⟩:=h;exact ⟨_,_,fun C=>by simp only [a5,aD,ag,eA,hk,hu,ad],h⟩
       ·exact h.elim
      ·exact h.elim
     ·exact h
   ·split at h
    ·rename_i x ak;simp only [sE] at ak;obtain ⟨t,ay,ak⟩:=ak;obtain ⟨ea,hm,hH⟩:=xn ak;simp only [bN] at h;split at h
     ·unfold AG at h;split at h
      ·split at h
       ·rename_i bC;have bC:=uq bC;obtain ⟨ad,es,clock,af,r,aG,h⟩:=h;split at h
        ·exact ⟨_,_,fun C=>by simp only [a5,aD,ag,eA,hK,ay,sx,hm,hH _ ad,bC,if_true,af,aG],h⟩
        ·exact ⟨_,_,fun C=>by simp only [a5,aD,ag,eA,hK,ay,sx,hm,hH _ ad,bC,if_true,af,aG],h⟩
       ·exact h.elim
      ·exact h.elim
     ·exact h.elim
    ·exact h
   ·simp only [bN] at h;split at h
    ·obtain ⟨n,ad,af⟩:=zR _ _ h;exact ⟨_,_,fun C=>by simp only [a5,aD,ag,eA,n5,ad,sD],af⟩
    ·exact h.elim
   ·simp only [bN] at h;split at h
    ·obtain ⟨n,ad,af⟩:=zQ _ _ h;exact ⟨_,_,fun C=>by simp only [a5,aD,ag,eA,n4,ad,sD],af⟩
    ·exact h.elim
   ·split at h
    ·rename_i t dt g';split at h
     ·rename_i e nz hu;split at h
      ·rename_i s z bytes ai bk yW;split at h
       ·rename_i al;simp only [sO,vm,tF,uO] at al;obtain ⟨⟨a',bb⟩,bt⟩:=al;obtain rfl:t=dt:=tw nz;(have pj:c.argTypes=#[t,t]:=by rw [←uT (xs:=c.argTypes),g']);simp only [bN] at h;split at h
        ·obtain ⟨r,H',ad,af⟩:=EX hu ai bk yW a' bb bt h;exact ⟨r,H',fun C=>by simp only [a5,aD,ag,eA,pj];exact ad,af⟩
        ·exact h.elim
       ·rename_i al hm;simp only [sO,vm,tF,uO] at al;obtain ⟨⟨a',bb⟩,bt⟩:=al;obtain rfl:t=dt:=tw nz;(have pj:c.argTypes=#[t,t]:=by rw [←uT (xs:=c.argTypes),g']);simp only [bN] at h;split at h
        ·obtain ⟨r,H',ad,af⟩:=EW (lo:=lo) hu ai bk yW a' bb bt h;refine ⟨r,H',fun C=>?_,af⟩;simp only [a5,aD,ag,pj]
         first
         | exact ad
         | (split
            ·exact absurd rfl hm
            ·exact ad)
        ·exact h.elim
       ·exact h
      ·exact h
     ·exact h
    ·exact h
   ·exact h
  ·exact h.elim
  ·exact h
 case makeMap t r =>
  split at h
  ·rename_i _ _ hu;simp only [bN] at h;exact ⟨_,_,fun C=>by simp only [a5,aD,k6,hu],h⟩
  ·exact h
 case mapUpdate t m k v =>
  split at h
  ·rename_i x ak;obtain ⟨ea,hm,hH⟩:=xn ak;simp only [bN] at h;split at h
   ·unfold AI at h;split at h
    ·split at h
     ·rename_i bC;have bC:=uq bC;obtain ⟨ad,es,clock,af,r,aG,h⟩:=h;split at h
      ·exact ⟨_,_,fun C=>by simp only [a5,aD,iY,hm,hH _ ad,bC,if_true,af,aG],h⟩
      ·exact ⟨_,_,fun C=>by simp only [a5,aD,iY,hm,hH _ ad,bC,if_true,af,aG],h⟩
     ·exact h.elim
    ·exact h.elim
   ·exact h.elim
  ·exact h
 case lookup t m k ok =>
  split at h
  ·rename_i x ak;obtain ⟨ea,hm,hH⟩:=xn ak;simp only [bN] at h;split at h
   ·unfold AH at h;split at h
    ·obtain ⟨ad,es,clock,af,r,aG,h⟩:=h;split at h
     ·obtain ⟨e,he,h⟩:=h;cases ok
      ·exact ⟨_,_,fun C=>by simp only [a5,aD,ih,hm,hH _ ad,af,aG,sx,he,sD];rfl,h⟩
      ·exact ⟨_,_,fun C=>by simp only [a5,aD,ih,hm,hH _ ad,af,aG,sx,he,sD];rfl,h⟩
     ·obtain ⟨z,bk,h⟩:=h;cases ok
      ·exact ⟨_,_,fun C=>by simp only [a5,aD,ih,hm,hH _ ad,af,aG,Option.bind_none,bk,sD];rfl,h⟩
      ·exact ⟨_,_,fun C=>by simp only [a5,aD,ih,hm,hH _ ad,af,aG,Option.bind_none,bk,sD];rfl,h⟩
    ·exact h.elim
   ·exact h.elim
  ·exact h
 case range t m =>
  split at h
  ·rename_i _ _ hu;simp only [bN] at h;split at h
   ·unfold AL at h;split at h
    ·obtain ⟨es,clock,ad,h⟩:=h;exact ⟨_,_,fun C=>by simp only [a5,aD,k7,hu,ad],h⟩
    ·exact h.elim
   ·exact h.elim
  ·exact h
 case entry m =>
  simp only [bN] at h;split at h
  ·unfold Az at h;split at h
   ·obtain ⟨m,since,seen,clock,gn,es,e,ad,af,aG,a6,h⟩:=h;exact ⟨_,_,fun C=>by simp only [a5,aD,k5,ad,af,aG,a6,if_true],h⟩
   ·exact h.elim
  ·exact h.elim
 case pick c a b =>
  simp only [bN] at h;split at h
  ·rename_i c a b;refine pure (fun C=>by simp only [a5,aD]) (r:=match c with | true=>a | false=>b) (by cases c <;> simp [cx,aD,xy]) ?_;cases c <;> exact h
  ·exact h.elim
 case build t parts =>
  split at h
  ·rename_i z bm bk hu;split at h
   ·rename_i bo cU kK;split at h
    ·simp only [bN] at h;obtain ⟨c8,q1,aX⟩:=iE h (xt kK);refine pure (fun C=>by simp only [a5,aD]) (r:=.agg c8) ?_ aX;simp only [cx,aD,lH,bk,hu,cU,eO,q1,sD]
    ·simp only [bN] at h;obtain ⟨r,q1,aX⟩:=E0 bk hu cU (xt kK) h;exact ⟨r,H,fun C=>by simp only [a5,aD,eO,q1,sD],aX⟩
   ·exact h
  ·rename_i z len e bk hu;split at h
   ·rename_i s ai;(have aq:∀ C,a5 P C lo o 0 vs H=(cx P o vs).map (·,H):=fun C=>by simp only [a5,aD]);simp only [bN] at h;obtain ⟨c8,q1,aX⟩:=iE (place:=fun i=>some (i*s,s)) (ix:=parts.toList.map (·.1)) h (by simp);refine pure aq (r:=.agg c8) ?_ aX;simp only [cx,aD,lH,bk,hu,ai,eO,sx,q1,sD]
   ·exact h
  ·exact h
 case buildSlice t len parts =>
  split at h
  ·rename_i e hu;split at h
   ·rename_i s z ai bk;split at h
    ·rename_i al;simp only [sO,vm,tF,uO] at al;obtain ⟨⟨a',bb⟩,bt⟩:=al;simp only [bN] at h;obtain ⟨c8,q1,aX⟩:=iE (place:=fun i=>some (i*s,s)) (ix:=parts.toList.map (·.1)) h (by simp);refine pure (fun C=>by simp only [a5,aD]) (r:=.ax c8 len (.uniq s)) ?_ aX;simp only [cx,aD,iz,hu,ai,bk,eO];rw [if_pos ⟨bb,a',bt⟩,q1];rfl
    ·rename_i al hm;simp only [sO,vm,tF,uO] at al;obtain ⟨⟨a',bb⟩,bt⟩:=al;simp only [bN] at h;obtain ⟨c8,q1,aX⟩:=iE (place:=fun i=>some (i*s,s)) (ix:=parts.toList.map (·.1)) h (by simp);refine ⟨_,_,fun C=>?_,aX⟩;have q:iz P t len (eO parts.toList vs)=some (c8,s):=by
      simp only [iz,hu,ai,bk,eO];rw [if_pos ⟨bb,a',bt⟩,q1];rfl
     simp only [a5,aD]
     first
     | (rw [q];rfl)
     | (split
        ·exact absurd rfl hm
        ·rw [q];rfl)
    ·exact h
   ·exact h
  ·exact h
 case nilCheck x =>
  simp only [bN] at h;split at h
  ·exact pure (fun C=>by simp only [a5,aD]) (by simp only [cx,aD,oa]) h
  ·exact pure (fun C=>by simp only [a5,aD]) (by simp only [cx,aD,oa]) h
  ·exact h.elim
 case binOp op t x y iu =>
  have aq:∀ C,a5 P C lo o mode vs H=(cx P o vs).map (·,H):=fun C=>by simp only [a5,aD]
  split at h
  ·rename_i aN hu;simp only [bN] at h;split at h
   ·split at h
    ·rename_i av;obtain ⟨v,ad,af⟩:=B1 (P:=P) (t:=t) (FA av) h;exact pure aq (by simp only [cx,aD,aN,gj,ad]) af
    ·exact h.elim
   ·exact h.elim
  ·rename_i aN hu;split at h
   ·simp only [bN] at h;split at h
    ·exact pure aq (by simp only [cx,aD,aN,gj,fq,hu]) h
    ·exact h.elim
   ·simp only [bN] at h;split at h
    ·exact pure aq (by simp only [cx,aD,aN,gj,fq,hu]) h
    ·exact h.elim
   ·exact h
  ·exact h
 case unOp op t x =>
  have aq:∀ C,a5 P C lo o mode vs H=(cx P o vs).map (·,H):=fun C=>by simp only [a5,aD]
  simp only [bN] at h;split at h
  ·split at h
   ·exact pure aq (by simp only [cx,aD,e7,kn]) h
   ·exact h.elim
  ·split at h
   ·exact pure aq (by simp only [cx,aD,e7,kn]) h
   ·exact h.elim
  ·exact h.elim
 case convert s d x =>
  have aq:∀ C,a5 P C lo o mode vs H=(cx P o vs).map (·,H):=fun C=>by simp only [a5,aD]
  split at h
  ·rename_i ad af;simp only [bN] at h;split at h
   ·exact pure aq (by simp only [cx,aD,e7,lI,ad,af]) h
   ·exact h.elim
  ·exact h
 case makeFunc fn first captured =>
  have aq:∀ C,a5 P C lo o mode vs H=(cx P o vs).map (·,H):=fun C=>by simp only [a5,aD]
  split at h
  ·simp only [bN] at h;split at h
   ·rename_i ad;exact pure aq (by simp only [cx,aD,mU];rw [if_pos (tw ad)]) h
   ·exact h.elim
  ·exact h
 case slice t x l bI m =>
  have aq:∀ C,a5 P C lo o mode vs H=(cx P o vs).map (·,H):=fun C=>by simp only [a5,aD]
  split at h
  ·rename_i e hu;split at h
   ·rename_i s ai;simp only [bN] at h;split at h
    ·obtain ⟨r,ad,af⟩:=E2 hu ai h;exact pure aq (by simp only [cx,aD,ad]) af
    ·exact h.elim
   ·exact h
  ·exact h
 case fieldAddr t x f =>
  have aq:∀ C,a5 P C lo o mode vs H=(cx P o vs).map (·,H):=fun C=>by simp only [a5,aD]
  split at h
  ·rename_i bm hu;split at h
   ·rename_i s off aP;simp only [sE,su,Prod.mk.injEq] at aP;obtain ⟨g,aO,aF,ai,rfl,rfl⟩:=aP;simp only [bN] at h;split at h
    ·unfold AA at h;split at h
     ·exact pure aq (by simp [cx,aD,e7,jw,hu,aO,ai]) h
     ·exact pure aq (by simp [cx,aD,e7,jw,hu,aO,ai]) h
     ·exact h.elim
    ·exact h.elim
   ·exact h
  ·exact h
 case field t x f =>
  have aq:∀ C,a5 P C lo o mode vs H=(cx P o vs).map (·,H):=fun C=>by simp only [a5,aD]
  split at h
  ·rename_i bm hu;split at h
   ·rename_i a off aP;simp only [sE,su,Prod.mk.injEq] at aP;obtain ⟨g,aO,aM,cc,rfl,rfl⟩:=aP;simp only [bN] at h;split at h
    ·obtain ⟨v,ad,af⟩:=EG cc h;exact pure aq (by simp only [cx,aD,e7,ni,hu,aO,sx,ad,sD]) af
    ·exact h.elim
   ·exact h
  ·exact h
 case indexAddr t x i =>
  have aq:∀ C,a5 P C lo o mode vs H=(cx P o vs).map (·,H):=fun C=>by simp only [a5,aD]
  split at h
  ·rename_i e hu;split at h
   ·rename_i s ai;simp only [bN] at h;split at h
    ·unfold AB at h;split at h
     ·split at h
      ·exact pure aq (by simp [cx,aD,gj,hY,hu,ai,gY,h.1]) h.2
      ·exact pure aq (by simp [cx,aD,gj,hY,hu,ai,gY,h.1]) h.2
      ·exact h.elim
     ·exact h.elim
    ·exact h.elim
   ·exact h
  ·rename_i len e hu;split at h
   ·rename_i s ai;simp only [bN] at h;split at h
    ·unfold AD at h;split at h
     ·split at h
      ·exact pure aq (by simp [cx,aD,gj,hY,hu,ai,gY,h.1]) h.2
      ·exact pure aq (by simp [cx,aD,gj,hY,hu,ai,gY,h.1]) h.2
      ·exact h.elim
     ·exact h.elim
    ·exact h.elim
   ·exact h
  ·exact h
 case extract x i =>
  have aq:∀ C,a5 P C lo o mode vs H=(cx P o vs).map (·,H):=fun C=>by simp only [a5,aD]
  simp only [bN] at h;split at h
  ·obtain ⟨v,ae,h⟩:=e6 h;rw [kj] at h;exact pure aq (by simp only [cx,aD,e7,nh,ae,sD]) h
  ·exact h.elim
end
end Go.Proofs.YtfakoboiahbhaaaGreat.Ab


namespace Go.Proofs.YtfakoboiahbhaaaGreat.Ab
open Go
noncomputable section
def oL (P:Program) (mode lo:Nat) (b0:fb) (args:List I) (H:List ar) (v:I) (H':List ar):Prop:=∃ C,dc P C∧e3 C lo mode b0 args H=some (v,H')
def lO:List I→List I→(List I→Prop)→Prop
 | [],l,K=>K l
 | h::t,l,K=>lO t l fun r=>K (h::r)
theorem lP:∀ (a b:List I) (K:List I→Prop),lO a b K=K (a++b)
 | [],b,K=>rfl
 | h::t,b,K=>by rw [lO,lP t b];rfl
def yB (v:I) (K:I→Prop):Prop:=match v with
 | .ax c n .full=>K (.ax c n .shared)
 | .agg cs=>K (.agg (cs.map I.g0))
 | .tuple cs=>K (.tuple (cs.map I.g0))
 | v=>K v
theorem Cf (v:I) (K:I→Prop):yB v K=K v.cr:=by
 cases v with
 | ax c n k=>cases k <;> rfl
 | _=>rfl
def nr:List I→(List I→Prop)→Prop
 | [],K=>K []
 | h::t,K=>yB h fun aY=>nr t fun jg=>K (aY::jg)
theorem o2:∀ (l:List I) (K:List I→Prop),nr l K=K (l.map I.cr)
 | [],K=>rfl
 | h::t,K=>by rw [nr,Cf,o2 t];rfl
def nn (P:Program) (lo:Nat) (draw:Bool) (mode:Nat) (acc:dk) (vs:List I) (H:List ar) (K:dk→I→List ar→Prop):Prop:=match vs with
 | f::args=>match f with
   | .func k first cap=>lO args cap fun r=>lO first r fun as=>match mode with
     | 3=>as.all (cj 8)=true∧nr as fun gB=>∃ v,lE P k gB v∧(match draw with
       | true=>(∀ p∈acc,p.1=k→p.2.1=gB→p.2.2=v)∧K ((k,gB,v)::acc) v.cr H
       | false=>K acc v.cr H)
     | 6=>match draw with
       | true=>(as.map (ir H)).all (cj 8)=true∧∃ gB,(as.map (ir H)).map I.cr=gB∧∃ v,fz v=true∧lE P k gB v∧(∀ p∈acc,p.1=k→p.2.1=gB→p.2.2=v)∧K ((k,gB,v)::acc) v.cr H
       | false=>∃ v H',oL P 6 lo (.fn k) as H v H'∧K acc v H'
     | mode=>match draw with
       | true=>False
       | false=>∃ v H',oL P mode lo (.fn k) as H v H'∧K acc v H'
   | .yield l=>match draw with
     | true=>False
     | false=>∃ v H',oL P mode lo (.yield l) args H v H'∧K acc v H'
   | _=>False
 | []=>False
def lh (P:Program) (lo:Nat) (draw:Bool) (k:iw) (acc:dk) (vs:List I) (H:List ar) (K:dk→I→List ar→Prop):Prop:=match k with
 | .call mode=>nn P lo draw mode acc vs H K
 | k=>bN P lo k vs H (K acc)
def nW (ip:Option Nat) (T:List I) (v:I) (K:List I→Prop):Prop:=match ip with
 | none=>K T
 | some t=>ki v fun v=>jd T t v K
def pb (g:Option (Nat×Bool)) (T:List I) (skip run:Prop):Prop:=match g with
 | none=>run
 | some (t,want)=>hA T t fun v=>match v with
   | .bool b=>(match want with
     | true=>(match b with | true=>run | false=>skip)
     | false=>(match b with | true=>skip | false=>run))
   | .tuple []=>skip
   | _=>False
def hS (P:Program) (lo:Nat) (draw:Bool) (cS:du) (acc:dk) (T:List I) (H:List ar) (K:dk→List I→List ar→Prop):Prop :=
 pb cS.guard T (mY T cS.dst (.tuple []) fun ba=>K acc ba H) (gm cS.Gb T fun vs fX=>lh P lo draw cS.k acc vs H fun dD v H'=>ma v fun v=>nW cS.ip fX v fun dU=>mY dU cS.dst v fun dG=>K dD dG H')
def gQ (P:Program) (lo:Nat) (draw:Bool):List du→dk→List I→List ar→(List I→List ar→Prop)→Prop
 | [],_,T,H,K=>K T H
 | cS::r,acc,T,H,K=>hS P lo draw cS acc T H fun dD ba H'=>match draw with
   | true=>gQ P lo draw r dD ba H' K
   | false=>gQ P lo draw r [] ba H' K
def xG (P:Program) (lo:Nat) (a b:du) (post:List du):List du→dk→List I→List ar→(List I→List ar→Prop)→Prop
 | [],acc,T,H,K=>gQ P lo true (a::b::post) acc T H K∧gQ P lo true (b::a::post) acc T H K
 | cS::r,acc,T,H,K=>hS P lo true cS acc T H fun dD ba H'=>xG P lo a b post r dD ba H' K
def z0 (it:Nat) (dst:Option Nat) (T:List I) (H:List ar) (K:List I→List ar→Prop):Prop:=hA T it fun v=>match v with
 | .ptr r 0=>∃ m since seen clock es,H[r]?=some (.iter m since seen clock)∧H[m]?=some (.map es clock)∧since≤clock∧(∀ e∈es,e.1<since) ∧
   ((∀ e∈es,e.1∈seen)→mY T dst (.tuple [.bool false]) fun ba=>K ba H) ∧
   ∀ e∈es,e.1 ∉ seen→mY T dst (.tuple [.bool true,e.2.1,e.2.2]) fun ba=>K ba (H.set r (.iter m since (seen++[e.1]) clock))
 | _=>False
inductive BH (f:List I→List ar→(cA→List I→List ar→Prop)→Prop) (T:List I) (H:List ar) (Q:cA→List I→List ar→Prop):Prop where
 | intro (hW:Nat→List I→List ar→Prop) (m:Nat) (aV:hW m T H) (step:∀ m T H,hW m T H→f T H fun e ba H'=>match e with
   | .normal=>∃ hd,hd<m∧hW hd ba H'
   | e=>Q e ba H')
def xm (k:Option (List Bool)) (T:List I) (K:List I→Prop):Prop:=match k with
 | some k=>kS k T K
 | none=>K T
theorem DP (k:Option (List Bool)) (T:List I) (K:List I→Prop):xm k T K=K (match k with | some k=>e0 k T | none=>T):=by
 cases k with
 | none=>rfl
 | some k=>exact zu k T K
def n8:List I→(List I→Prop)→Prop
 | [],K=>K []
 | h::t,K=>n8 t fun jg=>K (h::jg)
theorem zX:∀ (T:List I) (K:List I→Prop),n8 T K=K T
 | [],K=>rfl
 | h::t,K=>by rw [n8,zX t]
def ov (P:Program) (A:dd) (fn:FuncId) (lo:Nat) (rl:Option Nat) (f:I) (bo:List Nat) (as cq:Code) (T:List I) (H:List ar) (Q:cA→List I→List ar→Prop):Prop:=match f with
 | .func k first cap=>inLoop H rl=true∧∃ r H' st cF fn' ba Ac gB yp iC,Sem P (.fn k) (first++[.yield H.length]++cap) (H++[.loop .ready none fn (T.map I.view) bo as cq A]) lo r H' ∧
   H'[H.length]?=some (.loop st cF fn' ba Ac gB yp iC)∧st≠.busy∧(match cF with
    | none=>Q .normal (T.map I.settle) (H'.set H.length .dead)
    | some .ret=>Q .ret (T.map I.settle) (H'.set H.length .dead)
    | some (.exit id)=>Q (.exit id) (T.map I.settle) (H'.set H.length .dead)
    | _=>False)
 | _=>False
def dR (P:Program) (A:dd) (fn:FuncId) (lo:Nat) (rl:Option Nat):fW→List I→List ar→(cA→List I→List ar→Prop)→Prop
 | .skip,T,H,Q=>Q .normal T H
 | .oj draw l,T,H,Q=>gQ P lo draw l [] T H (Q .normal)
 | .seq a b,T,H,Q=>dR P A fn lo rl a T H fun e ba H'=>match e with
   | .normal=>dR P A fn lo rl b ba H' Q
   | e=>Q e ba H'
 | .cond c a b,T,H,Q=>match c with
   | .sl t=>hA T t fun v=>(match v with
     | .bool x=>(match x with | true=>dR P A fn lo rl a T H Q | false=>dR P A fn lo rl b T H Q)
     | .dw=>dR P A fn lo rl a T H Q∧dR P A fn lo rl b T H Q
     | _=>False)
   | .lT v=>(match v with
     | .bool x=>(match x with | true=>dR P A fn lo rl a T H Q | false=>dR P A fn lo rl b T H Q)
     | .dw=>dR P A fn lo rl a T H Q∧dR P A fn lo rl b T H Q
     | _=>False)
   | _=>False
 | .block id c,T,H,Q=>dR P A fn lo rl c T H fun e ba H'=>match e with
   | .exit bA=>(match Nat.beq bA id with | true=>Q .normal ba H' | false=>Q (.exit bA) ba H')
   | e=>Q e ba H'
 | .loop cD c,T,H,Q=>xm cD T fun T=>BH (fun T H Q=>n8 T fun T=>dR P A fn lo rl c T H fun e ba H'=>match e with
   | .normal=>xm cD ba fun ba=>Q .normal ba H'
   | e=>Q e ba H') T H Q
 | .exit id,T,H,Q=>Q (.exit id) T H
 | .ret,T,H,Q=>Q .ret T H
 | .AM f bo as cq,T,H,Q=>match f with
   | .sl t=>hA T t fun v=>ov P A fn lo rl v bo as cq T H Q
   | .lT v=>ov P A fn lo rl v bo as cq T H Q
   | _=>False
 | .zZ it dst l,T,H,Q=>z0 it dst T H fun ba H'=>gQ P lo false l [] ba H' (Q .normal)
 | .two pre a b post,T,H,Q=>xG P lo a b post pre [] T H (Q .normal)
def mB (o:Oper) (mode:Nat):Option Nat:=match mode with
 | 0=>none
 | 4=>none
 | _=>match o.op with
   | .move (.tmp t) | .assign (.tmp t)=>some t
   | _=>none
def lg (P:Program) (ops:Array Oper) (o:Oper) (an:b3):Option du:=match o.guard with
 | none=>some ⟨o.dst,hN (dK o an.mode) an.takes (opsOf o),none,mB o an.mode,ho P o an.mode⟩
 | some (j,want)=>match (ops[j]?).bind (·.dst) with
   | some d=>some ⟨o.dst,hN (dK o an.mode) an.takes (opsOf o),some (d,want),mB o an.mode,ho P o an.mode⟩
   | none=>none
def hc (P:Program) (ops:Array Oper):List Oper→List b3→Option (List du)
 | [],_=>some []
 | o::r,as=>match lg P ops o (as.headD {}),hc P ops r as.tail with
   | some cS,some l=>some (cS::l)
   | _,_=>none
def xp (P:Program) (ops:Array Oper) (draw:Bool) (as:List b3):Option fW:=match draw,ops.toList with
 | false,o::rest=>(match o.op,o.guard with
   | .next (.tmp it) false,none=>(hc P ops rest as.tail).map (.zZ it o.dst)
   | _,_=>(hc P ops (o::rest) as).map (.oj false))
 | d,l=>(hc P ops l as).map (.oj d)
def fm (P:Program) (ops:Array Oper) (an:List b3):List Nat→Option (List du)
 | []=>some []
 | i::r=>match ops[i]? with
   | some o=>match lg P ops o (an.getD i {}),fm P ops an r with
     | some cS,some l=>some (cS::l)
     | _,_=>none
   | none=>none
def n9 (cS:du):Bool:=match cS.k with | .call _=>false | _=>true
def n0 (P:Program) (ops:Array Oper) (an:List b3) (p:Nat):Option fW :=
 match fm P ops an (List.range p),fm P ops an [p],fm P ops an [p+1],fm P ops an (List.range' (p+2) (ops.size-(p+2))) with
 | some pre,some [a],some [b],some post=>match (a::b::post).all n9 with
   | true=>some (.two pre a b post)
   | false=>none
 | _,_,_,_=>none
def oo (x:Operand):jq:=match x with
 | .tmp t=>.sl t
 | x=>.lT (aA [] x)
def ej (P:Program) (A:dd):Code→Nat→Option fW
 | .skip,_=>some .skip
 | .region id ops draw,_=>match A.ib with
   | []=>match kg A id draw with
     | some p=>n0 P ops (A.ops.getD id []) p
     | none=>xp P ops draw (A.ops.getD id [])
   | _=>none
 | .seq a b,a2=>match ej P A a a2,ej P A b a2 with
   | some x,some y=>some (.seq x y)
   | _,_=>none
 | .cond c a b,a2=>match ej P A a a2,ej P A b a2 with
   | some x,some y=>some (.cond (oo c) x y)
   | _,_=>none
 | .block id c,_=>(ej P A c id).map (.block id)
 | .loop c,a2=>(ej P A c a2).map (.loop (l1 a2 A.ia))
 | .exit id,_=>some (.exit id)
 | .ret,_=>some .ret
 | .scope c,a2=>ej P A c a2
 | .label _,_=>some .skip
 | .rangeFunc f bo as cq,_=>some (.AM (oo f) bo.toList as cq)
 | _,_=>none
end
section
variable {P:Program}
theorem zq (o:Oper) (mode:Nat) (T:List I) (v:I) (K:List I→Prop):nW (mB o mode) T v K=K (inPlace o mode T v):=by
 by_cases aV:mode=0
 ·subst aV;rfl
 by_cases a6:mode=4
 ·subst a6;rfl
 have e1:mB o mode=(match o.op with | .move (.tmp t) | .assign (.tmp t)=>some t | _=>none):=by
  unfold mB;split
  ·exact absurd rfl aV
  ·exact absurd rfl a6
  ·rfl
 have ca:inPlace o mode T v=(match o.op with | .move (.tmp t) | .assign (.tmp t)=>gT T t v.view | _=>T):=by
  unfold inPlace;split
  ·exact absurd rfl aV
  ·exact absurd rfl a6
  ·rfl
 rw [e1,ca];cases o.op <;> try rfl
 case move x=>cases x <;> first | rfl | (simp only [nW,kj,kb])
 case assign x=>cases x <;> first | rfl | (simp only [nW,kj,kb])
theorem Bz {lo:Nat} {draw:Bool} {ops:Array Oper} {o:Oper} {an:b3} {cS:du} (aj:lg P ops o an=some cS) {acc:dk} {T:List I} {H:List ar} {K:dk→List I→List ar→Prop}
  (h:hS P lo draw cS acc T H K) :
  (eB ops o T=some false∧K acc (put T o.dst (.tuple [])) H) ∨
  (eB ops o T=some true∧lh P lo draw (ho P o an.mode) acc (fw (dK o an.mode) (rd T an.takes (opsOf o)).1) H fun dD v H'=>K dD (put (inPlace o an.mode (rd T an.takes (opsOf o)).2 v) o.dst v) H'):=by
 unfold lg at aj;split at aj
 ·rename_i aO;cases aj;simp only [hS,pb,i',nC,zq,xB] at h;exact .inr ⟨by simp [eB,aO],h⟩
 ·rename_i j want aO;split at aj
  ·rename_i d a3;cases aj;simp only [hS,pb,i',nC,zq,xB,iG] at h;(have hw:∀ b,c5 T d=.bool b→eB ops o T=some (b == want):=fun b ag=>by simp [eB,aO,a3,ag]);split at h
   ·rename_i b ag;have hw:=hw b ag;cases want <;> cases b <;> simp only at h
    ·exact .inr ⟨hw,h⟩
    ·exact .inl ⟨hw,h⟩
    ·exact .inl ⟨hw,h⟩
    ·exact .inr ⟨hw,h⟩
   ·rename_i ag;exact .inl ⟨by simp [eB,aO,a3,ag],h⟩
   ·exact h.elim
  ·cases aj
theorem jf {C:b8} {lo:Nat} {ops:Array Oper} {o:Oper} {an:b3} {T:List I} {H:List ar} {v:I} {H':List ar} (hw:eB ops o T=some true)
  (h:a5 P C lo o an.mode (fw (dK o an.mode) (rd T an.takes (opsOf o)).1) H=some (v,H')):dC P C lo ops o an ⟨T,H⟩=some ⟨put (inPlace o an.mode (rd T an.takes (opsOf o)).2 v) o.dst v,H'⟩:=by
 simp only [dC,hw,Ab.execOp];unfold fw at h;cases ao:dK o an.mode <;> rw [ao] at h <;> simp only at h ⊢ <;> rw [h] <;> rfl
theorem Bm {C:b8} {lo:Nat} {ops:Array Oper} {o:Oper} {an:b3} {T:List I} {H:List ar} (hw:eB ops o T=some false):dC P C lo ops o an ⟨T,H⟩=some ⟨put T o.dst (.tuple []),H⟩:=by
 simp only [dC,hw]
theorem Av {o:Oper} {mode zW:Nat} (h:ho P o mode=.call zW):zW=mode∧∃ c f,o.op=.call c∧c.callee=.value f:=by
 cases aD:o.op
 case call c =>
  simp only [ho,aD] at h;cases al:c.callee with
  | value f=>simp only [al] at h;cases h;exact ⟨rfl,c,f,rfl,al⟩
  | invoke x n=>simp only [al] at h;cases h
  | builtin b =>
    simp only [al] at h;repeat' (first | contradiction | split at h)
 all_goals simp only [ho,aD] at h
 all_goals (try unfold oq at h)
 all_goals (repeat' (first | contradiction | split at h))
theorem Ax {lo:Nat} {draw:Bool} {k:iw} {acc:dk} {vs:List I} {H:List ar} {K:dk→I→List ar→Prop} (h:lh P lo draw k acc vs H K) :
  (∃ mode,k=.call mode∧nn P lo draw mode acc vs H K)∨bN P lo k vs H (K acc):=by
 unfold lh at h;split at h
 ·exact .inl ⟨_,rfl,h⟩
 ·exact .inr h
theorem mT {C:b8} {lo mode:Nat} {k:FuncId} {first cap args:List I} {H:List ar}:hJ C lo mode H (.func k first cap::args)=e3 C lo mode (.fn k) (first++args++cap) H:=rfl
theorem Ae {C:b8} {acc:dk} (cf:hT C acc) {lo:Nat} {k:FuncId} {as:List I} {v:I} (aB:as.all (cj 8)=true) (hm:(k,as.map I.cr,v)∈acc) (H:List ar) :
  e3 C lo 3 (.fn k) as H=some (v.cr,H):=by
 obtain ⟨r,a4,ad,af⟩:=cf _ hm;simp only [e3,aB,ad,sx,af,sD]
theorem EH {C:b8} {acc:dk} (cf:hT C acc) {lo:Nat} {k:FuncId} {as:List I} {v:I} (H:List ar) (aB:(as.map (ir H)).all (cj 8)=true) (ai:fz v=true) (hm:(k,(as.map (ir H)).map I.cr,v)∈acc) :
  e3 C lo 6 (.fn k) as H=some (v.cr,H):=by
 obtain ⟨r,a4,ad,af⟩:=cf _ hm;simp only [e3,aB,ad,sx,af,ai]
theorem ye {lo:Nat} {ops:Array Oper} {o:Oper} {an:b3} {cS:du} (aj:lg P ops o an=some cS) {acc:dk} (hC:hx P acc) {T:List I} {H:List ar} {K:dk→List I→List ar→Prop}
  (h:hS P lo true cS acc T H K):∃ dD ba H',hx P dD∧(∀ p∈acc,p∈dD)∧(∀ C,hT C dD→dC P C lo ops o an ⟨T,H⟩=some ⟨ba,H'⟩)∧K dD ba H':=by
 rcases Bz aj h with ⟨hw,av⟩ | ⟨hw,av⟩
 ·exact ⟨acc,_,_,hC,fun _ h=>h,fun C _=>Bm hw,av⟩
 ·rcases Ax av with ⟨mode,hm,av⟩ | av
  ·obtain ⟨rfl,c,f,aD,al⟩:=Av hm;generalize hI:fw (dK o an.mode) (rd T an.takes (opsOf o)).1=vs at av;(have aq:∀ C,a5 P C lo o an.mode vs H=hJ C lo an.mode H vs:=fun C=>by simp only [a5,aD,al]);unfold nn at av;split at av
   ·split at av
    ·(rename_i args _ k first cap);rw [lP,lP] at av;split at av
     ·rename_i jQ;obtain ⟨aB,av⟩:=av;rw [o2] at av;obtain ⟨v,mo,l_,av⟩:=av;refine ⟨_,_,_,⟨fun p aB=>?_,fun p aB q a0 ad af=>?_⟩,fun p aB=>uw _ aB,fun C cf=>jf hw ?_,av⟩
      ·rcases sL.1 aB with rfl | aB
       ·exact mo
       ·exact hC.1 p aB
      ·rcases sL.1 aB with rfl | aB <;> rcases sL.1 a0 with rfl | a0
       ·rfl
       ·exact (l_ q a0 ad.symm af.symm).symm
       ·exact l_ p aB ad af
       ·exact hC.2 p aB q a0 ad af
      ·rw [hI,aq C,jQ,mT,sH];exact Ae cf aB (uY) H
     ·rename_i jQ;obtain ⟨aB,gB,rfl,v,ai,mo,l_,av⟩:=av;refine ⟨_,_,_,⟨fun p aB=>?_,fun p aB q a0 ad af=>?_⟩,fun p aB=>uw _ aB,fun C cf=>jf hw ?_,av⟩
      ·rcases sL.1 aB with rfl | aB
       ·exact mo
       ·exact hC.1 p aB
      ·rcases sL.1 aB with rfl | aB <;> rcases sL.1 a0 with rfl | a0
       ·rfl
       ·exact (l_ q a0 ad.symm af.symm).symm
       ·exact l_ p aB ad af
       ·exact hC.2 p aB q a0 ad af
      ·rw [hI,aq C,jQ,mT,sH];exact EH cf H aB ai (uY)
     ·exact av.elim
    ·exact av.elim
    ·exact av.elim
   ·exact av.elim
  ·obtain ⟨v,H',ad,af⟩:=Aw av;exact ⟨acc,_,_,hC,fun _ h=>h,fun C _=>jf hw (ad C),af⟩
theorem Gs {lo:Nat} {ops:Array Oper} {o:Oper} {an:b3} {cS:du} (aj:lg P ops o an=some cS) {acc:dk} {T:List I} {H:List ar} {K:dk→List I→List ar→Prop}
  (h:hS P lo false cS acc T H K):iy P lo ops o an ⟨T,H⟩ fun aF=>K acc aF.T aF.H:=by
 rcases Bz aj h with ⟨hw,av⟩ | ⟨hw,av⟩
 ·exact .inl ⟨_,_,yz,Bm hw,av⟩
 ·rcases Ax av with ⟨mode,hm,av⟩ | av
  ·obtain ⟨rfl,c,f,aD,al⟩:=Av hm;generalize hI:fw (dK o an.mode) (rd T an.takes (opsOf o)).1=vs at av;(have aq:∀ C,a5 P C lo o an.mode vs H=hJ C lo an.mode H vs:=fun C=>by simp only [a5,aD,al]);unfold nn at av;split at av
   ·split at av
    ·(rename_i args _ k first cap);rw [lP,lP] at av;split at av
     ·rename_i jQ;obtain ⟨aB,av⟩:=av;rw [o2] at av;obtain ⟨v,mo,av⟩:=av
      obtain ⟨C,bw,cf⟩:=oS (acc:=[(k,(first++(args++cap)).map I.cr,v)]) (P:=P) ⟨fun p aB=>by simp only [ta] at aB;subst aB;exact mo,fun p aB q a0 _ _=>by
       simp only [ta] at aB a0;subst aB;subst a0;rfl⟩
      refine .inl ⟨C,_,bw,jf hw (v:=v.cr) (H':=H) ?_,av⟩;rw [hI,aq C,jQ,mT,sH];exact Ae cf aB (uY) H
     ·rename_i jQ;obtain ⟨v,H',⟨C,bw,ff⟩,av⟩:=av;refine .inl ⟨C,_,bw,jf hw (v:=v) (H':=H') ?_,av⟩;rw [hI,aq C,jQ,mT,sH];exact ff
     ·obtain ⟨v,H',⟨C,bw,ff⟩,av⟩:=av;refine .inl ⟨C,_,bw,jf hw (v:=v) (H':=H') ?_,av⟩;rw [hI,aq C,mT,sH];exact ff
    ·obtain ⟨v,H',⟨C,bw,ff⟩,av⟩:=av;refine .inl ⟨C,_,bw,jf hw (v:=v) (H':=H') ?_,av⟩;rw [hI,aq C];exact ff
    ·exact av.elim
   ·exact av.elim
  ·obtain ⟨v,H',ad,af⟩:=Aw av;exact .inl ⟨_,_,yz,jf hw (ad _),af⟩
end
end Go.Proofs.YtfakoboiahbhaaaGreat.Ab


namespace Go.Proofs.YtfakoboiahbhaaaGreat.Ab
open Go
section
variable {P:Program}
theorem iy.mono {lo:Nat} {ops:Array Oper} {o:Oper} {an:b3} {s:a7} {K K':a7→Prop} (h:iy P lo ops o an s K) (av:∀ s,K s→K' s):iy P lo ops o an s K':=by
 rcases h with ⟨C,aF,ad,af,aG⟩ | ⟨it,r,m,since,seen,es,clock,aC,aI,aR,bl,bd,bg,c',dv,dV⟩
 ·exact .inl ⟨C,aF,ad,af,av _ aG⟩
 ·exact .inr ⟨it,r,m,since,seen,es,clock,aC,aI,aR,bl,bd,bg,c',fun h=>av _ (dv h),fun e ad af=>av _ (dV e ad af)⟩
theorem AP {lo:Nat} {ops:Array Oper} {K K':a7→Prop} (av:∀ s,K s→K' s):∀ {l:List Oper} {as:List b3} {s:a7},runN P lo ops l as s K→runN P lo ops l as s K'
 | [],_,s,h=>av s h
 | _::_,_,_,h=>iy.mono h fun _ aY=>AP av aY
theorem zG {f g:a7→(cA→a7→Prop)→Prop} (nE:∀ s Q cG,(∀ e s,Q e s→cG e s)→f s Q→g s cG) {Q cG:cA→a7→Prop} (a0:∀ e s,Q e s→cG e s):∀ {n:Nat} {s:a7},fB f n s Q→fB g n s cG
 | 0,s,h=>h
 | n+1,s,h=>nE s _ _ (fun e aF aY=>by
   cases e with
   | normal=>exact zG nE a0 aY
   | ret=>exact a0 _ _ aY
   | exit id=>exact a0 _ _ aY) h
theorem m_ {A:dd} {fn:FuncId} {lo:Nat} {rl:Option Nat}:∀ {c:Code} {a2:Nat} {s:a7} {Q cG:cA→a7→Prop},(∀ e s,Q e s→cG e s)→c_ P A fn lo rl c a2 s Q→c_ P A fn lo rl c a2 s cG:=by
 intro c
 induction c with
 | skip=>intro a2 s Q cG a0 h;exact a0 _ _ h
 | label l=>intro a2 s Q cG a0 h;exact a0 _ _ h
 | ret=>intro a2 s Q cG a0 h;exact a0 _ _ h
 | exit id=>intro a2 s Q cG a0 h;exact a0 _ _ h
 | goto l=>intro a2 s Q cG a0 h;exact h
 | refuse y=>intro a2 s Q cG a0 h;exact h
 | region id ops draw =>
   intro a2 s Q cG a0 h;simp only [c_] at h ⊢;split at h
   ·obtain ⟨acc,s1,s2,ad,af,aG,a6⟩:=h;exact ⟨acc,s1,s2,ad,af,a0 _ _ aG,a0 _ _ a6⟩
   cases draw with
   | true=>obtain ⟨acc,aF,ad,af,aG⟩:=h;exact ⟨acc,aF,ad,af,a0 _ _ aG⟩
   | false=>exact AP (fun s h=>a0 _ _ h) h
 | seq a b fk fv =>
   intro a2 s Q cG a0 h;refine fk (fun e aF aY=>?_) h;cases e with
   | normal=>exact fv a0 aY
   | ret=>exact a0 _ _ aY
   | exit id=>exact a0 _ _ aY
 | cond c a b fk fv =>
   intro a2 s Q cG a0 h;rcases h with ⟨t,ay,h⟩ | ⟨ay,ad,af⟩
   ·refine .inl ⟨t,ay,?_⟩;cases t with
    | true=>exact fk a0 h
    | false=>exact fv a0 h
   ·exact .inr ⟨ay,fk a0 ad,fv a0 af⟩
 | block id c a_ =>
   intro a2 s Q cG a0 h;refine a_ (fun e aF aY=>?_) h;cases e with
   | normal=>exact a0 _ _ aY
   | ret=>exact a0 _ _ aY
   | exit bA =>
     simp only at aY ⊢;by_cases aE:bA=id
     ·simp only [aE,if_true] at aY ⊢;exact a0 _ _ aY
     ·simp only [aE,if_false] at aY ⊢;exact a0 _ _ aY
 | loop c a_ =>
   intro a2 s Q cG a0 h;obtain ⟨n,h⟩:=h;refine ⟨n,?_⟩;refine zG ?_ a0 h;intro s Q cG a0 h;exact a_ a0 h
 | scope c a_=>intro a2 s Q cG a0 h;exact a_ a0 h
 | rangeFunc f bo as cq _ _ =>
   intro a2 s Q cG a0 h;obtain ⟨C,e,aF,ad,af,aG⟩:=h;exact ⟨C,e,aF,ad,af,a0 _ _ aG⟩
theorem om {lo:Nat} {ops:Array Oper}:∀ {l:List Oper} {as:List b3} {rl:List du} {acc:dk} {T:List I} {H:List ar} {K:List I→List ar→Prop},hc P ops l as=some rl→gQ P lo false rl acc T H K →
  runN P lo ops l as ⟨T,H⟩ fun aF=>K aF.T aF.H
 | [],as,rl,acc,T,H,K,ao,h=>by simp only [hc,Option.some.injEq] at ao;subst ao;exact h
 | o::r,as,rl,acc,T,H,K,ao,h=>by
   simp only [hc] at ao;split at ao
   ·rename_i cS l' ad af;simp only [Option.some.injEq] at ao;subst ao;exact iy.mono (Gs ad h) fun aF aY=>om af aY
   ·cases ao
theorem Cm {C:b8} {lo:Nat} {ops:Array Oper} {o:Oper} {r:List Oper} {as:List b3} {s:a7}:eR P C lo ops (o::r) as s=(dC P C lo ops o (as.headD {}) s).bind (eR P C lo ops r as.tail):=by
 rw [eR];unfold dC;cases hw:eB ops o s.T with
 | none=>rfl
 | some b=>cases b <;> rfl
theorem Am {lo:Nat} {ops:Array Oper}:∀ {l:List Oper} {as:List b3} {rl:List du} {acc:dk} {T:List I} {H:List ar} {K:List I→List ar→Prop},hc P ops l as=some rl→hx P acc→gQ P lo true rl acc T H K →
  ∃ dD ba H',hx P dD∧(∀ p∈acc,p∈dD)∧(∀ C,hT C dD→eR P C lo ops l as ⟨T,H⟩=some ⟨ba,H'⟩)∧K ba H'
 | [],as,rl,acc,T,H,K,ao,cc,h=>by simp only [hc,Option.some.injEq] at ao;subst ao;exact ⟨acc,T,H,cc,fun _ h=>h,fun _ _=>rfl,h⟩
 | o::r,as,rl,acc,T,H,K,ao,cc,h=>by
   simp only [hc] at ao;split at ao
   ·rename_i cS l' ad af;simp only [Option.some.injEq] at ao;subst ao;obtain ⟨yk,fX,H1,aC,aI,aR,bl⟩:=ye ad cc h;obtain ⟨oR,dU,a4,bq,cI,eE,jy⟩:=Am af aC bl;refine ⟨oR,dU,a4,bq,fun p aB=>cI p (aI p aB),fun C cf=>?_,jy⟩;rw [Cm,aR C (fun p aB=>cf p (cI p aB)),sx];exact eE C cf
   ·cases ao
theorem ow {C:b8} {lo:Nat} {ops:Array Oper} {an:List b3}:∀ (a b:List Nat) (s:a7),cv P C lo ops an (a++b) s=(cv P C lo ops an a s).bind (cv P C lo ops an b)
 | [],b,s=>rfl
 | i::a,b,s=>by
   rw [uK];simp only [cv];cases ops[i]? with
   | none=>exact ow a b s
   | some o =>
     dsimp only;cases dC P C lo ops o (an.getD i {}) s with
     | none=>rfl
     | some s1=>exact ow a b s1
theorem Gt {lo:Nat} {cS:du} (aN:n9 cS=true) {acc:dk} {T:List I} {H:List ar} {K K':dk→List I→List ar→Prop} (fI:K acc=K' acc) (h:hS P lo true cS acc T H K):hS P lo true cS acc T H K':=by
 have e:∀ (vs:List I) (H:List ar) (F:dk→I→List ar→Prop),lh P lo true cS.k acc vs H F=bN P lo cS.k vs H (F acc):=fun vs H F=>by
  unfold n9 at aN;unfold lh;split
  ·rename_i m av;rw [av] at aN;cases aN
  ·rfl
 unfold hS at h ⊢;simp only [e,fI] at h ⊢;exact h
theorem xE {lo:Nat} {ops:Array Oper} {an:List b3}:∀ {O:List Nat} {rl:List du} {acc:dk} {T:List I} {H:List ar} {K:List I→List ar→Prop},fm P ops an O=some rl→rl.all n9=true→hx P acc→gQ P lo true rl acc T H K →
  ∃ ba H',(∀ C,hT C acc→cv P C lo ops an O ⟨T,H⟩=some ⟨ba,H'⟩)∧K ba H'
 | [],rl,acc,T,H,K,ao,_,cc,h=>by simp only [fm,Option.some.injEq] at ao;subst ao;exact ⟨T,H,fun _ _=>rfl,h⟩
 | i::r,rl,acc,T,H,K,ao,aN,cc,h=>by
   simp only [fm] at ao;split at ao
   ·rename_i o hi;split at ao
    ·rename_i cS l' ad af;simp only [Option.some.injEq] at ao;subst ao;simp only [tJ,sO] at aN;have aY:=Gt aN.1 (K':=fun dD ba H'=>dD=acc∧gQ P lo true l' acc ba H' K) (by funext ba H';simp) h;obtain ⟨yk,fX,H1,_,_,aR,rfl,bl⟩:=ye ad cc aY;obtain ⟨dU,a4,eE,jy⟩:=xE af aN.2 cc bl;refine ⟨dU,a4,fun C cf=>?_,jy⟩;simp only [cv,hi];rw [aR C cf,sx];exact eE C cf
    ·cases ao
   ·cases ao
theorem An {lo:Nat} {ops:Array Oper} {an:List b3} {a b:du} {post:List du}:∀ {O:List Nat} {rl:List du} {acc:dk} {T:List I} {H:List ar} {K:List I→List ar→Prop},fm P ops an O=some rl→hx P acc→xG P lo a b post rl acc T H K →
  ∃ dD ba H',hx P dD∧(∀ p∈acc,p∈dD)∧(∀ C,hT C dD→cv P C lo ops an O ⟨T,H⟩=some ⟨ba,H'⟩)∧gQ P lo true (a::b::post) dD ba H' K∧gQ P lo true (b::a::post) dD ba H' K
 | [],rl,acc,T,H,K,ao,cc,h=>by simp only [fm,Option.some.injEq] at ao;subst ao;exact ⟨acc,T,H,cc,fun _ h=>h,fun _ _=>rfl,h.1,h.2⟩
 | i::r,rl,acc,T,H,K,ao,cc,h=>by
   simp only [fm] at ao;split at ao
   ·rename_i o hi;split at ao
    ·rename_i cS l' ad af;simp only [Option.some.injEq] at ao;subst ao;obtain ⟨yk,fX,H1,aC,aI,aR,bl⟩:=ye ad cc h;obtain ⟨oR,dU,a4,bq,cI,eE,jy⟩:=An af aC bl;refine ⟨oR,dU,a4,bq,fun p aB=>cI p (aI p aB),fun C cf=>?_,jy⟩;simp only [cv,hi];rw [aR C (fun p aB=>cf p (cI p aB)),sx];exact eE C cf
    ·cases ao
   ·cases ao
theorem nZ {ops:Array Oper} {an:List b3} {i:Nat} {r:List Nat} {a:du} {l:List du} (ad:fm P ops an [i]=some [a]) (af:fm P ops an r=some l):fm P ops an (i::r)=some (a::l):=by
 simp only [fm] at ad ⊢;split at ad
 ·rename_i o aq;split at ad
  ·rename_i cS l' aG a6;simp only [Option.some.injEq,List.cons.injEq] at ad a6;obtain ⟨rfl,rfl⟩:=ad;simp only [aG,af]
  ·cases ad
 ·cases ad
theorem Ai {n p:Nat} (a0:p+1<n):List.range n=List.range p++(p::(p+1)::List.range' (p+2) (n-(p+2))):=by
 apply List.ext_getElem?;intro i;rw [List.getElem?_append];simp only [List.length_range];by_cases h:i<p
 ·rw [if_pos h,vA h,vA (by omega)]
 ·rw [if_neg h];obtain ⟨k,rfl⟩:∃ k,i=p+k:=⟨i-p,by omega⟩;rw [show p+k-p=k by omega]
  match k with
  | 0=>rw [vA (by omega)];rfl
  | 1=>rw [vA (by omega)];rfl
  | k+2 =>
    simp only [List.getElem?_cons_succ];by_cases af:p+(k+2)<n
    ·rw [vA af,List.getElem?_range' (by omega)];congr 1;omega
    ·rw [ub (by simp;omega),ub (by simp;omega)]
theorem Ge {n p:Nat} (a0:p+1<n):fp n p (p+1)=List.range p++((p+1)::p::List.range' (p+2) (n-(p+2))):=by
 unfold fp;rw [Ai a0,List.map_append];congr 1
 ·conv=>rhs;rw [←vB (List.range p)]
  refine uN fun i hi=>?_;have:=sX.1 hi;rw [if_neg (by omega),if_neg (by omega)];rfl
 ·rw [sG,sG,if_pos rfl,if_neg (by omega),if_pos rfl];congr 2;conv=>rhs;rw [←vB (List.range' _ _)]
  refine uN fun i hi=>?_;have:=List.mem_range'_1.1 hi;rw [if_neg (by omega),if_neg (by omega)];rfl
theorem DU {A:dd} {fn:FuncId} {lo:Nat} {rl:Option Nat} {id:Nat} {ops:Array Oper} {draw:Bool} {a2 p:Nat} {rc:fW} (aL:A.ib=[]) (ay:kg A id draw=some p) (a0:p+1<ops.size) (ao:n0 P ops (A.ops.getD id []) p=some rc)
  {T:List I} {H:List ar} {Q:cA→List I→List ar→Prop} (h:dR P A fn lo rl rc T H Q):c_ P A fn lo rl (.region id ops draw) a2 ⟨T,H⟩ fun e s=>Q e s.T s.H:=by
 have av:e5 A.ib id ⟨T,H⟩=⟨T,H⟩:=by rw [aL];rfl
 unfold n0 at ao;split at ao
 ·rename_i pre a b post ad af aG a6;split at ao
  ·rename_i aN;simp only [Option.some.injEq] at ao;subst ao;obtain ⟨acc,fX,H1,aC,_,aR,bl,bd⟩:=An ad ⟨fun p aB=>by simp at aB,fun p aB=>by simp at aB⟩ h;simp only [tJ,sO] at aN;obtain ⟨dU,a4,bq,cI⟩:=xE (nZ af (nZ aG a6)) (by simp only [tJ,sO];exact aN) aC bl;obtain ⟨dG,hV,a',bb⟩:=xE (nZ aG (nZ af a6)) (by simp only [tJ,sO];exact ⟨aN.2.1,aN.1,aN.2.2⟩) aC bd;simp only [c_,ay,av];refine ⟨acc,⟨dU,a4⟩,⟨dG,hV⟩,aC,fun C _ cf=>⟨?_,?_⟩,cI,bb⟩
   ·rw [Ai a0,ow,aR C cf];exact bq C cf
   ·rw [Ge a0,ow,aR C cf];exact a' C cf
  ·cases ao
 ·cases ao
theorem DT {A:dd} {fn:FuncId} {lo:Nat} {rl:Option Nat} {id:Nat} {ops:Array Oper} {draw:Bool} {a2:Nat} {rc:fW} (aL:A.ib=[]) (ay:kg A id draw=none) (ao:xp P ops draw (A.ops.getD id [])=some rc)
  {T:List I} {H:List ar} {Q:cA→List I→List ar→Prop} (h:dR P A fn lo rl rc T H Q):c_ P A fn lo rl (.region id ops draw) a2 ⟨T,H⟩ fun e s=>Q e s.T s.H:=by
 have av:e5 A.ib id ⟨T,H⟩=⟨T,H⟩:=by rw [aL];rfl
 have gen:∀ {d:Bool} {l:List Oper},ops.toList=l→draw=d→(hc P ops l (A.ops.getD id [])).map (.oj d)=some rc→c_ P A fn lo rl (.region id ops draw) a2 ⟨T,H⟩ fun e s=>Q e s.T s.H:=fun {d l} mn a3 gg=>by
  clear ao;simp only [su] at gg;obtain ⟨E9,gg,rfl⟩:=gg;subst a3;cases draw with
  | true =>
    obtain ⟨dD,ba,H',aC,_,aR,bl⟩:=Am gg ⟨fun p aB=>by simp at aB,fun p aB=>by simp at aB⟩ h;simp only [c_,ay];exact ⟨dD,⟨ba,H'⟩,aC,fun C _ cf=>by rw [av,mn];exact aR C cf,bl⟩
  | false =>
    simp only [c_,ay];rw [av,mn];exact om gg h
 unfold xp at ao;split at ao
 ·rename_i o rest mn;split at ao
  ·rename_i it aD aO;simp only [su] at ao;obtain ⟨E9,ao,rfl⟩:=ao;simp only [c_,ay];rw [av,mn];refine .inr ?_;simp only [dR,z0,iG] at h;split at h
   ·rename_i r aj;obtain ⟨m,since,seen,clock,es,aC,aI,aR,bl,bd,bg⟩:=h;simp only [xB] at bd bg;exact ⟨.tmp it,r,m,since,seen,es,clock,aD,aO,aj,aC,aI,aR,bl,fun h=>om ao (bd h),fun e ad af=>om ao (bg e ad af)⟩
   ·exact h.elim
  ·exact gen mn rfl ao
 ·exact gen rfl rfl ao
theorem fB.more {f:a7→(cA→a7→Prop)→Prop} {Q:cA→a7→Prop} (aP:∀ s Q cG,(∀ e s,Q e s→cG e s)→f s Q→f s cG):∀ {n:Nat} {s:a7},fB f n s Q→fB f (n+1) s Q
 | 0,s,h=>h.elim
 | n+1,s,h=>aP _ _ _ (fun e aF aY=>by
    cases e with
    | normal=>exact fB.more aP aY
    | ret=>exact aY
    | exit id=>exact aY) h
theorem DY {f:a7→(cA→a7→Prop)→Prop} {Q:cA→a7→Prop} (hW:Nat→a7→Prop) (step:∀ m s,hW m s→f s fun e aF=>match e with | .normal=>∃ hd,hd<m∧hW hd aF | e=>Q e aF)
  (aP:∀ s Q cG,(∀ e s,Q e s→cG e s)→f s Q→f s cG):∀ (m:Nat) (s:a7),hW m s→fB f (m+1) s Q:=by
 intro m
 induction m using Nat.strongRecOn with
 | _ m a_ =>
   intro s h;refine aP _ _ _ (fun e aF aY=>?_) (step m s h);cases e with
   | normal =>
     obtain ⟨hd,hm,aY⟩:=aY
     have:∀ k,fB f (hd+1+k) aF Q:=fun k=>by
      induction k with
      | zero=>exact a_ hd hm aF aY
      | succ k DJ=>exact fB.more aP DJ
     (have e:m=hd+1+(m-(hd+1)):=by omega);rw [e];exact this _
   | ret=>exact aY
   | exit id=>exact aY
theorem DV {A:dd} {fn:FuncId} {lo:Nat} {rl:Option Nat}:∀ {c:Code} {a2:Nat} {rc:fW} {T:List I} {H:List ar} {Q:cA→List I→List ar→Prop},ej P A c a2=some rc→dR P A fn lo rl rc T H Q →
  c_ P A fn lo rl c a2 ⟨T,H⟩ fun e s=>Q e s.T s.H:=by
 intro c
 induction c with
 | skip=>intro a2 rc T H Q ao h;simp only [ej,Option.some.injEq] at ao;subst ao;exact h
 | label l=>intro a2 rc T H Q ao h;simp only [ej,Option.some.injEq] at ao;subst ao;exact h
 | ret=>intro a2 rc T H Q ao h;simp only [ej,Option.some.injEq] at ao;subst ao;exact h
 | exit id=>intro a2 rc T H Q ao h;simp only [ej,Option.some.injEq] at ao;subst ao;exact h
 | goto l=>intro a2 rc T H Q ao h;simp [ej] at ao
 | refuse y=>intro a2 rc T H Q ao h;simp [ej] at ao
 | region id ops draw =>
   intro a2 rc T H Q ao h;simp only [ej] at ao;split at ao
   ·rename_i aL;split at ao
    ·rename_i p ay;by_cases a0:p+1<ops.size
     ·exact DU aL ay a0 ao h
     ·exact absurd ao (by unfold n0;simp only [fm,Array.getElem?_eq_none (show ops.size≤p+1 by omega)];split <;> simp_all)
    ·rename_i ay;exact DT aL ay ao h
   ·cases ao
 | seq a b fk fv =>
   intro a2 rc T H Q ao h;simp only [ej] at ao;split at ao
   ·rename_i x y ak aZ;simp only [Option.some.injEq] at ao;subst ao;show c_ P A fn lo rl a a2 ⟨T,H⟩ _;refine m_ (fun e s aY=>?_) (fk ak h);cases e with
    | normal=>exact fv aZ aY
    | ret=>exact aY
    | exit id=>exact aY
   ·cases ao
 | cond c a b fk fv =>
   intro a2 rc T H Q ao h;simp only [ej] at ao;split at ao
   ·rename_i x y ak aZ;simp only [Option.some.injEq] at ao;subst ao
    have key:∀ v,aA T c=v→(match v with
      | .bool t=>(match t with | true=>dR P A fn lo rl x T H Q | false=>dR P A fn lo rl y T H Q)
      | .dw=>dR P A fn lo rl x T H Q∧dR P A fn lo rl y T H Q
      | _=>False)→c_ P A fn lo rl (.cond c a b) a2 ⟨T,H⟩ fun e s=>Q e s.T s.H:=fun v ae h=>by
     cases v with
     | bool t =>
       refine .inl ⟨t,ae,?_⟩;cases t with
       | true=>exact fk ak h
       | false=>exact fv aZ h
     | dw=>exact .inr ⟨ae,fk ak h.1,fv aZ h.2⟩
     | _=>exact h.elim
    cases c with
    | tmp t=>simp only [oo,dR,iG] at h;exact key _ rfl h
    | const v=>exact key (aA [] (.const v)) rfl h
    | func f=>exact key (aA [] (.func f)) rfl h
    | global g=>exact key (aA [] (.global g)) rfl h
   ·cases ao
 | block id c a_ =>
   intro a2 rc T H Q ao h;simp only [ej,su] at ao;obtain ⟨x,ak,rfl⟩:=ao;show c_ P A fn lo rl c id ⟨T,H⟩ _;refine m_ (fun e s aY=>?_) (a_ ak h);cases e with
   | normal=>exact aY
   | ret=>exact aY
   | exit bA =>
     simp only at aY ⊢;by_cases aE:bA=id
     ·subst aE;simp only [if_true];rw [wG] at aY;exact aY
     ·simp only [aE,if_false]
      have:Nat.beq bA id=false:=by
       cases ag:Nat.beq bA id with
       | false=>rfl
       | true=>exact absurd (tw ag) aE
      rw [this] at aY;exact aY
 | loop c a_ =>
   intro a2 rc T H Q ao h;simp only [ej,su] at ao;obtain ⟨x,ak,rfl⟩:=ao;simp only [dR,DP,zX] at h;obtain ⟨hW,m,hm,DF⟩:=h;have kD:∀ s:a7,e5 A.ia a2 s=⟨match l1 a2 A.ia with | some k=>e0 k s.T | none=>s.T,s.H⟩:=fun s=>by
    unfold e5;cases l1 a2 A.ia <;> rfl
   refine ⟨m+1,DY (f:=fun aF=>c_ P A fn lo rl c a2 (e5 A.ia a2 aF)) (fun m s=>hW m (e5 A.ia a2 s).T s.H) ?_ (fun s Q cG a0 h=>m_ a0 h) m ⟨T,H⟩ (by rw [kD];exact hm)⟩;intro m s kx;rw [kD] at kx;have h:=a_ ak (DF m _ s.H kx);show c_ P A fn lo rl c a2 (e5 A.ia a2 s) _;rw [kD];refine m_ (fun e aF aY=>?_) h;cases e with
   | normal=>simp only at aY ⊢;rw [kD];exact aY
   | ret=>exact aY
   | exit id=>exact aY
 | scope c a_=>intro a2 rc T H Q ao h;exact a_ ao h
 | rangeFunc f bo as cq _ _ =>
   intro a2 rc T H Q ao h;simp only [ej,Option.some.injEq] at ao;subst ao;have key:∀ v,aA T f=v→ov P A fn lo rl v bo.toList as cq T H Q→c_ P A fn lo rl (.rangeFunc f bo as cq) a2 ⟨T,H⟩ fun e s=>Q e s.T s.H:=fun v ae h=>by
    unfold ov at h;split at h
    ·(rename_i k first cap);obtain ⟨g6,r,H',st,cF,fn',ba,Ac,gB,yp,iC,ai,ao,cC,a0⟩:=h;have fin:∀ (e:cA) (a4:List ar),exec P A (k2 (.fn k) (first++[.yield H.length]++cap) (H++[.loop .ready none fn (T.map I.view) bo.toList as cq A]) lo r H') fn lo 0 rl (.rangeFunc f bo as cq) a2 ⟨T,H⟩=some (e,⟨T.map I.settle,a4⟩)→Q e (T.map I.settle) a4 →
       c_ P A fn lo rl (.rangeFunc f bo as cq) a2 ⟨T,H⟩ fun e s=>Q e s.T s.H:=fun e a4 he a0=>⟨_,e,_,Ew ai,he,a0⟩
     have hex:∀ (e:cA),(match cF with | none=>some cA.normal | some .ret=>some .ret | some (.exit id)=>some (.exit id) | _=>none)=some e →
       exec P A (k2 (.fn k) (first++[.yield H.length]++cap) (H++[.loop .ready none fn (T.map I.view) bo.toList as cq A]) lo r H') fn lo 0 rl (.rangeFunc f bo as cq) a2 ⟨T,H⟩=some (e,⟨T.map I.settle,H'.set H.length .dead⟩):=fun e he=>by
      simp only [exec,ae,g6,Ev,ao,cC,if_false];split at he <;> simp_all
     split at a0
     ·exact fin _ _ (hex .normal rfl) a0
     ·exact fin _ _ (hex .ret rfl) a0
     ·exact fin _ _ (hex (.exit _) rfl) a0
     ·exact a0.elim
    ·exact h.elim
   cases f with
   | tmp t=>simp only [oo,dR,iG] at h;exact key _ rfl h
   | const v=>exact key (aA [] (.const v)) rfl h
   | func g=>exact key (aA [] (.func g)) rfl h
   | global g=>exact key (aA [] (.global g)) rfl h
end
end Go.Proofs.YtfakoboiahbhaaaGreat.Ab


namespace Go.Proofs.YtfakoboiahbhaaaGreat.Ab
open Go
inductive jr where
 | tmp (t:Nat) | cell (a:Nat) (g:e')
def kW (g:e') (cs:List I) (off:Nat):Option I:=match g with
 | .one=>(cs[off]?).map I.view
 | .str s=>if off+s≤cs.length then some (.agg (((cs.drop off).take s).map I.view)) else none
 | .arr s=>if off+s≤cs.length then some (.agg (((cs.drop off).take s).map I.view)) else none
theorem DS {P:Program} {t:TypeId} {g:e'} (h:gX P t=some g) (cs:List I) (off:Nat):ez P t cs off=kW g cs off:=by
 rcases oT h with ⟨rfl,ad,d,af⟩ | ⟨s,af,ad⟩
 ·simp [ez,kW,ad,af]
 ·rcases af with ⟨rfl,af⟩ | ⟨rfl,af⟩ <;> simp [ez,kW,ad,af]
def oV (H:List ar) (g:e'):I→Option I
 | .ptr id off=>match H[id]? with
   | some (.cells l)=>kW g l off
   | some (.grow l _ _)=>kW g l off
   | _=>none
 | .bU cells=>kW g cells 0
 | _=>none
theorem B2 {P:Program} {t:TypeId} {g:e'} (h:gX P t=some g) (H:List ar) (a:I):dS P H t a=oV H g a:=by
 cases a <;> simp only [dS,oV,DS h] <;> rfl
noncomputable def j' (H:List ar) (T:List I):List jr→Option (List I)
 | []=>some []
 | .tmp t::r=>(j' H T r).map (c5 T t::·)
 | .cell a g::r=>match oV H g (c5 T a),j' H T r with
   | some v,some vs=>some (v::vs)
   | _,_=>none
def ka (P:Program):List ResultVar→Option (List jr)
 | []=>some []
 | .tmp t::r=>(ka P r).map (.tmp t::·)
 | .cell a t::r=>match gX P t,ka P r with
   | some g,some l=>some (.cell a g::l)
   | _,_=>none
theorem xD {P:Program} (H:List ar) (T:List I):∀ {rs:List ResultVar} {l:List jr},ka P rs=some l→fo P H T rs=j' H T l
 | [],l,h=>by simp [ka] at h;subst h;rfl
 | .tmp t::r,l,h=>by
   simp only [ka,su] at h;obtain ⟨l,h,rfl⟩:=h;simp only [fo,j',xD H T h]
 | .cell a t::r,l,h=>by
   simp only [ka] at h;split at h
   ·rename_i g l' ad af;simp only [Option.some.injEq] at h;subst h;simp only [fo,j',xD H T af,B2 ad];rfl
   ·cases h
inductive oP (rs:List jr) (v:I) (e:cA) (T:List I) (H:List ar):Prop where
 | mk (he:e=.normal∨e=.ret) (vs:List I) (aj:j' H T rs=some vs) (r:I) (aP:bJ H 0 H.length 0 8 (hl vs)=some r) (ae:r=v∨r.settle=v)
theorem G8 {rs:List jr} {v:I} {e:cA} {T:List I} {H:List ar} (he:e=.normal∨e=.ret) (aB:cj 8 v=true) (h:(j' H T rs).map hl=some v):oP rs v e T H:=by
 simp only [su] at h;obtain ⟨vs,ad,af⟩:=h;exact ⟨he,vs,ad,v,by rw [af];exact o' aB,.inl rfl⟩
noncomputable def zE (P:Program) (A:dd) (k:Nat):Option (fW×Nat×List jr):=match P.funcs[k]? with
 | some f=>match f.body with
   | some c => match codeOk A c, f.name == "runtime.NumGoroutine", ej P A c 0, ka P f.results.toList with
     | true,false,some rc,some ts=>some (rc,f.ntmps,ts)
     | _,_,_,_=>none
   | none=>none
 | none=>none
theorem GI {P:Program} (et:P.follows .mixedOrders=true) {k:Nat} {A:dd} {rc:fW} {n:Nat} {ts:List jr} (ao:zE P A k=some (rc,n,ts)) {args T:List I} (bX:args++List.replicate (n-args.length) .junk=T) {v:I} (aB:cj 8 v=true)
  (h:dR P A k 0 none rc T [] (oP ts v)):lE P k args v:=by
 unfold zE at ao;split at ao
 ·rename_i f aP;split at ao
  ·rename_i c ag;split at ao
   ·rename_i G7 Gh ad af aG a6;simp only [Option.some.injEq,Prod.mk.injEq] at ao;obtain ⟨rfl,rfl,rfl⟩:=ao;subst bX;have a0:∀ e s,oP Gh v e (a7.T s) (a7.H s)→(e=.normal∨e=.ret)∧∃ vs r,fo P s.H s.T f.results.toList=some vs∧bJ s.H 0 s.H.length 0 8 (hl vs)=some r∧(r=v∨r.settle=v):=fun e s ⟨cb,vs,Cr,r,b6,er⟩=>by
     exact ⟨cb,vs,r,by rw [xD _ _ a6,Cr],b6,er⟩
    exact EI et aP ag (by simpa using af) ad aB (m_ a0 (DV aG h))
   ·cases ao
  ·cases ao
 ·cases ao
def oC:Nat→Nat→List (Nat×I)→List I
 | 0,_,_=>[]
 | n+1,i,[]=>.junk::oC n (i+1) []
 | n+1,i,(j,v)::r=>match Nat.beq i j with
   | true=>v::oC n (i+1) r
   | false=>.junk::oC n (i+1) ((j,v)::r)
abbrev Hc (n:Nat) (l:List (Nat×I)):List I:=oC n 0 l
abbrev GC (d:Nat) (s:List jq) (k:iw):du:=⟨some d,s,none,none,k⟩
noncomputable section
def hp:Code→List (Code×Code)
 | .rangeFunc _ _ a b=>(a,b)::(hp a++hp b)
 | .seq a b=>hp a++hp b
 | .cond _ a b=>hp a++hp b
 | .block _ c=>hp c
 | .loop c=>hp c
 | .scope c=>hp c
 | _=>[]
def yq (P:Program) (k:Nat):Code:=match P.funcs[k]? with
 | some f=>match f.body with
   | some c=>c
   | none=>.skip
 | none=>.skip
def G9 (P:Program) (k i:Nat):Code:=match (hp (yq P k))[i]? with
 | some x=>x.1
 | none=>.skip
def G_ (P:Program) (k i:Nat):Code:=match (hp (yq P k))[i]? with
 | some x=>x.2
 | none=>.skip
end
end Go.Proofs.YtfakoboiahbhaaaGreat.Ab


namespace Go.Proofs.YtfakoboiahbhaaaGreat.Ab
open Go
section
variable {P:Program} {B:Nat} {J:List Nat} {w:World} {H:List ar} {U:Nat→Option aH} {S:Nat→Nat→Prop}
end
end Go.Proofs.YtfakoboiahbhaaaGreat.Ab
