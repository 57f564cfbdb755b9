
import Derived.Test.YtfakoboiahbhaaaGreatJp2
import Derived.Maps.RangeRun
set_option linter.unusedSimpArgs false
set_option linter.unusedVariables false
set_option linter.unusedSectionVars false

open Array renaming getD_eq_getD_getElem?→sk,getElem?_eq_getElem→sv,getElem?_eq_some_iff→sS,getElem?_setIfInBounds_ne→u_,toArray_toList→t_
open Bool renaming and_eq_true→r_,false_eq_true→tA,or_eq_true→tQ
open Classical renaming choose_spec→vi
open List renaming all_cons→sG,all_eq_true→ss,append_assoc→sy,drop_eq_getElem_cons→sU,eq_nil_iff_forall_not_mem→uz,getD_eq_getElem?_getD→sC,getElem?_append_left→se,getElem?_append_right→sB,getElem?_cons_zero→ua,getElem?_eq_getElem→sd,getElem?_eq_none→tO,getElem?_eq_some_iff→rV,getElem?_map→sm,getElem?_range→uN,getElem?_set_ne→sa,getElem?_set_self→rY,length_cons→sD,length_map→sZ,length_nil→uC,length_set→tz,mapM_cons→vE,map_congr_left→tB,map_cons→sE,map_id→uO,mem_cons→sf,mem_cons_of_mem→tP,mem_cons_self→ui,mem_iff_getElem?→tu,mem_map→sq,mem_of_getElem?→sA,mem_range→sx,mem_singleton→sI,nodup_range→ue,pairwise_cons→tx,pairwise_lt_range→uA,pairwise_map→uB
open Nat renaming beq_eq→uE,beq_refl→uD,ble_eq→ug,ble_eq_true_of_le→sX,blt_eq→te,eq_of_beq_eq_true→sW,le_of_ble_eq_true→tU,le_refl→rX,lt_or_ge→sO
open Option renaming bind_eq_some_iff→sb,bind_some→rW,isNone_iff_eq_none→tg,isSome_eq_false_iff→tf,isSome_iff_exists→tw,map_eq_some_iff→rU,map_some→sc
namespace Go.Proofs.YtfakoboiahbhaaaGreat.Ab
open Go
section
variable {P:Program} {B N:Nat} {J:List Nat} {w:World} {H:List au} {U:Nat→Option aI} {S:Nat→Nat→Prop}
theorem FO {bB:Nat→aI} {us:List I} {xs:List Value} (ak:us.length=xs.length) (h:∀ (j:Nat) (u:I) (v:Value),us[j]?=some u→xs[j]?=some v→Rel J S w u v∧u.plain=true):a_ bB U J S w us xs :=
 ⟨ak,fun j u v hu ae=>(h j u v hu ae).1,fun j u v hu ae=>aW.b5 (h j u v hu ae).2⟩
def pU (F:Fence) (P:Program) (Q:Exit→Act→World→Prop) (cH:Option Code) (aM:Act) (w':World):Prop:=match cH with
 | none=>Q .normal aM w'
 | some c=>c.wpIn F 0 P Q aM w'
theorem zU {F:Fence} (bD:ej F) {C:b8} (bw:da P C) {T:List I} {a:Act} (aK:cv B N U J S w ⟨T,H⟩ a) (mb:a_ .slot U J S w (T.map I.view) a.tmps.toList)
  {lo k:Nat} {first cap:List I} {vs ws:Array Value} (aQ:Rel J S w (.func k first cap) (.func (.func k) vs ws))
  {as b0:Code} {an:c9} {fn fn':FuncId} {bj:Array Tmp} (ba:codeOk an as=true) (bm:codeOk an b0=true) {r:I} {H':List au}
  (h:C (.fn k) (first++[.yield H.length]++cap) (H++[.loop .ready none fn (T.map I.view) bj.toList as b0 an]) lo=some (r,H'))
  {st:LoopState} {cH:Option Code} {fU:FuncId} {dR:List I} {gG:List Nat} {gv gw:Code} {gr:c9} (ak:H'[H.length]?=some (.loop st cH fU dR gG gv gw gr)) (cL:st≠.busy)
  {bE:World} (na:bh (dk U) S w (dk U) S bE) (bY:aL B (dk U) J S bE H) {mark:List Deferred} {dfr:Nat} (hm:Marks N (dk U) bE mark) (yM:∀ d∈mark,∀ r,d.target=.collected r→U r=none∧w.heap.size≤r) {Q:Exit→Act→World→Prop}
  (bn:∀ aM w',Step B N U J S w ⟨T,H'.set H.length .dead⟩ aM w'→pU F P Q cH aM w') :
  CallsIn F 0 P k (vs++#[Value.func (.yield bE.heap.size) #[] #[]]++ws) (bE.alloc (.loop { state:=.ready,pending:=none,fn:=fn',tmps:=a.tmps,params:=bj,assign:=as,body:=b0,defers:=dfr }))
   (rangePost F 0 P bE.heap.size Q { a with defers:=mark++a.defers }):=by
 generalize fk:({ state:=.ready,pending:=none,fn:=fn',tmps:=a.tmps,params:=bj,assign:=as,body:=b0,defers:=dfr }:Loop)=L;have yl:=kk bY (.loop L) (.obj H.length);have CZ:=nw bY (.loop L) (.obj H.length);have mg:Ext J (J++[bE.heap.size]):=Ext.append J _;have o3:∀ b o,S b o→S b o∧(bE.alloc (.loop L)).cell? ⟨b,o,none⟩=w.cell? ⟨b,o,none⟩:=(na.trans yl).set;have B8:=CZ.push bE.heap.size (o:=.loop .ready none fn (T.map I.view) bj.toList as b0 an)
  ⟨ba,bm,bE.heap.size,L,Ext.last bY _,by simp [lay],World.alloc_heap_new bE _,by rw [←fk],by rw [←fk],trivial,by rw [←fk];simpa using mb.len.symm,
   fun i u v hu ae=>by
    rw [←fk] at ae;refine ⟨?_,((mb.rel i u v hu (by simpa using ae)).mono mg o3)⟩;simp only [sm,rU] at hu;obtain ⟨x,_,rfl⟩:=hu
    exact I.dh x,by rw [←fk],by rw [←fk],by rw [←fk]⟩
 have fX:mX (lay (dk U) bE.heap.size (.obj H.length)):=fun b i ag=>by
  unfold lay at ag;split at ag
  ·simp at ag
  ·exact CA b i ag
 have Cc:a_ (fun i=>.arg i) (lay (dk U) bE.heap.size (.obj H.length)) (J++[bE.heap.size]) S (bE.alloc (.loop L)) (first++[.yield H.length]++cap) (vs.toList++[Value.func (.yield bE.heap.size) #[] #[]]++ws.toList):=by
  cases aQ with
  | func _ _ _ _ _ aJ aP bT b6 aS bk =>
    refine FO (by simp [aJ,aP]) fun j u v hu ae=>?_;rcases sO j first.length with ad | ad
    ·rw [sy,se ad] at hu;rw [sy,se (by simp;omega)] at ae;exact ⟨(aS j u v hu (by simpa using ae)).mono mg o3,bT u (sA hu)⟩
    ·rw [sy,sB ad] at hu;rw [sy,sB (by simp;omega)] at ae;(have bR:vs.toList.length=first.length:=by simp [aJ]);rw [bR] at ae;rcases sO (j-first.length) 1 with af | af
     ·(have aT:j-first.length=0:=by omega);rw [aT] at hu ae;simp at hu ae;subst hu ae;exact ⟨.yield _ _ (Ext.last bY _),rfl⟩
     ·rw [sB (by simpa using af)] at hu ae;exact ⟨(bk _ u v hu (by simpa using ae)).mono mg o3,b6 u (sA hu)⟩
 have e8:=(bw.ok h).2 B _ _ S _ _ B8 fX Cc;have hv:(vs.toList++[Value.func (.yield bE.heap.size) #[] #[]]++ws.toList).toArray=vs++#[Value.func (.yield bE.heap.size) #[] #[]]++ws:=by
  apply Array.ext';simp
 rw [hv] at e8;refine bD.calls (CallsIn.mono e8 fun e bV he=>?_);cases e with
 | panicked c=>exact he.elim
 | outgrown=>exact he.elim
 | returned x =>
   obtain ⟨bp,cj,bJ,pP,dY,cr,_,_⟩:=he;obtain ⟨_,_,ar,iv,aB,aH,aR,bl,bc,_⟩:=cr.obj _ _ ak;have dG:cj[H.length]?=some bE.heap.size:=pP _ _ (Ext.last bY _);rw [dG] at aB;cases aB;obtain ⟨BU,B7,_⟩:=zj cr aH aR { iv with state:=.exhausted };have jx:bh (dk U) S bE bp bJ (bV.putObj bE.heap.size (.loop { iv with state:=.exhausted })):=(yl.trans dY).trans BU;obtain ⟨q1,aX⟩:=zF none aK (mg.trans pP) (na.trans jx) B7 (.junk undef) (aW.b5 rfl);refine ⟨iv.pending,_,run_endLoop aR (by rw [bl];exact cL),?_⟩;rw [←bc] at bn;refine bn _ _ ⟨_,cj,bJ,mg.trans pP,q1,⟨aX.T,aX.H,aX.M.1,fun d a0=>?_,List.pairwise_append.2 ⟨hm.2.2,aX.M.2.2,fun d a0 gT nj e=>?_⟩⟩⟩
   rotate_left
   ·obtain ⟨hE,df,_⟩:=hm.2.1 d a0;obtain ⟨aS,cc,_,_,DU⟩:=aK.M.2.1 gT nj;have:=(yM d a0 hE df).2;have:=(sS.1 DU).1;rw [df,cc] at e;cases e;omega
   rcases List.mem_append.1 a0 with a0 | a0
   ·obtain ⟨hE,df,dg,jQ,kO⟩:=hm.2.1 d a0;have dr:hE<bE.heap.size:=(sS.1 kO).1;refine ⟨hE,df,dg,?_,(jx.cF hE dr jQ).trans kO⟩;have aT:=(yM d a0 hE df).1;have af:bp hE=none:=by
     cases bN:bp hE with
     | none=>rfl
     | some l =>
       rcases jx.own hE (by simp [bN]) with bX | bX
       ·exact absurd jQ bX
       ·omega
    simp [back,aT,af]
   ·exact aX.M.2.1 d a0
end
end Go.Proofs.YtfakoboiahbhaaaGreat.Ab


namespace Go.Proofs.YtfakoboiahbhaaaGreat.Ab
open Go
def toExit:cD→Exit
 | .normal=>.normal
 | .ret=>.ret
 | .exit id=>.exit id
def ji (F:Fence) (rl:Option Nat) (J:List Nat):Prop:=(rl=none∧F=Fence.wide)∨∃ l b,rl=some l∧J[l]?=some b∧F=Fence.wide.inRound b
theorem ji.lH {F:Fence} {rl:Option Nat} {J:List Nat} (h:ji F rl J):ej F:=by
 rcases h with ⟨_,rfl⟩ | ⟨l,b,_,_,rfl⟩
 ·exact .inl rfl
 ·exact .inr ⟨b,rfl⟩
theorem ji.ext {F:Fence} {rl:Option Nat} {J b1:List Nat} (h:ji F rl J) (bM:Ext J b1):ji F rl b1:=by
 rcases h with h | ⟨l,b,ad,af,aG⟩
 ·exact .inl h
 ·exact .inr ⟨l,b,ad,bM _ _ af,aG⟩
theorem kl {p:Nat→Prop} (h:∃ n,p n):∃ n,p n∧∀ m,p m→n≤m:=by
 obtain ⟨n,aN⟩:=h
 induction n using Nat.strongRecOn with
 | _ n a' =>
   by_cases ak:∃ m,m<n∧p m
   ·obtain ⟨m,hm,aC⟩:=ak;exact a' m hm aC
   ·exact ⟨n,aN,fun m hm=>Nat.le_of_not_lt fun aV=>ak ⟨m,aV,hm⟩⟩
section
variable {P:Program}
theorem Dv {F:Fence} {c:Code} {f:a6→Option (cD×a6)} {e:cD} {aF:a6} {Q:Exit→Act→World→Prop} {B N:Nat} {J:List Nat} {w:World} {U:Nat→Option aI} {S:Nat→Nat→Prop} {s:a6} {a:Act} {n:Nat}
  (h:ia f n s=some (e,aF)) (aK:cv B N U J S w s a) (bn:∀ aM w',Step B N U J S w aF aM w'→Q (toExit e) aM w')
  (kr:∀ (s1:a6) (e1:cD) (s2:a6),f s1=some (e1,s2)→∀ (cI:Exit→Act→World→Prop) (aB:Act) (bE:World),(∀ l a w,cI (.goto l) a w→Q (.goto l) a w)→Step B N U J S w s1 aB bE →
   (∀ aM w',Step B N U J S w s2 aM w'→cI (toExit e1) aM w')→c.wpIn F 0 P cI aB bE):(Code.loop c).wpIn F 0 P Q a w:=by
 classical
 let Inv:Nat→Act→World→Prop:=fun n aM w'=>∃ s1,ia f n s1=some (e,aF)∧Step B N U J S w s1 aM w'
 let gl:Act→World→Nat:=fun aM w'=>if h:∃ n,Inv n aM w' then Classical.choose (kl h) else 0
 have mh:∀ aM w',(∃ n,Inv n aM w')→Inv (gl aM w') aM w'∧∀ m,Inv m aM w'→gl aM w'≤m:=fun aM w' h=>by
  have:gl aM w'=Classical.choose (kl h):=by simp only [gl,dif_pos h]
  rw [this];exact vi (kl h)
 refine wpIn_loop (fun aM w'=>∃ n,Inv n aM w') gl ⟨n,s,h,Step.here aK⟩ fun aB bE ko=>?_;obtain ⟨⟨s1,ad,gA⟩,_⟩:=mh aB bE ko;cases aN:gl aB bE with
 | zero=>rw [aN] at ad;simp [ia] at ad
 | succ m =>
   rw [aN] at ad;simp only [ia] at ad;split at ad
   ·rename_i s2 Cp;refine kr s1 .normal s2 Cp _ aB bE (fun l a w h=>h) gA fun aM w' dN=>?_;have hinv:Inv m aM w':=⟨s2,ad,dN⟩;exact ⟨⟨m,hinv⟩,Nat.lt_succ_of_le ((mh aM w' ⟨m,hinv⟩).2 m hinv)⟩
   ·rename_i fX;refine kr s1 e aF ad _ aB bE (fun l a w h=>h) gA fun aM w' dN=>?_;cases e with
    | normal=>exact absurd ad (fX aF)
    | ret=>exact bn aM w' dN
    | exit id=>exact bn aM w' dN
theorem nc {C:b8} (bw:da P C) (dI:P.follows .mixedOrders=true) {A:c9} {fn:FuncId} {lo d:Nat} {rl:Option Nat} :
  ∀ (c:Code) (aZ:Nat) (s:a6) (e:cD) (aF:a6),exec P A C fn lo d rl c aZ s=some (e,aF)→codeOk A c=true →
    ∀ (F:Fence) (Q:Exit→Act→World→Prop) (B N:Nat) (J:List Nat) (w:World) (U:Nat→Option aI) (S:Nat→Nat→Prop) (a:Act),ji F rl J→(∀ l a w,¬ Q (.goto l) a w) →
      cv B N U J S w s a→(∀ aM w',Step B N U J S w aF aM w'→Q (toExit e) aM w')→c.wpIn F 0 P Q a w:=by
 intro c
 induction c with
 | skip =>
   intro aZ s e aF h _ F Q B N J w U S a bD aO aK bn;simp only [exec,Option.some.injEq,Prod.mk.injEq] at h;obtain ⟨rfl,rfl⟩:=h;exact wpIn_skip (bn a w (Step.here aK))
 | label l =>
   intro aZ s e aF h _ F Q B N J w U S a bD aO aK bn;simp only [exec,Option.some.injEq,Prod.mk.injEq] at h;obtain ⟨rfl,rfl⟩:=h;exact wpIn_label (bn a w (Step.here aK))
 | ret =>
   intro aZ s e aF h _ F Q B N J w U S a bD aO aK bn;simp only [exec,Option.some.injEq,Prod.mk.injEq] at h;obtain ⟨rfl,rfl⟩:=h;exact wpIn_ret (bn a w (Step.here aK))
 | exit id =>
   intro aZ s e aF h _ F Q B N J w U S a bD aO aK bn;simp only [exec,Option.some.injEq,Prod.mk.injEq] at h;obtain ⟨rfl,rfl⟩:=h;exact wpIn_exit (bn a w (Step.here aK))
 | goto l=>intro aZ s e aF h;simp [exec] at h
 | refuse y=>intro aZ s e aF h;simp [exec] at h
 | region id ops draw =>
   intro aZ s e aF h bQ F Q B N J w U S a bD aO aK bn;simp only [exec] at h;split at h
   ·cases h
   rename_i kF;simp only [rU,Prod.mk.injEq] at h;obtain ⟨s1,h,rfl,rfl⟩:=h;refine z2 bD.lH dI bw (fun a0=>?_) h (aK.cF _ _) bn;simp only [codeOk,xo,kF] at bQ;simpa [a0] using bQ
 | seq x y nE pT =>
   intro aZ s e aF h bQ F Q B N J w U S a bD aO aK bn;simp only [codeOk,r_] at bQ;simp only [exec] at h;split at h
   ·rename_i s1 ad;refine wpIn_seq (nE _ _ _ _ ad bQ.1 F _ B N J w U S a bD (fun l a w=>aO l a w) aK fun aM w' ai=>?_);obtain ⟨b4,cS,a5,aJ,aP,cb⟩:=ai;exact pT _ _ _ _ h bQ.2 F Q B N cS w' b4 a5 aM (bD.ext aJ) aO cb fun gP hl dN=>bn gP hl (dN.trans aJ aP)
   ·rename_i fX;refine wpIn_seq (nE _ _ _ _ h bQ.1 F _ B N J w U S a bD (fun l a w=>aO l a w) aK fun aM w' ai=>?_);cases e with
    | normal=>exact absurd h (fX aF)
    | ret=>exact bn aM w' ai
    | exit id=>exact bn aM w' ai
 | cond x t f nD nC =>
   intro aZ s e aF h bQ F Q B N J w U S a bD aO aK bn;simp only [codeOk,r_] at bQ;simp only [exec] at h;have aj:=aK.aA x;split at h
   ·rename_i ag;rw [ag] at aj;exact wpIn_cond_true aj.hX (nD _ _ _ _ h bQ.1 F Q B N J w U S a bD aO aK bn)
   ·rename_i ag;rw [ag] at aj;exact wpIn_cond_false aj.hX (nC _ _ _ _ h bQ.2 F Q B N J w U S a bD aO aK bn)
   ·simp at h
 | block id c a' =>
   intro aZ s e aF h bQ F Q B N J w U S a bD aO aK bn;simp only [exec] at h;refine wpIn_block ?_;split at h
   ·rename_i bA s1 ad;refine a' _ _ _ _ ad bQ F _ B N J w U S a bD (fun l a w=>aO l a w) aK fun aM w' ai=>?_;by_cases aE:bA=id
    ·simp only [aE,if_true,Option.some.injEq,Prod.mk.injEq] at h;obtain ⟨rfl,rfl⟩:=h;simp only [toExit,Exit.inBlock,aE,if_true];exact bn aM w' ai
    ·simp only [aE,if_false,Option.some.injEq,Prod.mk.injEq] at h;obtain ⟨rfl,rfl⟩:=h;simp only [toExit,Exit.inBlock,aE,if_false];exact bn aM w' ai
   ·rename_i fX;refine a' _ _ _ _ h bQ F _ B N J w U S a bD (fun l a w=>aO l a w) aK fun aM w' ai=>?_;cases e with
    | normal=>exact bn aM w' ai
    | ret=>exact bn aM w' ai
    | exit bA=>exact absurd h (fX bA aF)
 | scope c a' =>
   intro aZ s e aF h bQ F Q B N J w U S a bD aO aK bn;simp only [exec] at h;exact Be (a' _ _ _ _ h bQ F Q B N J w U S a bD aO aK bn) aO
 | loop c a' =>
   intro aZ s e aF h bQ F Q B N J w U S a bD aO aK bn;simp only [exec] at h;refine Dv h aK bn fun s1 e1 s2 ad cI aB bE CW gA o1=>?_;obtain ⟨b4,cS,a5,aJ,aP,cb⟩:=gA;exact a' _ _ _ _ ad bQ F cI B N cS bE b4 a5 aB (bD.ext aJ) (fun l a w a4=>aO l a w (CW l a w a4)) (cb.cF _ _) fun aM w' dN=>o1 aM w' (dN.trans aJ aP)
 | rangeFunc g bj as b0 fa fp =>
   intro aZ s e aF h bQ F Q B N J w U S a bD aO aK bn;simp only [codeOk,r_] at bQ;simp only [exec] at h;split at h
   ·(rename_i k first cap g0 lV);have yW:=aK.aA g;rw [lV] at yW;split at h
    ·rename_i r H' ao;split at h
     ·rename_i st cH fU dR gG gv gw gr ak;split at h
      ·simp at h
      ·rename_i cL;have o1:∀ aM w',Step B N U J S w ⟨s.T.map I.settle,H'.set s.H.length .dead⟩ aM w'→pU F P Q cH aM w':=fun aM w' ai=>by
        split at h
        ·simp only [Option.some.injEq,Prod.mk.injEq] at h;obtain ⟨rfl,rfl⟩:=h;exact bn aM w' ai
        ·simp only [Option.some.injEq,Prod.mk.injEq] at h;obtain ⟨rfl,rfl⟩:=h;exact wpIn_ret (bn aM w' ai)
        ·simp only [Option.some.injEq,Prod.mk.injEq] at h;obtain ⟨rfl,rfl⟩:=h;exact wpIn_exit (bn aM w' ai)
        ·simp at h
       obtain ⟨a5,dt,dm,bY,kq,o4⟩:=AM s.T a.tmps.toList .slot S (fun i j h=>by cases h;rfl) (fun i id=>by simp) (fun i id j=>by simp) aK.T aK.H;have dc:bh U S w U a5 w:=bh.settle dt fun b o h=>(dm b o h).imp id fun ⟨i,h⟩=>⟨_,h⟩;have cb:cv B N U J a5 w ⟨s.T.map I.settle,s.H⟩ a:=⟨kq,bY,aK.M.aA dc⟩;have kG:(s.T.map I.settle).map I.view=s.T.map I.view:=by
        rw [List.map_map];apply tB;intro u _;exact xV u
       (have mb:a_ .slot U J a5 w ((s.T.map I.settle).map I.view) a.tmps.toList:=by rw [kG];exact o4);rw [←kG] at ao;have yx:∀ aM w',Step B N U J a5 w ⟨s.T.map I.settle,H'.set s.H.length .dead⟩ aM w'→pU F P Q cH aM w':=fun aM w' ai=>o1 aM w' (Step.trans (Ext.refl J) dc ai);have dr:=yW.mono (Ext.refl J) (S':=a5) (w':=w) (fun b o h=>⟨dt b o h,rfl⟩);obtain ⟨⟨f0,Co,iH,CO⟩,_⟩:=bw.ok ao;have yz:U w.heap.size=none:=by
        cases al:U w.heap.size with
        | none=>rfl
        | some l=>have:=(aK.H.base _ l al).2;omega
       generalize Cy:a.eval g=F_ at dr;cases dr with
       | func _ _ _ vs ws aJ aP bT b6 aS bk =>
         refine wpIn_rangeFunc fun fn' _=>?_;have kD:∀ (l:Nat) (w0:World),(resolve a.eval (rangeCall g l) 0).run P w0=.ok { target:=.fn (.func k) ws,args:=vs++#[Value.func (.yield l) #[] #[]] } w0:=fun l w0=>by
          have:(#[Operand.const (Value.func (.yield l) #[] #[])]:Array Operand).map a.eval=#[Value.func (.yield l) #[] #[]]:=by simp [Act.eval]
          simp only [resolve,rangeCall,Cy,Deferred.ofValue,this,Sem.run_pure]
         have hinv:∀ (l:Nat) (w0:World),(invoke (.fn (.func k) ws) (vs++#[Value.func (.yield l) #[] #[]])).run P w0=.ok (.enter k (vs++#[Value.func (.yield l) #[] #[]]++ws)) w0:=fun l w0=>by
          simp only [invoke,Ax Co iH CO]
         (have pf:Rel J a5 w (.func k first cap) (.func (.func k) vs ws):=.func k first cap vs ws aJ aP bT b6 aS bk);(have yC:F.depth.isSome=true→1≤0:=fun iK=>by rw [bD.lH.depth] at iK;cases iK);rcases bD with ⟨rfl,rfl⟩ | ⟨cx,dy,rfl,ag,rfl⟩
         ·have cr:=l_ cb.H;have e8:=zU (.inl rfl) bw cb mb pf bQ.1 bQ.2 ao ak cL (yk cr (.deferred (some []))) (C1 cr (.deferred (some []))) (fn':=fn') (dfr:=w.heap.size)
           (mark:=[{ target:=.collected w.heap.size,args:=#[] }]) ⟨by have:=aK.M.1;simp;omega,fun d a0=>by
            simp only [sI] at a0;subst a0;exact ⟨w.heap.size,rfl,aK.M.1,np yz,World.alloc_heap_new w _⟩,List.pairwise_singleton _ _⟩ (fun d a0 hE nv=>by
            simp only [sI] at a0;subst a0
            cases nv;exact ⟨yz,rX _⟩) yx
          (have bR:(w.alloc (.deferred (some []))).heap.size=w.heap.size+1:=by simp);rw [bR] at e8;exact ⟨_,_,_,_,_,k,_,_,run_enterLoop_outer fn' a.tmps bj as b0,kD _ _,fun _ _=>trivial,hinv _ _,yC,e8⟩
         ·have cr:=l_ cb.H;simp only [inLoop] at g0;split at g0
          ·rename_i bF;obtain ⟨_,_,ar,ov,aB,aH,aR,_⟩:=aK.H.obj cx _ bF;rw [ag] at aB;cases aB;have e8:=zU (.inr ⟨dy,rfl⟩) bw cb mb pf bQ.1 bQ.2 ao ak cL (bh.refl _ _ _) cr (fn':=fn') (dfr:=ov.defers)
            (mark:=[]) ⟨aK.M.1,fun d a0=>by simp at a0,List.Pairwise.nil⟩ (fun d a0=>by simp at a0) yx
           exact ⟨_,_,_,_,_,k,_,_,run_enterLoop_inner aR fn' a.tmps bj as b0,kD _ _,fun _ _=>trivial,hinv _ _,yC,e8⟩
          ·simp at g0
     ·simp at h
    ·simp at h
   ·simp at h
end
end Go.Proofs.YtfakoboiahbhaaaGreat.Ab


namespace Go.Proofs.YtfakoboiahbhaaaGreat.Ab
open Go
def hL (U:Nat→Option aI):Nat→Option aI:=fun b=>match U b with
 | some (.arg i)=>some (.slot i)
 | some (.obj id)=>some (.obj id)
 | some (.cell id j)=>some (.cell id j)
 | _=>none
def kZ (t:Nat) (U:Nat→Option aI):Nat→Option aI:=fun b=>match U b with
 | some (.slot i)=>if i=t then some .res else none
 | some (.obj id)=>some (.obj id)
 | some (.cell id j)=>some (.cell id j)
 | _=>none
section
variable {P:Program} {B N:Nat} {J:List Nat} {w:World} {H:List au} {U:Nat→Option aI} {S:Nat→Nat→Prop}
theorem relabel {az:Nat→Option aI} (ah:aL B U J S w H) (ad:∀ b,U b=none→az b=none) (af:∀ b l,U b=some l→((∃ id,l=.obj id)∨∃ id j,l=.cell id j)→az b=some l) :
  bh U S w az S w∧aL B az J S w H:=by
 have aN:∀ b,az b≠none→U b≠none:=fun b h aT=>h (ad b aT);refine ⟨⟨rfl,rfl,rfl,rX _,fun _ _ _=>rfl,fun _ _ h=>⟨h,rfl⟩,fun _ _ h=>.inl h,fun b h=>.inl (aN b h)⟩,⟨ah.cG,fun id o aq=>?_,ah.ch,fun b l ag=>?_,ah.cZ⟩⟩
 ·refine (ah.obj id o aq).frame (Ext.refl J) (fun _ _ h=>⟨h,rfl⟩) fun b l ag ak=>⟨af b l ag ?_,rfl,fun _ h=>h⟩;rcases ak with rfl | ⟨j,rfl⟩
  ·exact .inl ⟨id,rfl⟩
  ·exact .inr ⟨id,j,rfl⟩
 ·cases h:U b with
  | none=>rw [ad b h] at ag;cases ag
  | some l'=>exact ah.base b l' h
theorem oh (ah:aL B U J S w H):bh U S w (hL U) S w∧aL B (hL U) J S w H :=
 relabel ah (fun b h=>by simp [hL,h]) fun b l h ak=>by
  rcases ak with ⟨id,rfl⟩ | ⟨id,j,rfl⟩ <;> simp [hL,h]
theorem D5 (t:Nat) (ah:aL B U J S w H):bh U S w (kZ t U) S w∧aL B (kZ t U) J S w H :=
 relabel ah (fun b h=>by simp [kZ,h]) fun b l h ak=>by
  rcases ak with ⟨id,rfl⟩ | ⟨id,j,rfl⟩ <;> simp [kZ,h]
theorem xO (ah:aL B U J S w H) {args:List I} {vs:List Value} (ae:a_ (fun i=>.arg i) U J S w args vs) (n:Nat) :
  cv B w.heap.size (hL U) J S w ⟨args++List.replicate (n-args.length) .junk,H⟩ { tmps:=vs.toArray++Array.replicate (n-vs.toArray.size) undef,defers:=[] }:=by
 have ak:=ae.len;refine ⟨?_,(oh ah).2,rX _,fun d a0=>by simp at a0,List.Pairwise.nil⟩;have ma:(vs.toArray++Array.replicate (n-vs.toArray.size) undef).toList=vs++List.replicate (n-vs.length) undef:=by simp
 simp only [ma];have key:∀ (i:Nat) (u:I) (v:Value),(args++List.replicate (n-args.length) .junk)[i]?=some u→(vs++List.replicate (n-vs.length) undef)[i]?=some v →
   Rel J S w u v∧aW (hL U) J S w (.slot i) u v:=fun i u v hu al=>by
  rcases sO i args.length with ad | ad
  ·rw [se ad] at hu;rw [se (by omega)] at al;exact ⟨ae.rel i u v hu al,(ae.own i u v hu al).mono (Ext.refl J) (fun _ _ h=>⟨h,rfl⟩) fun b ag=>⟨by simp [hL,ag],rfl,fun _ h=>h⟩⟩
  ·rw [sB ad] at hu;rw [List.getElem?_replicate] at hu;split at hu
   ·cases hu;exact ⟨.junk v,aW.b5 rfl⟩
   ·simp at hu
 exact ⟨by simp [ak],fun i u v hu al=>(key i u v hu al).1,fun i u v hu al=>(key i u v hu al).2⟩
theorem nH {fn:Func} {tmps:Array Value} {R:Ending→World→Prop} {lj:Nat→Option aI} {S0:Nat→Nat→Prop} {w0:World} :
  ∀ (fA:List Deferred) (w:World),(∀ d∈fA,∃ r,d.target=.collected r∧w0.heap.size≤r∧U r=none∧w.heap[r]?=some (.deferred (some [])))→fA.Pairwise (fun a b=>a.target≠b.target)→bh lj S0 w0 U S w→aL B U J S w H →
    (∀ w',(∀ b l,U b=some l→w'.heap[b]?=w.heap[b]?)→(∀ b o,S b o→w'.cell? ⟨b,o,none⟩=w.cell? ⟨b,o,none⟩)→bh lj S0 w0 U S w'→aL B U J S w' H→∃ v,(results fn tmps).run P w'=.ok v w'∧R (.returned v) w')→LeavesInM Fence.wide 0 P fn tmps R fA .returning w
 | [],w,_,_,aA,ah,jz=>jz w (fun _ _ _=>rfl) (fun _ _ _=>rfl) aA ah
 | d::fA,w,a0,aC,aA,ah,jz=>by
   obtain ⟨r,ad,af,aG,a7⟩:=a0 d (by simp);have aj:r<w.heap.size:=(sS.1 a7).1;(have bR:(w.putObj r (.deferred none)).heap.size=w.heap.size:=by simp [World.putObj]);have h5:∀ b,b≠r→(w.putObj r (.deferred none)).heap[b]?=w.heap[b]?:=fun b h=>World.putObj_heap_other h;have bO:∀ b o,S b o→b≠r:=fun b o ai e=>by
    subst e;obtain ⟨v,ae⟩:=ah.ch b o ai;simp [World.cell?,a7] at ae
   have bx:∀ b o,b≠r→(w.putObj r (.deferred none)).cell? ⟨b,o,none⟩=w.cell? ⟨b,o,none⟩:=fun b o h=>by
    simp only [World.cell?,h5 b h]
   (have kx:∀ b l,U b=some l→b≠r:=fun b l h e=>by subst e;rw [aG] at h;cases h);have dc:bh lj S0 w0 U S (w.putObj r (.deferred none)):=by
    refine ⟨aA.os,aA.tape,aA.output,by rw [bR];exact aA.size,fun b ag aN=>?_,fun b o ai=>?_,aA.fresh,aA.own⟩
    ·rw [h5 b (by omega)];exact aA.cF b ag aN
    ·obtain ⟨aJ,aP⟩:=aA.set b o ai;exact ⟨aJ,(bx b o (bO b o aJ)).trans aP⟩
   have cp:∀ b o,S b o→S b o∧(w.putObj r (.deferred none)).cell? ⟨b,o,none⟩=w.cell? ⟨b,o,none⟩:=fun b o ai=>⟨ai,bx b o (bO b o ai)⟩;have fD:aL B U J S (w.putObj r (.deferred none)) H :=
    ⟨ah.cG,fun id o aq=>(ah.obj id o aq).frame (Ext.refl J) cp fun b l ag _=>⟨ag,h5 b (kx b l ag),fun _ h=>h⟩,fun b o ai=>by
     obtain ⟨v,ae⟩:=ah.ch b o ai
     exact ⟨v,(bx b o (bO b o ai)).trans ae⟩,fun b l ag=>by rw [bR];exact ah.base b l ag,by rw [bR];exact ah.cZ⟩
   refine ⟨by simp,.inl ⟨r,_,ad,run_takeDeferred a7,?_⟩⟩;have yR:=tx.1 aC;refine nH fA _ (fun gT nj=>?_) yR.2 dc fD (fun w' de aJ aP cl=>jz w' (fun b l h=>(de b l h).trans (h5 b (kx b l h))) (fun b o h=>(aJ b o h).trans (bx b o (bO b o h))) aP cl)
   ·obtain ⟨r',q1,aX,cB,dQ⟩:=a0 gT (by simp [nj])
    have:r'≠r:=fun e=>yR.1 gT nj (by rw [ad,q1,e])
    exact ⟨r',q1,aX,cB,(h5 r' this).trans dQ⟩
end
end Go.Proofs.YtfakoboiahbhaaaGreat.Ab


namespace Go.Proofs.YtfakoboiahbhaaaGreat.Ab
open Go
section
variable {P:Program} {B N:Nat} {J:List Nat} {w:World} {H:List au} {U:Nat→Option aI} {S:Nat→Nat→Prop}
theorem oW {bB:Nat→aI} {T:List I} {bf:Array Value} (bZ:a_ bB U J S w T bf.toList) (t:Nat):Rel J S w (c6 T t) (bf.getD t undef)∧aW U J S w (bB t) (c6 T t) (bf.getD t undef):=by
 rw [fV,sC];cases h:T[t]? with
 | none=>exact ⟨.junk _,aW.b5 rfl⟩
 | some u =>
   have ak:=bZ.len;have aV:t<T.length:=(rV.1 h).1;(have l3:t<bf.size:=by rw [←Array.length_toList,←ak];exact aV);(have al:bf.toList[t]?=some (bf.getD t undef):=by simp [sk,l3]);exact ⟨bZ.rel t u _ h al,bZ.own t u _ h al⟩
theorem mJ (ah:aL B U J S w H) {T:List I} {bf:Array Value} (bZ:a_ .slot U J S w T bf.toList) {g:ResultVar→Sem Value} (cd:∀ t,g (.tmp t)=pure (bf.getD t undef))
  (b_:∀ a t,g (.cell a t)=do loadVar t (←asAddr (bf.getD a undef))):∀ (rs:List ResultVar) (vs:List I),ff P H T rs=some vs →
  ∃ xs,(rs.mapM g).run P w=.ok xs w∧vs.length=xs.length∧∀ (j:Nat) (u:I) (x:Value),vs[j]?=some u→xs[j]?=some x→Rel J S w u x∧((u.plain=true∧True)∨∃ t,(u=c6 T t∧x=bf.getD t undef)∧aW U J S w (.slot t) u x)
 | [],vs,h=>by
   simp only [ff,Option.some.injEq] at h;subst h;exact ⟨[],by simp,rfl,by simp⟩
 | .tmp t::r,vs,h=>by
   simp only [ff,rU] at h;obtain ⟨dv,h,rfl⟩:=h;obtain ⟨xs,q1,aX,cB⟩:=mJ ah bZ cd b_ r dv h;obtain ⟨aS,bk⟩:=oW bZ t;refine ⟨bf.getD t undef::xs,by rw [vE];simp [cd,q1],by simp [aX],fun j u x hu al=>?_⟩;cases j with
   | zero=>simp only [ua,Option.some.injEq] at hu al;subst hu al;exact ⟨aS,.inr ⟨t,⟨rfl,rfl⟩,bk⟩⟩
   | succ j=>exact cB j u x (by simpa using hu) (by simpa using al)
 | .cell a t::r,vs,h=>by
   simp only [ff] at h;split at h
   ·rename_i v dv ae h9;simp only [Option.some.injEq] at h;subst h;obtain ⟨xs,q1,aX,cB⟩:=mJ ah bZ cd b_ r dv h9;have aj:=(oW bZ a).1;obtain ⟨x,aJ,aP,cl⟩:=k5 ah ae aj;have aC:∃ lx,bf.getD a undef=.pointer (some lx):=by
     unfold dS at ae;generalize bf.getD a undef=GJ at aj ⊢;split at ae
     ·rename_i heq;rw [heq] at aj;cases aj;exact ⟨_,rfl⟩
     ·rename_i heq;rw [heq] at aj;cases aj;exact ⟨_,rfl⟩
     ·simp at ae
    obtain ⟨lx,aC⟩:=aC;rw [aC] at aJ;(have Dh:(loadVar t lx).run P w=.ok x w:=by simpa [Instr.loadAt,Instr.sureAddr] using aJ);refine ⟨x::xs,by rw [vE];simp [b_,aC,asAddr,Dh,q1],by simp [aX],fun j u y hu al=>?_⟩;cases j with
    | zero=>simp only [ua,Option.some.injEq] at hu al;subst hu al;exact ⟨aP,.inl ⟨cl,trivial⟩⟩
    | succ j=>exact cB j u y (by simpa using hu) (by simpa using al)
   ·simp at h
theorem xt (ah:aL B U J S w H) {T:List I} {bf:Array Value} (bZ:a_ .slot U J S w T bf.toList) {fn:Func} {vs:List I} (h:ff P H T fn.results.toList=some vs) :
  ∃ v,(results fn bf).run P w=.ok v w∧a2 B U J S w H (hc vs) v w:=by
 have run:∀ xs,(fn.results.toList.mapM (fun (x:ResultVar)=>match x with | .tmp t=>(pure (bf.getD t undef):Sem Value) | .cell a t=>do loadVar t (←asAddr (bf.getD a undef)))).run P w=.ok xs w →
   (results fn bf).run P w=.ok (if h:xs.toArray.size=1 then xs.toArray[0] else .tuple xs.toArray) w:=fun xs al=>by
  have aO:results fn bf=(do
    let vs ←fn.results.mapM (fun (x:ResultVar)=>match x with | .tmp t=>(pure (bf.getD t undef):Sem Value) | .cell a t=>do loadVar t (←asAddr (bf.getD a undef)))
    pure (if h:vs.size=1 then vs[0] else .tuple vs)):=by
   unfold results;congr 1
  rw [aO,Array.mapM_eq_mapM_toList];simp only [Sem.run_bind,Sem.run_map,al,Result.andThen_ok,Sem.run_pure]
 match vs,h with
 | [u],h =>
   obtain ⟨xs,q1,aX,cB⟩:=mJ ah bZ (g:=fun x=>match x with | .tmp t=>pure (bf.getD t undef) | .cell a t=>do loadVar t (←asAddr (bf.getD a undef))) (fun _=>rfl) (fun _ _=>rfl) _ _ h
   match xs,aX with
   | [x],_ =>
     obtain ⟨aS,bk⟩:=cB 0 u x rfl rfl;refine ⟨x,by rw [run _ q1];rfl,?_⟩;rcases bk with ⟨aC,_⟩ | ⟨t,_,aq⟩
     ·exact a2.same ah aS aC
     ·obtain ⟨aA,cf⟩:=D5 t ah;exact ⟨kZ t U,J,S,Ext.refl J,aA,cf,aS,aq.mono (Ext.refl J) (fun _ _ h=>⟨h,rfl⟩) fun b ag=>⟨by simp [kZ,ag],rfl,fun _ h=>h⟩⟩
 | [],h =>
   obtain ⟨xs,q1,aX,cB⟩:=mJ ah bZ (g:=fun x=>match x with | .tmp t=>pure (bf.getD t undef) | .cell a t=>do loadVar t (←asAddr (bf.getD a undef))) (fun _=>rfl) (fun _ _=>rfl) _ _ h
   match xs,aX with
   | [],_=>exact ⟨.tuple #[],by rw [run _ q1];rfl,a2.same ah (.tuple [] #[] rfl (by simp) (by simp)) rfl⟩
 | fs::gi::us,h =>
   obtain ⟨a5,dt,dm,bY,kq,o4⟩:=AM T bf.toList .slot S (fun i j h=>by cases h;rfl) (fun i id=>by simp) (fun i id j=>by simp) bZ ah;have dc:bh U S w U a5 w:=bh.settle dt fun b o h=>(dm b o h).imp id fun ⟨i,h⟩=>⟨_,h⟩;obtain ⟨xs,q1,aX,cB⟩:=mJ ah bZ (g:=fun x=>match x with | .tmp t=>pure (bf.getD t undef) | .cell a t=>do loadVar t (←asAddr (bf.getD a undef))) (fun _=>rfl) (fun _ _=>rfl) _ _ h
   refine ⟨.tuple xs.toArray,by
    rw [run _ q1]
    have:¬ xs.toArray.size=1:=by simp at aX ⊢;omega
    rw [dif_neg this],a2.after (Ext.refl J) dc (a2.same bY (.tuple _ _ (by simp at aX ⊢;omega) ?_ ?_) rfl)⟩
   ·intro y a1;obtain ⟨x,_,rfl⟩:=sq.1 a1;exact I.dh x
   ·intro j y x a1 al;simp only [sm,rU] at a1;obtain ⟨u,hu,rfl⟩:=a1;obtain ⟨aS,bk⟩:=cB j u x hu (by simpa using al);rcases bk with ⟨aC,_⟩ | ⟨t,⟨rfl,rfl⟩,_⟩
    ·rw [I.ke aC];exact aS.mono (Ext.refl J) fun b o h=>⟨dt b o h,rfl⟩
    ·have:=(oW o4 t).1;have ae:c6 (T.map I.view) t=(c6 T t).view:=by
      rw [fV,fV,sC,sC,sm];cases T[t]? <;> rfl
     rw [ae] at this;exact this
end
end Go.Proofs.YtfakoboiahbhaaaGreat.Ab


namespace Go.Proofs.YtfakoboiahbhaaaGreat.Ab
open Go
def gM (bj:List Nat) (U:Nat→Option aI):Nat→Option aI:=fun b=>match U b with
 | some (.arg i)=>(bj[i]?).map .slot
 | some (.obj id)=>some (.obj id)
 | some (.cell id j)=>some (.cell id j)
 | _=>none
section
variable {P:Program} {B N:Nat} {J:List Nat} {w:World} {H:List au} {U:Nat→Option aI} {S:Nat→Nat→Prop}
theorem A8 (bj:List Nat) (ah:aL B U J S w H):bh U S w (gM bj U) S w∧aL B (gM bj U) J S w H :=
 relabel ah (fun b h=>by simp [gM,h]) fun b l h ak=>by
  rcases ak with ⟨id,rfl⟩ | ⟨id,j,rfl⟩ <;> simp [gM,h]
theorem xK:∀ (bj:List Nat) (us:List I) (T a8:List I) (xs bf:List Value),hj bj us T=some a8→us.length=xs.length→T.length=bf.length →
  bj.length=us.length∧a8.length=T.length∧((bj.zip xs).foldl (fun (l:List Value) (p:Nat×Value)=>l.set p.1 p.2) bf).length=bf.length ∧
  ∀ (i:Nat) (u:I) (x:Value),a8[i]?=some u→((bj.zip xs).foldl (fun (l:List Value) (p:Nat×Value)=>l.set p.1 p.2) bf)[i]?=some x →
    (T[i]?=some u∧bf[i]?=some x)∨∃ (j:Nat),bj[j]?=some i∧us[j]?=some u∧xs[j]?=some x
 | [],[],T,a8,xs,bf,h,ak,ax=>by
   simp only [hj,Option.some.injEq] at h;subst h;exact ⟨rfl,rfl,by simp,fun i u x hu al=>.inl ⟨hu,by simpa using al⟩⟩
 | p::bj,xU::us,T,a8,jg::xs,bf,h,ak,ax=>by
   simp only [hj,gL] at h;obtain ⟨ad,af,aG,a7⟩:=xK bj us (T.set p xU) a8 xs (bf.set p jg) h (by simpa using ak) (by simpa using ax);refine ⟨by simp [ad],by simpa using af,by simpa using aG,fun i u x hu al=>?_⟩;rcases a7 i u x hu (by simpa using al) with ⟨aJ,aP⟩ | ⟨j,aJ,aP,cl⟩
   ·by_cases yQ:p=i
    ·subst yQ;(have dK:p<T.length:=by have:=(rV.1 aJ).1;simpa using this);(have kL:p<bf.length:=by omega);rw [rY dK] at aJ;rw [rY kL] at aP;exact .inr ⟨0,rfl,by simpa using aJ,by simpa using aP⟩
    ·rw [sa yQ] at aJ aP;exact .inl ⟨aJ,aP⟩
   ·exact .inr ⟨j+1,by simpa using aJ,by simpa using aP,by simpa using cl⟩
 | [],_::_,T,a8,xs,bf,h,ak,ax=>by simp [hj] at h
 | _::_,[],T,a8,xs,bf,h,ak,ax=>by simp [hj] at h
 | _::_,_::_,T,a8,[],bf,h,ak,ax=>by simp at ak
theorem Aq (L:Loop) (vs:List Value):(hG L vs).toList=(L.params.toList.zip vs).foldl (fun (l:List Value) (p:Nat×Value)=>l.set p.1 p.2) L.tmps.toList:=by
 unfold hG;rw [←Array.foldl_toList,Array.toList_zip];generalize L.params.toList.zip vs=gj;generalize L.tmps=bf
 induction gj generalizing bf with
 | nil=>rfl
 | cons z gj a'=>simp only [List.foldl_cons];rw [a'];simp
theorem cv.loop {s:a6} {a:Act} (aK:cv B N U J S w s a) {id b:Nat} {L:Loop} {st:LoopState} {cH:Option Code} {fn:FuncId} {T:List I} {bj:List Nat} {as b0:Code} {an:c9}
  (aE:s.H[id]?=some (.loop st cH fn T bj as b0 an)) (ag:J[id]?=some b) (fk:w.heap[b]?=some (.loop L)) (hk:LoopState) (hd:Option Code) :
  bh U S w U S (w.putObj b (.loop { L with state:=hk,pending:=hd }))∧cv B N U J S (w.putObj b (.loop { L with state:=hk,pending:=hd })) ⟨s.T,s.H.set id (.loop hk hd fn T bj as b0 an)⟩ a:=by
 obtain ⟨aA,ah,_⟩:=Dw aK.H aE ag fk hk hd;obtain ⟨_,_,ar,ov,aB,aH,_⟩:=aK.H.obj id _ aE;rw [ag] at aB;cases aB;refine ⟨aA,⟨⟨aK.T.len,fun i u v hu ae=>(aK.T.rel i u v hu ae).mono (Ext.refl J) aA.set,fun i u v hu ae=>?_⟩,ah,aK.M.aA aA⟩⟩;refine (aK.T.own i u v hu ae).mono (Ext.refl J) aA.set fun ar br=>⟨br,World.putObj_heap_other (fun e=>?_),fun _ h=>h⟩;subst e;rw [aH] at br;cases br
theorem BK (dI:P.follows .mixedOrders=true) {C:b8} (bw:da P C) {k:Nat} {f:Func} {c:Code} (aQ:P.funcs[k]?=some f) (ag:f.body=some c) {A:c9} (bQ:codeOk A c=true)
  {lo d:Nat} {args:List I} {e:cD} {s:a6} (h:exec P A C k lo d none c 0 ⟨args++List.replicate (f.ntmps-args.length) .junk,H⟩=some (e,s)) (he:e=.normal∨e=.ret) {vs:List I}
  (aj:ff P s.H s.T f.results.toList=some vs) {xs:List Value} (ah:aL B U J S w H) (ae:a_ (fun i=>.arg i) U J S w args xs) :
  CallsIn Fence.wide 0 P k xs.toArray w (fu B U J S w s.H (hc vs)):=by
 refine callsIn_of_wp_marks aQ ag trivial ?_;have aK:=xO ah ae f.ntmps;have dc:=(oh ah).1;refine nc bw dI c 0 _ _ _ h bQ Fence.wide _ B w.heap.size J w (hL U) S _ (.inl ⟨rfl,rfl⟩) (fun l a w aO=>aO.elim) aK fun aM w' ai=>?_;obtain ⟨b4,cS,a5,aJ,aP,cb⟩:=ai;have iL:LeavesInM Fence.wide 0 P f aM.tmps (fu B U J S w s.H (hc vs)) aM.defers .returning w':=by
  refine nH (U:=b4) (S:=a5) (J:=cS) (B:=B) (H:=s.H) (lj:=U) (S0:=S) (w0:=w) aM.defers w' cb.M.2.1 cb.M.2.2 (dc.trans aP) cb.H fun bV dt dm ml mm=>?_
  have bZ:a_ .slot b4 cS a5 bV s.T aM.tmps.toList:=⟨cb.T.len,fun i u v hu ae=>(cb.T.rel i u v hu ae).mono (Ext.refl _) (fun b o h=>⟨h,dm b o h⟩),fun i u v hu ae =>
   (cb.T.own i u v hu ae).mono (Ext.refl _) (fun b o h=>⟨h,dm b o h⟩) fun b ag=>⟨ag,dt b _ ag,fun _ h=>h⟩⟩
  obtain ⟨v,q1,aX⟩:=xt mm bZ aj;exact ⟨v,q1,a2.after aJ ml aX⟩
 rcases he with rfl | rfl
 ·exact iL
 ·exact iL
end
end Go.Proofs.YtfakoboiahbhaaaGreat.Ab


namespace Go.Proofs.YtfakoboiahbhaaaGreat.Ab
open Go
section
variable {P:Program} {B N:Nat} {J:List Nat} {w:World} {H:List au} {U:Nat→Option aI} {S:Nat→Nat→Prop}
def k4 (l:Nat) (H:List au) (fn:FuncId) (T:List I) (bj:List Nat) (as b0:Code) (an:c9):cD→I×List au
 | .normal=>(.bool true,H.set l (.loop .ready none fn T bj as b0 an))
 | .ret=>(.bool false,H.set l (.loop .done (some .ret) fn T bj as b0 an))
 | .exit id=>(.bool false,H.set l (.loop .done (some (.exit id)) fn T bj as b0 an))
theorem BL (dI:P.follows .mixedOrders=true) {C:b8} (bw:da P C) {l lo d:Nat} {fn fn':FuncId} {jY cH:Option Code} {T a8 dR dD:List I} {bj gG fN:List Nat} {as b0 gv gw fy fz:Code} {an gr fx:c9} {fU fC:FuncId} {args:List I}
  (ak:H[l]?=some (.loop .ready jY fn T bj as b0 an)) (eh:hj bj args T=some a8) {s1 s2:a6} {e:cD} {jZ:Option Code}
  (ad:exec P an C fn lo d (some l) as 0 ⟨a8,H⟩=some (.normal,s1)) (hA:s1.H[l]?=some (.loop .ready cH fU dR gG gv gw gr))
  (af:exec P an C fn' lo d (some l) b0 0 ⟨s1.T,s1.H.set l (.loop .busy cH fU dR gG gv gw gr)⟩=some (e,s2)) (e':s2.H[l]?=some (.loop .busy jZ fC dD fN fy fz fx))
  {xs:List Value} {b:Nat} (ah:aL B U J S w H) (ae:a_ (fun i=>.arg i) U J S w args xs) (ag:J[l]?=some b) :
  ∃ L,w.heap[b]?=some (.loop L)∧xs.length=L.params.size ∧
    RoundIn Fence.wide 0 P b L.fn (hG L xs) L.assign L.body w (fu B U J S w (k4 l s2.H fC dD fN fy fz fx e).2 (k4 l s2.H fC dD fN fy fz fx e).1):=by
 obtain ⟨ba,bm,ar,L,aB,aH,aR,bl,bc,bg,c2,db,dE,fw,oy⟩:=ah.obj l _ ak;rw [ag] at aB;cases aB;have cL:=xK bj args T a8 xs L.tmps.toList eh ae.len (by simpa using c2.symm);obtain ⟨cd,b_,dZ,hq⟩:=cL;refine ⟨L,aR,by rw [←ae.len,←cd,←dE];simp,?_⟩;refine roundIn_of_wpIn trivial ?_;have ma:(hG L xs).toList=(bj.zip xs).foldl (fun (l:List Value) (p:Nat×Value)=>l.set p.1 p.2) L.tmps.toList:=by rw [Aq,dE]
 obtain ⟨dc,fD⟩:=A8 bj ah;have aK:cv B w.heap.size (gM bj U) J S w ⟨a8,H⟩ { tmps:=hG L xs,defers:=[] }:=by
  refine ⟨?_,fD,rX _,fun d a0=>by simp at a0,List.Pairwise.nil⟩;simp only [ma];have key:∀ (i:Nat) (u:I) (x:Value),a8[i]?=some u→((bj.zip xs).foldl (fun (l:List Value) (p:Nat×Value)=>l.set p.1 p.2) L.tmps.toList)[i]?=some x →
    Rel J S w u x∧aW (gM bj U) J S w (.slot i) u x:=fun i u x hu al=>by
   rcases hq i u x hu al with ⟨aJ,aP⟩ | ⟨j,aJ,aP,cl⟩
   ·obtain ⟨bT,b6⟩:=db i u x aJ (by simpa using aP);exact ⟨b6,aW.b5 bT⟩
   ·exact ⟨ae.rel j u x aP cl,(ae.own j u x aP cl).mono (Ext.refl J) (fun _ _ h=>⟨h,rfl⟩) fun b ag=>⟨by simp [gM,ag,aJ],rfl,fun _ h=>h⟩⟩
  exact ⟨by rw [b_,dZ,←c2];simp,fun i u x hu al=>(key i u x hu al).1,fun i u x hu al=>(key i u x hu al).2⟩
 rw [fw,oy];refine nc bw dI as 0 _ _ _ ad ba _ _ B w.heap.size J w (gM bj U) S _ (.inr ⟨l,b,rfl,ag,rfl⟩) (fun l a w aO=>aO) aK fun aB bE ai=>?_;obtain ⟨b4,cS,a5,aJ,aP,cb⟩:=ai;have eV:cS[l]?=some b:=aJ _ _ ag;obtain ⟨_,_,ar,jk,d1,d2,d3,d4,d5,_⟩:=cb.H.obj l _ hA;rw [eV] at d1;cases d1;obtain ⟨dY,oZ⟩:=cb.loop hA eV d3 .busy cH;have o7:(Instr.beginRound b).run P bE=.ok () (bE.putObj b (.loop { jk with state:=.busy,pending:=cH })):=by
  rw [run_beginRound d3 d4]
  have:({ jk with state:=.busy,pending:=cH }:Loop)={ jk with state:=.busy }:=by rw [←d5]
  rw [this]
 refine ⟨_,o7,?_⟩;refine wpIn_mono (Q:=fun cO aM w'=>(∀ t,cO≠Exit.goto t)∧roundPost P b (fu B U J S w (k4 l s2.H fC dD fN fy fz fx e).2 (k4 l s2.H fC dD fN fy fz fx e).1) cO aM w') ?_ (fun e a w h=>h.2);refine nc bw dI b0 0 _ _ _ af bm _ _ B w.heap.size cS _ b4 a5 _ (.inr ⟨l,b,rfl,eV,rfl⟩) (fun l a w aO=>aO.1 l rfl) oZ fun aH bV ai=>?_;obtain ⟨bp,cj,bJ,cl,jP,lM⟩:=ai;have fl:cj[l]?=some b:=cl _ _ eV;obtain ⟨_,_,ar,iv,f1,f2,f3,f4,f5,_⟩:=lM.H.obj l _ e';rw [fl] at f1;cases f1;have jx:bh U S w bp bJ bV:=((dc.trans aP).trans dY).trans jP;have fin:∀ (st:LoopState) (jump:Option Code),a2 B U J S w (s2.H.set l (.loop st jump fC dD fN fy fz fx)) (.bool jump.isNone) (.bool jump.isNone) (bV.putObj b (.loop { iv with state:=st,pending:=jump })):=fun st jump=>by
  obtain ⟨oP,o0⟩:=lM.loop e' fl f3 st jump;exact ⟨bp,cj,bJ,aJ.trans cl,jx.trans oP,o0.H,.bool _,aW.b5 rfl⟩
 refine ⟨fun t ax=>(by cases e <;> cases ax),?_⟩;cases e with
 | normal=>exact ⟨_,_,run_endRound none f3,fin .ready none⟩
 | ret=>exact ⟨_,_,run_endRound (some .ret) f3,fin .done (some .ret)⟩
 | exit id=>exact ⟨_,_,run_endRound (some (.exit id)) f3,fin .done (some (.exit id))⟩
theorem BM (dI:P.follows .mixedOrders=true) (A:FuncId→c9) {tab:b8} (ax:da P tab)
  (bQ : ∀ k f c, (A k).bad = false → P.funcs[k]? = some f → f.body = some c → codeOk (A k) c = true ∧ f.name ≠ "runtime.NumGoroutine") : ∀ d, da P (fS P A tab d)
 | 0=>⟨fun h=>by simp [fS] at h,fun h=>by simp [fS] at h⟩
 | d+1=>by
   have bw:=BM dI A ax bQ d;have yr:∀ {k:FuncId} {args:List I} {H:List au} {lo:Nat} {r:I} {H':List au},fS P A tab (d+1) (.fn k) args H lo=some (r,H')→tab (.fn k) args H lo=some (r,H') ∨
     ∃ f c e s vs,(A k).bad=false∧P.funcs[k]?=some f∧f.body=some c∧exec P (A k) (fS P A tab d) k lo d none c 0 ⟨args++List.replicate (f.ntmps-args.length) .junk,H⟩=some (e,s)∧(e=.normal∨e=.ret) ∧
       ff P s.H s.T f.results.toList=some vs∧r=hc vs∧H'=s.H:=fun {k args H lo r H'} h=>by
    simp only [fS] at h;split at h
    ·rename_i x al;cases h;exact .inl al
    ·right;split at h
     ·simp at h
     rename_i ng;split at h
     ·rename_i f aQ;split at h
      ·rename_i c ag;split at h
       ·rename_i s ai;simp only [rU,Prod.mk.injEq] at h;obtain ⟨vs,aj,rfl,rfl⟩:=h;exact ⟨f,c,_,s,vs,ng,aQ,ag,ai,.inl rfl,aj,rfl,rfl⟩
       ·rename_i s ai;simp only [rU,Prod.mk.injEq] at h;obtain ⟨vs,aj,rfl,rfl⟩:=h;exact ⟨f,c,_,s,vs,ng,aQ,ag,ai,.inr rfl,aj,rfl,rfl⟩
       ·simp at h
      ·simp at h
     ·simp at h
   have Bj:∀ {l:Nat} {args:List I} {H:List au} {lo:Nat} {r:I} {H':List au},fS P A tab (d+1) (.yield l) args H lo=some (r,H') →
     ∃ jY fn T bj as b0 an a8 s1 cH fU dR gG gv gw gr e s2 jZ fC dD fN fy fz fx,lo≤l∧H[l]?=some (.loop .ready jY fn T bj as b0 an)∧hj bj args T=some a8 ∧
       exec P an (fS P A tab d) fn lo d (some l) as 0 ⟨a8,H⟩=some (.normal,s1)∧s1.H[l]?=some (.loop .ready cH fU dR gG gv gw gr) ∧
       exec P an (fS P A tab d) fU lo d (some l) b0 0 ⟨s1.T,s1.H.set l (.loop .busy cH fU dR gG gv gw gr)⟩=some (e,s2)∧s2.H[l]?=some (.loop .busy jZ fC dD fN fy fz fx) ∧
       (r,H')=k4 l s2.H fC dD fN fy fz fx e:=fun {l args H lo r H'} h=>by
    simp only [fS] at h;split at h
    ·simp at h
    ·rename_i bF;split at h
     ·rename_i jY fn T bj as b0 an ak;split at h
      ·rename_i a8 eh;split at h
       ·rename_i s1 ad;split at h
        ·rename_i cH fU dR gG gv gw gr hA;split at h
         ·rename_i e s2 af;split at h
          ·rename_i jZ fC dD fN fy fz fx e';refine ⟨jY,fn,T,bj,as,b0,an,a8,s1,cH,fU,dR,gG,gv,gw,gr,e,s2,jZ,fC,dD,fN,fy,fz,fx,by omega,ak,eh,ad,hA,af,e',?_⟩;cases e <;> simp only [Option.some.injEq] at h <;> exact h.symm
          ·simp at h
         ·simp at h
        ·simp at h
       ·simp at h
      ·simp at h
     ·simp at h
   refine ⟨fun {b2 args H lo r H'} h=>?_,fun {b2 args H lo r H'} h=>?_⟩
   ·cases b2 with
    | fn k =>
      rcases yr h with h | ⟨f,c,e,s,vs,_,_,_,aG,_,_,_,rfl⟩
      ·exact ax.low h
      ·exact oS bw c 0 _ e s aG
    | yield l =>
      obtain ⟨jY,fn,T,bj,as,b0,an,a8,s1,cH,fU,dR,gG,gv,gw,gr,e,s2,jZ,fC,dD,fN,fy,fz,fx,bF,ak,eh,ad,hA,af,e',aj⟩:=Bj h;have df:=oS bw as 0 _ _ s1 ad;have dg:=oS bw b0 0 _ e s2 af;(have jQ:bb lo s2.H (k4 l s2.H fC dD fN fy fz fx e).2:=by cases e <;> exact bb.set _ _ bF);rw [←aj] at jQ;exact (df.trans ((bb.set s1.H _ bF).trans dg)).trans jQ
   ·cases b2 with
    | fn k =>
      rcases yr h with h | ⟨f,c,e,s,vs,ng,aQ,ag,aG,he,aj,rfl,rfl⟩
      ·exact ax.ok h
      obtain ⟨bC,bS⟩:=bQ k f c ng aQ ag;exact ⟨⟨f,aQ,by simp [ag],bS⟩,fun B U J S w xs ah _ ae=>BK dI bw aQ ag bC aG he aj ah ae⟩
    | yield l =>
      obtain ⟨jY,fn,T,bj,as,b0,an,a8,s1,cH,fU,dR,gG,gv,gw,gr,e,s2,jZ,fC,dD,fN,fy,fz,fx,bF,ak,eh,ad,hA,af,e',aj⟩:=Bj h;intro B U J S w xs b ah _ ae ag;have:=BL dI bw ak eh ad hA af e' ah ae ag;rw [←aj] at this;exact this
end
end Go.Proofs.YtfakoboiahbhaaaGreat.Ab


namespace Go.Proofs.YtfakoboiahbhaaaGreat.Ab
open Go
def Sem (P:Program) (b2:e5) (args:List I) (H:List au) (lo:Nat) (r:I) (H':List au):Prop:=bb lo H H'∧jn P b2 args H H' r
def lk (P:Program) (k:FuncId) (args:List I) (v:I):Prop:=Sem P (.fn k) args [] 0 v []∧ct 8 v=true
abbrev di:=List (FuncId×List I×I)
def hn (P:Program) (acc:di):Prop:=(∀ p∈acc,lk P p.1 p.2.1 p.2.2)∧∀ p∈acc,∀ q∈acc,p.1=q.1→p.2.1=q.2.1→p.2.2=q.2.2
def hP (C:b8) (acc:di):Prop:=∀ p∈acc,∃ r a3,C (.fn p.1) p.2.1 [] 0=some (r,a3)∧bL a3 0 a3.length 0 8 r=some p.2.2
section
variable {P:Program}
theorem oI {C:b8} (h:∀ b2 args H lo r H',C b2 args H lo=some (r,H')→Sem P b2 args H lo r H'):da P C :=
 ⟨fun ao=>(h _ _ _ _ _ _ ao).1,fun ao=>(h _ _ _ _ _ _ ao).2⟩
theorem da.GD {C:b8} (bw:da P C) {b2:e5} {args:List I} {H:List au} {lo:Nat} {r:I} {H':List au} (h:C b2 args H lo=some (r,H')):Sem P b2 args H lo r H':=⟨bw.low h,bw.ok h⟩
theorem yf:da P (fun _ _ _ _=>none):=oI fun _ _ _ _ _ _ h=>by cases h
noncomputable def kS (b2:e5) (args:List I) (H:List au) (lo:Nat) (r:I) (H':List au):b8:=fun t a h l =>
 open Classical in if t=b2∧a=args∧h=H∧l=lo then some (r,H') else none
theorem D2 (b2:e5) (args:List I) (H:List au) (lo:Nat) (r:I) (H':List au):kS b2 args H lo r H' b2 args H lo=some (r,H'):=by simp [kS]
theorem D3 {b2:e5} {args:List I} {H:List au} {lo:Nat} {r:I} {H':List au} (h:Sem P b2 args H lo r H'):da P (kS b2 args H lo r H') :=
 oI fun t a aY l r' a3 ao=>by
  unfold kS at ao;split at ao
  ·rename_i he;obtain ⟨rfl,rfl,rfl,rfl⟩:=he;cases ao;exact h
  ·cases ao
theorem zt {f:I→Option I}:∀ {l:List I},(∀ u∈l,f u=some u)→ec f l=some l
 | [],_=>rfl
 | u::l,h=>by
   simp only [ec,h u (by simp),zt (l:=l) fun v ae=>h v (by simp [ae]),sc]
theorem oV {H:List au} {lo id0 n:Nat}:∀ {d:Nat} {v:I},ct d v=true→bL H lo id0 n d v=some v
 | 0,v,h=>by simp [ct] at h
 | d+1,v,h=>by
   have key:∀ {l:List I},l.all (ct d)=true→ec (bL H lo id0 n d) l=some l:=fun h=>zt fun u hu=>oV (by rw [ss] at h;exact h u hu);cases v <;> simp only [ct,tA] at h <;> try rfl
   case ay cells len c=>simp only [bL,key h,sc]
   case bW cells=>simp only [bL,key h,sc]
   case agg cs=>simp only [bL,key h,sc]
   case tuple cs=>simp only [bL,key h,sc]
   case func f a b =>
    simp only [r_] at h;simp only [bL,key h.1,key h.2]
theorem oB {acc:di} (h:hn P acc):∃ C,da P C∧hP C acc:=by
 classical
 obtain ⟨ad,af⟩:=h;have key:∀ x:e5×List I×List au×Nat,∃ o:Option (I×List au),(∀ r H',o=some (r,H')→Sem P x.1 x.2.1 x.2.2.1 x.2.2.2 r H') ∧
   ∀ p∈acc,x=(.fn p.1,p.2.1,[],0)→∃ r a3,o=some (r,a3)∧bL a3 0 a3.length 0 8 r=some p.2.2:=fun x=>by
  by_cases al:∃ p∈acc,x=(.fn p.1,p.2.1,[],0)
  ·obtain ⟨p,aC,rfl⟩:=al;obtain ⟨q1,aX⟩:=ad p aC;refine ⟨some (p.2.2,[]),fun r' H' e=>by cases e;exact q1,fun q a4 e=>?_⟩;simp only [Prod.mk.injEq,e5.fn.injEq] at e;exact ⟨p.2.2,[],rfl,by rw [oV aX,af p aC q a4 e.1 e.2.1]⟩
  ·exact ⟨none,(fun r H' e=>nomatch e),fun p aC e=>absurd ⟨p,aC,e⟩ al⟩
 let C:b8:=fun t a H l=>Classical.choose (key (t,a,H,l))
 have bw:∀ t a H l,_:=fun t a H l=>vi (key (t,a,H,l));exact ⟨C,oI fun t a H l r H' ao=>(bw t a H l).1 r H' ao,fun p aC=>(bw _ _ _ _).2 p aC rfl⟩
def x2 (o:Oper) (s:a6) (K:a6→Prop):Prop :=
 ∃ it r m since seen es clock,o.op=.next it false∧o.guard=none∧Ab.aA s.T it=.ptr r 0∧s.H[r]?=some (.iter m since seen clock)∧s.H[m]?=some (.map es clock)∧since≤clock∧(∀ e∈es,e.1<since) ∧
   ((∀ e∈es,e.1∈seen)→K ⟨put s.T o.dst (.tuple [.bool false]),s.H⟩) ∧
   ∀ e∈es,e.1 ∉ seen→K ⟨put s.T o.dst (.tuple [.bool true,e.2.1,e.2.2]),s.H.set r (.iter m since (seen++[e.1]) clock)⟩
section
variable {B N:Nat} {J:List Nat} {w:World} {H:List au} {U:Nat→Option aI} {S:Nat→Nat→Prop}
theorem Dg (ah:aL B U J S w H) {id m since since' j_ stepped':Nat} {seen seen':List Nat} (aE:H[id]?=some (.iter m since seen j_)) {b ed:Nat}
  (aB:J[id]?=some b) (aH:U b=some (.obj id)) (aR:J[m]?=some ed) (bc:∀ o,¬ S b o) :
  bh U S w U S (w.putObj b (.mapIter (some ed) since' seen'.toArray stepped'))∧aL B U J S (w.putObj b (.mapIter (some ed) since' seen'.toArray stepped')) (H.set id (.iter m since' seen' stepped')):=by
 have hs:∀ ar o,S ar o→ar≠b:=fun ar o ai e=>bc o (e ▸ ai);have ag:=(ah.base b _ aH).2;have aA:bh U S w U S (w.putObj b (.mapIter (some ed) since' seen'.toArray stepped')) :=
  ⟨rfl,rfl,rfl,by simp,fun ar _ aN=>World.putObj_heap_other (fun e=>by subst e;rw [aH] at aN;cases aN),fun ar o ai=>⟨ai,nW (hs ar o ai)⟩,fun ar o ai=>.inl ai,fun ar h=>.inl h⟩
 refine ⟨aA,by simpa using ah.cG,fun bA o aq=>?_,fun ar o ai=>?_,fun ar l h=>by simpa using ah.base ar l h,by simpa using ah.cZ⟩
 ·by_cases gY:bA=id
  ·subst gY;rw [rY (rV.1 aE).1] at aq;cases aq;exact ⟨b,ed,aB,aH,aR,World.putObj_heap_same ag,bc⟩
  ·rw [sa (fun e=>gY e.symm)] at aq;refine (ah.obj bA o aq).frame (Ext.refl J) aA.set fun ar cx br jH=>?_;have bO:ar≠b:=fun e=>by
    subst e;rw [aH] at br;cases br;rcases jH with h | ⟨j,h⟩
    ·cases h;exact gY rfl
    ·cases h
   exact ⟨br,World.putObj_heap_other bO,fun o ai=>ai⟩
 ·obtain ⟨v,ae⟩:=ah.ch ar o ai;exact ⟨v,(nW (hs ar o ai)).trans ae⟩
theorem DW {F:Fence} (bD:ej F) {o:Oper} {s:a6} {K':a6→Prop} (h:x2 o s K') {a:Act} (aK:cv B N U J S w s a)
  {K:Act→World→Prop} {Q:Exit→Act→World→Prop} (fE:∀ aF,K' aF→∀ aM w',Step B N U J S w aF aM w'→K aM w'):o.wpIn F 0 P a w K Q:=by
 obtain ⟨it,r,m,since,seen,es,clock,aD,aO,CD,aj,hm,pH,hold,de,aJ⟩:=h;have jJ:∀ c,o.op≠.defer c:=fun c ao=>by rw [aD] at ao;cases ao
 refine ⟨fun f _=>bD.fn f,?_⟩;rw [Oper.semAt_eq _ _ _ jJ];have lV:=aK.aA it;rw [CD] at lV;have fD:=l_ aK.H;obtain ⟨b,ed,aB,aH,aR,bl,bc⟩:=fD.obj r _ aj;obtain ⟨F3,bz,ba,bm,bt,b9,dX,fR⟩:=fD.obj m _ hm;rw [aR] at ba;cases ba;generalize ae:a.eval it=v at lV;cases lV with
 | ptr _ _ ar eW =>
   rw [aB] at eW;cases eW;have Ce:∀ x∈bz.toList,x.born<since:=fun x al=>by
    obtain ⟨j,aw⟩:=tu.1 al;(have ee:bz[j]?=some x:=by simpa using aw);(have aV:j<es.length:=by have:=(sS.1 ee).1;omega);rcases bK:es[j] with ⟨i,k,v⟩;(have he:es[j]?=some (i,k,v):=by rw [sd aV,bK]);rw [(fR j i k v x he ee).1];exact hold (i,k,v) (sA he)
   have done:∀ {r':I} {H':List au} {v:Value} {w':World},a2 B (dk U) J S w H' r' v w'→K' ⟨put s.T o.dst r',H'⟩→K (a.put o.dst v) w':=fun {r' H' v w'} aC av=>by
    obtain ⟨az,b1,S',q1,aX,fW,_⟩:=nV o.dst aK aC .junk (fun _ _ _ _ _=>.junk _);exact fE _ av _ _ ⟨az,b1,S',q1,aX,fW⟩
   rcases run_next_at (P:=P) w o.type b ed since clock seen.toArray bz clock bl bt Ce pH with ⟨aN,dM⟩ | ⟨x,al,bE,y2,dM⟩
   ·(have pG:(Go.execOp a.eval o).run P w=.ok (.value (.tuple #[.bool false])) w:=by simp [Go.execOp,aD,ae,dM]);rw [pG];refine done (a2.same fD (.tuple _ _ rfl (by simp [I.plain]) fun j u bu hu bd=>?_) rfl) (de fun e he=>?_)
    ·match j with
     | 0=>simp at hu bd;subst hu;subst bd;exact .bool _
     | j+1=>simp at hu
    ·obtain ⟨j,aw⟩:=tu.1 he;have aV:j<es.length:=(rV.1 aw).1;have al:bz[j]?=some bz[j]:=sv (by omega);have ag:=(fR j e.1 e.2.1 e.2.2 _ aw al).1;have lU:leftOf bz seen.toArray=#[]:=Array.eq_empty_of_size_eq_zero aN;unfold leftOf at lU;rw [Array.filter_eq_empty_iff] at lU;have:=lU bz[j] (by simp);simpa [ag] using this
   ·have pG:(Go.execOp a.eval o).run P w=.ok (.value (.tuple #[.bool true,x.key,x.val])) (bE.putObj b (.mapIter (some ed) since (seen++[x.born]).toArray clock)):=by
     simp [Go.execOp,aD,ae,dM,Go.ChangeMaps.setBlock,World.putObj]
    rw [pG];have nA:x∈bz.toList∧x.born ∉ seen:=by
     unfold leftOf at al;simpa using al
    obtain ⟨j,aw⟩:=tu.1 nA.1;(have ee:bz[j]?=some x:=by simpa using aw);(have aV:j<es.length:=by have:=(sS.1 ee).1;omega);rcases bK:es[j] with ⟨i,k,v⟩;(have he:es[j]?=some (i,k,v):=by rw [sd aV,bK]);obtain ⟨d1,d2,d3,d4,d5⟩:=fR j i k v x he ee;have ky:(i,k,v)∈es:=sA he;refine done (r':=.tuple [.bool true,k,v]) (H':=s.H.set r (.iter m since (seen++[i]) clock)) ?_ (aJ _ ky (by rw [←d1];exact nA.2));(have hw:aL B (dk U) J S bE s.H:=by rcases y2 with rfl | rfl;exact fD;exact l9 fD);(have pd:bh (dk U) S w (dk U) S bE:=by rcases y2 with rfl | rfl;exact bh.refl _ _ _;exact kj _ _ _);refine a2.after (Ext.refl J) pd ?_;obtain ⟨aA,cf⟩:=Dg hw (since':=since) (stepped':=clock) (seen':=seen++[i]) aj aB aH aR bc;rw [d1];refine ⟨dk U,J,S,Ext.refl J,aA,cf,.tuple _ _ rfl (fun u hu=>?_) (fun j u bu hu bd=>?_),aW.b5 rfl⟩
    ·simp only [sf,List.not_mem_nil,or_false] at hu;rcases hu with rfl | rfl | rfl
     ·rfl
     ·exact d2
     ·exact d4
    ·match j with
     | 0=>simp at hu bd;subst hu;subst bd;exact .bool _
     | 1=>simp at hu bd;subst hu;subst bd;exact (d3.mono (Ext.refl J) pd.set).mono (Ext.refl J) aA.set
     | 2=>simp at hu bd;subst hu;subst bd;exact (d5.mono (Ext.refl J) pd.set).mono (Ext.refl J) aA.set
     | j+3=>simp at hu
end
end
end Go.Proofs.YtfakoboiahbhaaaGreat.Ab


namespace Go.Proofs.YtfakoboiahbhaaaGreat.Ab
open Go
section
variable {P:Program} {B N:Nat} {J:List Nat} {w:World} {U:Nat→Option aI} {S:Nat→Nat→Prop}
theorem xJ {C:b8} {lo:Nat} {ops:Array Oper} {an:List b7} {i:Nat} {cQ:Oper} (hi:ops[i]?=some cQ) {R:Nat→Nat→Prop} {aF:a6}:∀ (l:List Nat) (s:a6),l.Pairwise R→i∈l →
  (∀ j∈l,R j i→∀ c3,ops[j]?=some c3→indep ops c3 (an.getD j {}) cQ (an.getD i {})=true)→cy P C lo ops an l s=some aF →
  ∃ s1,du P C lo ops cQ (an.getD i {}) s=some s1∧cy P C lo ops an (l.erase i) s1=some aF
 | [],s,_,h,_,_=>by simp at h
 | j::r,s,aC,hm,jG,h=>by
   by_cases g1:j=i
   ·subst g1;simp only [cy,hi,sb] at h;obtain ⟨s1,ad,af⟩:=h;exact ⟨s1,ad,by simpa using af⟩
   ·have aj:i∈r:=by
     rcases sf.1 hm with h | h
     ·exact absurd h.symm g1
     ·exact h
    have aV:R j i:=(tx.1 aC).1 i aj;have he:(j::r).erase i=j::r.erase i:=by
     rw [List.erase_cons];simp [g1]
    rw [he];simp only [cy] at h ⊢;cases aw:ops[j]? with
    | none =>
      simp only [aw] at h;exact xJ hi r s (tx.1 aC).2 aj (fun k av=>jG k (by simp [av])) h
    | some c3 =>
      simp only [aw,sb] at h;obtain ⟨s1,ad,af⟩:=h;obtain ⟨s2,aJ,aP⟩:=xJ hi r s1 (tx.1 aC).2 aj (fun k av=>jG k (by simp [av])) af;obtain ⟨s3,q1,aX⟩:=A1 (jG j (by simp) aV c3 aw) ad aJ;exact ⟨s3,q1,by dsimp only;rw [aX];exact aP⟩
def c8 (O:List Nat) (listed:Array Bool):List Nat:=O.filter fun i=>!listed.getD i true
theorem z7 {O:List Nat} (lO:O.Nodup) {i:Nat} {listed:Array Bool}:c8 O (listed.setIfInBounds i true)=(c8 O listed).erase i:=by
 have jJ:(c8 O listed).Nodup:=lO.filter _;rw [jJ.erase_eq_filter];simp only [c8,List.filter_filter];congr 1;funext j;by_cases gZ:j=i
 ·subst gZ;rcases sO j listed.size with h | h
  ·simp [sk,h]
  ·simp [sk,h]
 ·have:(listed.setIfInBounds i true).getD j true=listed.getD j true:=by
   simp only [sk];rw [u_ (Ne.symm gZ)]
  rw [this];simp [gZ]
def fg (n p q:Nat):List Nat:=(List.range n).map fun i=>if i=p then q else if i=q then p else i
def lp (p q j i:Nat):Prop:=(j<i∧¬ (j=p∧i=q))∨(j=q∧i=p)
theorem xR {n p:Nat} (a4:p+1<n):(fg n p (p+1)).Pairwise (lp p (p+1)):=by
 unfold fg;rw [uB];refine List.Pairwise.imp (fun {a b} h=>?_) uA;unfold lp;split <;> split <;> (try split) <;> (try split) <;> omega
theorem xQ {n p:Nat} (a4:p+1<n):(fg n p (p+1)).Nodup:=by
 unfold fg List.Nodup;rw [uB];refine List.Pairwise.imp (fun {a b} h=>?_) ue;split <;> split <;> (try split) <;> (try split) <;> omega
theorem mQ {n p:Nat} (a4:p+1<n) (i:Nat):i∈fg n p (p+1)↔i<n:=by
 unfold fg;rw [sq];constructor
 ·rintro ⟨a,cg,rfl⟩;have:=sx.1 cg;split <;> (try split) <;> omega
 ·intro h;refine ⟨if i=p then p+1 else if i=p+1 then p else i,sx.2 ?_,?_⟩
  ·split <;> (try split) <;> omega
  ·by_cases ad:i=p
   ·subst ad;simp
   ·by_cases af:i=p+1
    ·subst af;simp
    ·simp [ad,af]
theorem Bw {F:Fence} (bD:ej F) {C:b8} (bw:da P C) {lo:Nat} {ops:Array Oper} {an:List b7} {p:Nat} (a4:p+1<ops.size) (a0:m9 ops an p (p+1)=true) {Q:Exit→Act→World→Prop} {s1 s2:a6} :
  ∀ (fuel:Nat) (listed:Array Bool) (s:a6) (a:Act) (w:World) (U:Nat→Option aI) (J:List Nat) (S:Nat→Nat→Prop),(c8 (List.range ops.size) listed).length≤fuel→lE ops listed →
    ((cy P C lo ops an (c8 (List.range ops.size) listed) s=some s1∧cy P C lo ops an (c8 (fg ops.size p (p+1)) listed) s=some s2∧listed.getD p true=false∧listed.getD (p+1) true=false) ∨
      (cy P C lo ops an (c8 (List.range ops.size) listed) s=some s1∧listed.getD p true=true)∨(cy P C lo ops an (c8 (fg ops.size p (p+1)) listed) s=some s2∧listed.getD (p+1) true=true)) →
    cv B N U J S w s a→(∀ aF,aF=s1∨aF=s2→∀ aM w',Step B N U J S w aF aM w'→Q .normal aM w')→wpAnyIn F 0 P .any ops Q fuel listed a w:=by
 have c':∀ j c3,ops[j]?=some c3→((g8 ops.toList []).getD j 0=mx (g8 ops.toList []) c3)∧(∀ e∈c3.after,Region.binds .any e=true→e.on<j) ∧
   ∀ i cQ,i<j→ops[i]?=some cQ→((g8 ops.toList []).getD j 0).testBit i=true∨indep ops cQ (an.getD i {}) c3 (an.getD j {})=true∨(i=p∧j=p+1):=fun j c3 aw=>by
  have aV:j<ops.size:=(sS.1 aw).1;simp only [m9,zI,ss,sx] at a0;have h:=a0 j aV;rw [aw] at h;simp only [r_,beq_iff_eq,ss,sx] at h;obtain ⟨⟨ad,af⟩,aG⟩:=h;refine ⟨ad,fun e he ag=>?_,fun i cQ gZ hi=>?_⟩
  ·have:=af e (by simpa using he);simp only [ag,Bool.not_true,Bool.false_or] at this;simpa [te] using this
  ·have a7:=aG i gZ;rw [hi] at a7;simp only [tQ,r_] at a7;rcases a7 with (a7 | a7) | a7
   ·exact .inl a7
   ·exact .inr (.inl a7)
   ·exact .inr (.inr ⟨sW a7.1,sW a7.2⟩)
 have xr:∀ (listed:Array Bool),lE ops listed→∀ (n k:Nat) ok,k≤n→ops[k]?=some ok→(∀ e∈ok.after,Region.binds .any e=true→listed.getD e.on false=true) →
   ∀ j,((g8 ops.toList []).getD k 0).testBit j=true→listed.getD j false=true:=by
  intro listed cE n
  induction n with
  | zero =>
    intro k ok av aq eK j aw;rw [(c' k ok aq).1] at aw;rcases my _ j _ _ aw with h | ⟨e,he,ag,h⟩
    ·simp at h
    ·have:=(c' k ok aq).2.1 e (by simpa using he) ag;omega
  | succ n a' =>
    intro k ok av aq eK j aw;rw [(c' k ok aq).1] at aw;rcases my _ j _ _ aw with h | ⟨e,he,ag,h⟩
    ·simp at h
    ·(have jE:e∈ok.after:=by simpa using he);have aV:=(c' k ok aq).2.1 e jE ag;have h4:=eK e jE ag;rcases h with h | rfl
     ·have kv:=(sS.1 aq).1;have l5:ops[e.on]?=some ops[e.on]:=sv (by omega);have pF:listed.getD e.on true=true:=by
       rcases sO e.on listed.size with aY | aY
       ·simp [sk,aY] at h4 ⊢;exact h4
       ·simp [sk,aY] at h4
      exact a' e.on _ (by omega) l5 (cE e.on _ l5 pF) j h
     ·exact h4
 have iM:∀ (O:List Nat) (listed:Array Bool) (i:Nat),i∈c8 O listed↔i∈O∧listed.getD i true=false:=fun O listed i=>by
  simp [c8]
 have lU:∀ (O:List Nat) (listed:Array Bool),(∀ i,i∈O↔i<ops.size)→c8 (List.range ops.size) listed=[]→c8 O listed=[]:=fun O listed lO h=>by
  rw [uz];intro i hi;have:=(iM _ _ _).1 hi;have af:i∈c8 (List.range ops.size) listed:=(iM _ _ _).2 ⟨sx.2 ((lO i).1 this.1),this.2⟩;rw [h] at af;simp at af
 have yE:∀ (listed:Array Bool) (s:a6),c8 (List.range ops.size) listed=[] →
   ((cy P C lo ops an (c8 (List.range ops.size) listed) s=some s1∧cy P C lo ops an (c8 (fg ops.size p (p+1)) listed) s=some s2∧listed.getD p true=false∧listed.getD (p+1) true=false) ∨
     (cy P C lo ops an (c8 (List.range ops.size) listed) s=some s1∧listed.getD p true=true)∨(cy P C lo ops an (c8 (fg ops.size p (p+1)) listed) s=some s2∧listed.getD (p+1) true=true))→s=s1∨s=s2:=fun listed s h hinv=>by
  have af:=lU _ listed (mQ a4) h;rw [h,af] at hinv;simp only [cy,Option.some.injEq] at hinv;rcases hinv with h | h | h
  ·exact .inl h.1
  ·exact .inl h.1
  ·exact .inr h.1
 have front:∀ (O:List Nat) (R:Nat→Nat→Prop),O.Pairwise R→O.Nodup→(∀ i,i∈O↔i<ops.size)→∀ (listed:Array Bool) (s aF:a6) (i:Nat) (cQ:Oper),lE ops listed→ops[i]?=some cQ→listed.getD i true=false →
   (∀ e∈cQ.after,Region.binds .any e=true→listed.getD e.on false=true)→(∀ j,R j i→listed.getD j true=false→j<i∧¬ (j=p∧i=p+1))→cy P C lo ops an (c8 O listed) s=some aF →
   ∃ s3,du P C lo ops cQ (an.getD i {}) s=some s3∧cy P C lo ops an (c8 O (listed.setIfInBounds i true)) s3=some aF:=by
  intro O R B' B_ B9 listed s aF i cQ cE ef ad eK jz dM;have aV:=(sS.1 ef).1
  obtain ⟨s3,q1,aX⟩:=xJ ef (R:=R) (c8 O listed) s (B'.filter _) ((iM _ _ _).2 ⟨(B9 i).2 aV,ad⟩) (fun j aw g1 c3 pE=>by
   have ds:=((iM _ _ _).1 aw).2;obtain ⟨lY,bO⟩:=jz j g1 ds;rcases (c' i cQ ef).2.2 j c3 lY pE with h | h | h
   ·have:=xr listed cE i i cQ (rX _) ef eK j h;rcases sO j listed.size with aY | aY
    ·simp [sk,aY] at ds this;rw [this] at ds;simp at ds
    ·simp [sk,aY] at ds
   ·exact h
   ·exact absurd h bO) dM
  exact ⟨s3,q1,by rw [z7 B_];exact aX⟩
 intro fuel
 induction fuel with
 | zero =>
   intro listed s a w U J S ph cE hinv aK bn;have h3:c8 (List.range ops.size) listed=[]:=List.length_eq_zero_iff.1 (by omega);refine ⟨?_,bn s (yE listed s h3 hinv) a w (Step.here aK)⟩;rw [uz];intro i hi;obtain ⟨ad,o,aq,_⟩:=mem_ready.1 hi
   have:i∈c8 (List.range ops.size) listed:=(iM _ _ _).2 ⟨sx.2 (sS.1 aq).1,by simp [ad]⟩
   rw [h3] at this;simp at this
 | succ fuel a' =>
   intro listed s a w U J S ph cE hinv aK bn;refine ⟨fun aj=>?_,fun i hi=>?_⟩
   ·have h3:c8 (List.range ops.size) listed=[]:=by
     rw [uz];intro i
     induction i using Nat.strongRecOn with
     | _ i pS =>
       intro hi;obtain ⟨aV,ds⟩:=(iM _ _ _).1 hi;have aV:=sx.1 aV;have aq:ops[i]?=some ops[i]:=sv aV
       have:i∈Region.ready .any ops listed:=mem_ready.2 ⟨by simpa using ds,_,aq,fun e he ag=>by
        have h2:=(c' i _ aq).2.1 e he ag;have kA:=pS e.on h2;have ak:listed.getD e.on true=true:=by
         cases al:listed.getD e.on true with
         | true=>rfl
         | false=>exact absurd ((iM _ _ _).2 ⟨sx.2 (by omega),al⟩) kA
        rcases sO e.on listed.size with aY | aY
        ·simp [sk,aY] at ak ⊢;exact ak
        ·rcases sO i listed.size with lL | lL
         ·omega
         ·simp [sk,lL] at ds⟩
       rw [aj] at this;simp at this
    exact bn s (yE listed s h3 hinv) a w (Step.here aK)
   ·obtain ⟨ad,cQ,ef,eK⟩:=mem_ready.1 hi;have aV:=(sS.1 ef).1;(have iG:listed.getD i true=false:=by simpa using ad);have ky:i∈c8 (List.range ops.size) listed:=(iM _ _ _).2 ⟨sx.2 aV,iG⟩;have kp:∀ i,i∈List.range ops.size↔i<ops.size:=fun i=>sx;have bR:i<listed.size:=by
     rcases sO i listed.size with aY | aY
     ·exact aY
     ·simp [sk,aY] at iG
    have ny:(listed.setIfInBounds i true).getD i true=true:=by
     simp [sk,bR]
    have bO:∀ k,k≠i→(listed.setIfInBounds i true).getD k true=listed.getD k true:=fun k av=>by
     simp only [sk];rw [u_ (Ne.symm av)]
    obtain ⟨s3,q1,CC⟩:∃ s3,du P C lo ops cQ (an.getD i {}) s=some s3 ∧
      ((cy P C lo ops an (c8 (List.range ops.size) (listed.setIfInBounds i true)) s3=some s1∧cy P C lo ops an (c8 (fg ops.size p (p+1)) (listed.setIfInBounds i true)) s3=some s2∧(listed.setIfInBounds i true).getD p true=false∧(listed.setIfInBounds i true).getD (p+1) true=false) ∨
        (cy P C lo ops an (c8 (List.range ops.size) (listed.setIfInBounds i true)) s3=some s1∧(listed.setIfInBounds i true).getD p true=true)∨(cy P C lo ops an (c8 (fg ops.size p (p+1)) (listed.setIfInBounds i true)) s3=some s2∧(listed.setIfInBounds i true).getD (p+1) true=true)):=by
     rcases hinv with ⟨cd,b_,dZ,hq⟩ | ⟨cd,b_⟩ | ⟨cd,b_⟩
     ·by_cases lW:i=p
      ·obtain ⟨s3,aJ,aP⟩:=front _ _ uA ue kp listed s s1 i cQ cE ef iG eK (fun j aw _=>⟨aw,by omega⟩) cd;exact ⟨s3,aJ,.inr (.inl ⟨aP,by rw [←lW];exact ny⟩)⟩
      ·by_cases lX:i=p+1
       ·obtain ⟨s3,aJ,aP⟩:=front _ _ (xR a4) (xQ a4) (mQ a4) listed s s2 i cQ cE ef iG eK (fun j aw _=>by unfold lp at aw;omega) b_;exact ⟨s3,aJ,.inr (.inr ⟨aP,by rw [←lX];exact ny⟩)⟩
       ·obtain ⟨s3,aJ,aP⟩:=front _ _ uA ue kp listed s s1 i cQ cE ef iG eK (fun j aw _=>⟨aw,by omega⟩) cd;obtain ⟨Gz,cl,jP⟩:=front _ _ (xR a4) (xQ a4) (mQ a4) listed s s2 i cQ cE ef iG eK (fun j aw _=>by unfold lp at aw;omega) b_;rw [aJ] at cl;cases cl;exact ⟨s3,aJ,.inl ⟨aP,jP,by rw [bO _ (Ne.symm lW)];exact dZ,by rw [bO _ (Ne.symm lX)];exact hq⟩⟩
     ·obtain ⟨s3,aJ,aP⟩:=front _ _ uA ue kp listed s s1 i cQ cE ef iG eK (fun j aw ds=>⟨aw,fun e=>by rw [e.1,b_] at ds;simp at ds⟩) cd;refine ⟨s3,aJ,.inr (.inl ⟨aP,?_⟩)⟩;by_cases lW:p=i
      ·rw [lW];exact ny
      ·rw [bO _ lW];exact b_
     ·obtain ⟨s3,aJ,aP⟩:=front _ _ (xR a4) (xQ a4) (mQ a4) listed s s2 i cQ cE ef iG eK (fun j aw ds=>by
       unfold lp at aw;rcases aw with aw | ⟨rfl,_⟩
       ·exact aw
       ·rw [b_] at ds;simp at ds) cd
      refine ⟨s3,aJ,.inr (.inr ⟨aP,?_⟩)⟩;by_cases lX:p+1=i
      ·rw [lX];exact ny
      ·rw [bO _ lX];exact b_
    refine A4 bD bw ef q1 aK fun aM w' ai=>?_;obtain ⟨b4,cS,a5,aJ,aP,cb⟩:=ai;refine a' (listed.setIfInBounds i true) s3 aM w' b4 cS a5 ?_ ?_ CC cb fun aF g2 gP hl dN=>bn aF g2 gP hl (dN.trans aJ aP)
    ·rw [z7 ue,List.length_erase_of_mem ky];omega
    ·intro k ok av ak e he ag;by_cases l2:k=i
     ·subst l2;rw [ef] at av;cases av;exact getD_set_true (eK e he ag)
     ·have:listed.getD k true=true:=by rw [getD_set_ne true (Ne.symm l2)] at ak;exact ak
      exact getD_set_true (cE k ok av this e he ag)
theorem Ei {F:Fence} (bD:ej F) (hm:P.follows .mixedOrders=true) {C:b8} (bw:da P C) {lo id:Nat} {ops:Array Oper} {an:List b7} {p:Nat} (a4:p+1<ops.size) (a0:m9 ops an p (p+1)=true) {Q:Exit→Act→World→Prop} {s s1 s2:a6} {a:Act}
  (ad:cy P C lo ops an (List.range ops.size) s=some s1) (af:cy P C lo ops an (fg ops.size p (p+1)) s=some s2) (aK:cv B N U J S w s a) (bn:∀ aF,aF=s1∨aF=s2→∀ aM w',Step B N U J S w aF aM w'→Q .normal aM w'):(Code.region id ops true).wpIn F 0 P Q a w:=by
 refine wpIn_region_any hm ?_;have hw:aL B U J S w.drew s.H:=l9 aK.H;have aA:=kj U S w;have fW:cv B N U J S w.drew s a:=⟨⟨aK.T.len,fun i u v hu ae=>(aK.T.rel i u v hu ae).mono (Ext.refl J) aA.set,fun i u v hu ae=>(aK.T.own i u v hu ae).mono (Ext.refl J) aA.set fun b ag=>⟨ag,rfl,fun _ h=>h⟩⟩,hw,aK.M.aA aA⟩;have ds:∀ i,i<ops.size→(Array.replicate ops.size false).getD i true=false:=fun i hi=>by simp [sk,hi]
 have kC:∀ O:List Nat,(∀ i,i∈O↔i<ops.size)→c8 O (Array.replicate ops.size false)=O:=fun O lO=>by
  simp only [c8];rw [List.filter_eq_self];intro i hi;rw [ds i ((lO i).1 hi)];rfl
 have kp:∀ i,i∈List.range ops.size↔i<ops.size:=fun i=>sx;refine Bw bD bw a4 a0 (s1:=s1) (s2:=s2) (lo:=lo) ops.size (Array.replicate ops.size false) s a w.drew U J S (by rw [kC _ kp];simp) ?_ (.inl ⟨by rw [kC _ kp];exact ad,by rw [kC _ (mQ a4)];exact af,ds _ (by omega),ds _ a4⟩) fW fun aF g2 aM w' ai=>bn aF g2 aM w' (ai.trans (Ext.refl J) aA);intro k o aq ak;have aV:=(sS.1 aq).1;rw [ds k aV] at ak;cases ak
end
end Go.Proofs.YtfakoboiahbhaaaGreat.Ab


namespace Go.Proofs.YtfakoboiahbhaaaGreat.Ab
open Go
section
variable (P:Program)
def iy (lo:Nat) (ops:Array Oper) (o:Oper) (an:b7) (s:a6) (K:a6→Prop):Prop :=
 (∃ C aF,da P C∧du P C lo ops o an s=some aF∧K aF)∨x2 o s K
def runN (lo:Nat) (ops:Array Oper):List Oper→List b7→a6→(a6→Prop)→Prop
 | [],_,s,K=>K s
 | o::r,as,s,K=>iy P lo ops o (as.headD {}) s fun aF=>runN lo ops r as.tail aF K
def EB (lo:Nat) (ops:Array Oper) (as:List b7) (s:a6) (K:a6→Prop):Prop :=
 ∃ acc aF,hn P acc∧(∀ C,da P C→hP C acc→eI P C lo ops ops.toList as s=some aF)∧K aF
def EC (lo:Nat) (ops:Array Oper) (as:List b7) (p:Nat) (s:a6) (K:a6→Prop):Prop :=
 ∃ acc s1 s2,hn P acc∧(∀ C,da P C→hP C acc→cy P C lo ops as (List.range ops.size) s=some s1∧cy P C lo ops as (fg ops.size p (p+1)) s=some s2)∧K s1∧K s2
def fv (f:a6→(cD→a6→Prop)→Prop):Nat→a6→(cD→a6→Prop)→Prop
 | 0,_,_=>False
 | n+1,s,Q=>f s fun e aF=>match e with
   | .normal=>fv f n aF Q
   | e=>Q e aF
def c4 (A:c9) (fn:FuncId) (lo:Nat) (rl:Option Nat):Code→Nat→a6→(cD→a6→Prop)→Prop
 | .skip,_,s,Q=>Q .normal s
 | .region id ops draw,_,s,Q=>match j' A id draw with
   | some p=>EC P lo ops (A.ops.getD id []) p (eX A.h' id s) (Q .normal)
   | none=>match draw with
     | true=>EB P lo ops (A.ops.getD id []) (eX A.h' id s) (Q .normal)
     | false=>runN P lo ops ops.toList (A.ops.getD id []) (eX A.h' id s) (Q .normal)
 | .seq a b,aZ,s,Q=>c4 A fn lo rl a aZ s fun e aF=>match e with
   | .normal=>c4 A fn lo rl b aZ aF Q
   | e=>Q e aF
 | .cond c a b,aZ,s,Q=>(∃ t,aA s.T c=.bool t∧match t with
   | true=>c4 A fn lo rl a aZ s Q
   | false=>c4 A fn lo rl b aZ s Q)∨(aA s.T c=.dq∧c4 A fn lo rl a aZ s Q∧c4 A fn lo rl b aZ s Q)
 | .block id body,_,s,Q=>c4 A fn lo rl body id s fun e aF=>match e with
   | .exit bA=>if bA=id then Q .normal aF else Q (.exit bA) aF
   | e=>Q e aF
 | .loop body,aZ,s,Q=>∃ n,fv (fun aF=>c4 A fn lo rl body aZ (eX A.h_ aZ aF)) n s Q
 | .exit id,_,s,Q=>Q (.exit id) s
 | .ret,_,s,Q=>Q .ret s
 | .scope body,aZ,s,Q=>c4 A fn lo rl body aZ s Q
 | .label _,_,s,Q=>Q .normal s
 | .rangeFunc f params assign body,aZ,s,Q=>∃ C e aF,da P C∧exec P A C fn lo 0 rl (.rangeFunc f params assign body) aZ s=some (e,aF)∧Q e aF
 | _,_,_,_=>False
end
section
variable {P:Program} {B N:Nat} {J:List Nat} {w:World} {H:List au} {U:Nat→Option aI} {S:Nat→Nat→Prop}
theorem FC {F:Fence} (bD:ej F) {lo:Nat} {ops:Array Oper} {o:Oper} {an:b7} {s:a6} {K':a6→Prop} (h:iy P lo ops o an s K') {a:Act} (aK:cv B N U J S w s a)
  {rest:List Oper} {Q:Exit→Act→World→Prop} (fE:∀ aF,K' aF→∀ aM w',Step B N U J S w aF aM w'→wpListIn F 0 P ops Q rest aM w'):wpListIn F 0 P ops Q (o::rest) a w:=by
 rcases h with ⟨C,aF,bw,h,av⟩ | h
 ·unfold du at h;unfold wpListIn;split at h
  ·rename_i hw;rw [la aK hw];simp only [if_true];exact xP bD bw h aK fun aM w' ai=>fE aF av aM w' ai
  ·rename_i hw;rw [la aK hw];simp only [tA,if_false];simp only [Option.some.injEq] at h;subst h;exact ⟨fun f _=>bD.fn f,fE _ av _ _ (Step.here (aK.skip o.dst))⟩
  ·simp at h
 ·have aO:o.guard=none:=by obtain ⟨_,_,_,_,_,_,_,_,aO,_⟩:=h;exact aO
  unfold wpListIn;have hw:Region.wanted o (yielded ops a.tmps)=true:=by unfold Region.wanted;rw [aO]
  rw [hw];simp only [if_true];exact DW bD h aK fun aF av aM w' ai=>fE aF av aM w' ai
theorem Au {F:Fence} (bD:ej F) {lo:Nat} {ops:Array Oper} {K':a6→Prop} {Q:Exit→Act→World→Prop} :
  ∀ (rest:List Oper) (as:List b7) (s:a6) (a:Act) (w:World) (U:Nat→Option aI) (J:List Nat) (S:Nat→Nat→Prop),runN P lo ops rest as s K'→cv B N U J S w s a →
    (∀ aF,K' aF→∀ aM w',Step B N U J S w aF aM w'→Q .normal aM w')→wpListIn F 0 P ops Q rest a w
 | [],as,s,a,w,U,J,S,h,aK,bn=>bn s h a w (Step.here aK)
 | o::rest,as,s,a,w,U,J,S,h,aK,bn=>by
   refine FC bD h aK fun aF av aM w' ai=>?_;obtain ⟨b4,cS,a5,aJ,aP,cb⟩:=ai;exact Au bD rest as.tail aF aM w' b4 cS a5 av cb fun EN CE gP hl dN=>bn EN CE gP hl (dN.trans aJ aP)
theorem Du {F:Fence} {c:Code} {f:a6→(cD→a6→Prop)→Prop} {cI:cD→a6→Prop} {Q:Exit→Act→World→Prop} {s:a6} {a:Act} {n:Nat}
  (h:fv f n s cI) (aK:cv B N U J S w s a) (bn:∀ e aF,cI e aF→∀ aM w',Step B N U J S w aF aM w'→Q (toExit e) aM w')
  (kr:∀ (s1:a6) (ow:cD→a6→Prop),f s1 ow→∀ (ln:Exit→Act→World→Prop) (aB:Act) (bE:World),(∀ l a w,ln (.goto l) a w→Q (.goto l) a w)→Step B N U J S w s1 aB bE →
   (∀ e s2,ow e s2→∀ aM w',Step B N U J S w s2 aM w'→ln (toExit e) aM w')→c.wpIn F 0 P ln aB bE):(Code.loop c).wpIn F 0 P Q a w:=by
 classical
 let Inv:Nat→Act→World→Prop:=fun n aM w'=>∃ s1,fv f n s1 cI∧Step B N U J S w s1 aM w'
 let gl:Act→World→Nat:=fun aM w'=>if h:∃ n,Inv n aM w' then Classical.choose (kl h) else 0
 have mh:∀ aM w',(∃ n,Inv n aM w')→Inv (gl aM w') aM w'∧∀ m,Inv m aM w'→gl aM w'≤m:=fun aM w' h=>by
  have:gl aM w'=Classical.choose (kl h):=by simp only [gl,dif_pos h]
  rw [this];exact vi (kl h)
 refine wpIn_loop (fun aM w'=>∃ n,Inv n aM w') gl ⟨n,s,h,Step.here aK⟩ fun aB bE ko=>?_;obtain ⟨⟨s1,ad,gA⟩,_⟩:=mh aB bE ko;cases aN:gl aB bE with
 | zero=>rw [aN] at ad;exact ad.elim
 | succ m =>
   rw [aN] at ad;simp only [fv] at ad;refine kr s1 _ ad _ aB bE (fun l a w h=>h) gA fun e s2 av aM w' dN=>?_;cases e with
   | normal =>
     have hinv:Inv m aM w':=⟨s2,av,dN⟩;exact ⟨⟨m,hinv⟩,Nat.lt_succ_of_le ((mh aM w' ⟨m,hinv⟩).2 m hinv)⟩
   | ret=>exact bn .ret s2 av aM w' dN
   | exit id=>exact bn (.exit id) s2 av aM w' dN
theorem om (dI:P.follows .mixedOrders=true) {A:c9} {fn:FuncId} {lo:Nat} {rl:Option Nat} :
  ∀ (c:Code) (aZ:Nat) (s:a6) (K:cD→a6→Prop),c4 P A fn lo rl c aZ s K→codeOk A c=true →
    ∀ (F:Fence) (Q:Exit→Act→World→Prop) (B N:Nat) (J:List Nat) (w:World) (U:Nat→Option aI) (S:Nat→Nat→Prop) (a:Act),ji F rl J→(∀ l a w,¬ Q (.goto l) a w) →
      cv B N U J S w s a→(∀ e aF,K e aF→∀ aM w',Step B N U J S w aF aM w'→Q (toExit e) aM w')→c.wpIn F 0 P Q a w:=by
 intro c
 induction c with
 | skip=>intro aZ s K h _ F Q B N J w U S a bD aO aK bn;exact wpIn_skip (bn _ _ h a w (Step.here aK))
 | label l=>intro aZ s K h _ F Q B N J w U S a bD aO aK bn;exact wpIn_label (bn _ _ h a w (Step.here aK))
 | ret=>intro aZ s K h _ F Q B N J w U S a bD aO aK bn;exact wpIn_ret (bn _ _ h a w (Step.here aK))
 | exit id=>intro aZ s K h _ F Q B N J w U S a bD aO aK bn;exact wpIn_exit (bn _ _ h a w (Step.here aK))
 | goto l=>intro aZ s K h;exact h.elim
 | refuse y=>intro aZ s K h;exact h.elim
 | region id ops draw =>
   intro aZ s K h bQ F Q B N J w U S a bD aO aK bn;simp only [c4] at h;simp only [codeOk,xo] at bQ;split at h
   ·rename_i p kF;rw [kF] at bQ;simp only [r_,te] at bQ;cases draw with
    | false=>simp [j'] at kF
    | true =>
      obtain ⟨acc,s1,s2,ht,al,CF,pr⟩:=h;obtain ⟨C,bw,ck⟩:=oB ht;obtain ⟨lf,lg⟩:=al C bw ck;exact Ei bD.lH dI bw bQ.1 bQ.2 lf lg (aK.cF _ _) fun aF g2 aM w' ai=>by
       rcases g2 with rfl | rfl
       ·exact bn _ _ CF aM w' ai
       ·exact bn _ _ pr aM w' ai
   rename_i kF;rw [kF] at bQ;cases draw with
   | true =>
     obtain ⟨acc,aF,ht,al,av⟩:=h;obtain ⟨C,bw,ck⟩:=oB ht;exact z2 bD.lH dI bw (fun _=>by simpa using bQ) (al C bw ck) (aK.cF _ _) fun aM w' ai=>bn _ _ av aM w' ai
   | false=>exact wpIn_region_list (Au bD.lH ops.toList _ _ a w U J S h (aK.cF _ _) fun aF av aM w' ai=>bn _ _ av aM w' ai)
 | seq x y nE pT =>
   intro aZ s K h bQ F Q B N J w U S a bD aO aK bn;simp only [codeOk,r_] at bQ;refine wpIn_seq (nE _ _ _ h bQ.1 F _ B N J w U S a bD (fun l a w=>aO l a w) aK fun e s1 av aM w' ai=>?_);cases e with
   | normal =>
     obtain ⟨b4,cS,a5,aJ,aP,cb⟩:=ai;exact pT _ _ _ av bQ.2 F Q B N cS w' b4 a5 aM (bD.ext aJ) aO cb fun e s2 pr gP hl dN=>bn e s2 pr gP hl (dN.trans aJ aP)
   | ret=>exact bn _ _ av aM w' ai
   | exit id=>exact bn _ _ av aM w' ai
 | cond x t f nD nC =>
   intro aZ s K h bQ F Q B N J w U S a bD aO aK bn;simp only [codeOk,r_] at bQ;rcases h with ⟨b,ag,h⟩ | ⟨ag,ad,af⟩
   ·have aj:=aK.aA x;rw [ag] at aj;cases b with
    | true=>exact wpIn_cond_true aj.hX (nD _ _ _ h bQ.1 F Q B N J w U S a bD aO aK bn)
    | false=>exact wpIn_cond_false aj.hX (nC _ _ _ h bQ.2 F Q B N J w U S a bD aO aK bn)
   ·have aj:=aK.aA x;rw [ag] at aj;obtain ⟨b,aj⟩:=aj.Bx;cases b with
    | true=>exact wpIn_cond_true aj (nD _ _ _ ad bQ.1 F Q B N J w U S a bD aO aK bn)
    | false=>exact wpIn_cond_false aj (nC _ _ _ af bQ.2 F Q B N J w U S a bD aO aK bn)
 | block id c a' =>
   intro aZ s K h bQ F Q B N J w U S a bD aO aK bn;refine wpIn_block ?_;refine a' _ _ _ h bQ F _ B N J w U S a bD (fun l a w=>aO l a w) aK fun e s1 av aM w' ai=>?_;cases e with
   | normal=>exact bn _ _ av aM w' ai
   | ret=>exact bn _ _ av aM w' ai
   | exit bA =>
     simp only at av;by_cases aE:bA=id
     ·simp only [aE,if_true] at av;simp only [toExit,Exit.inBlock,aE,if_true];exact bn _ _ av aM w' ai
     ·simp only [aE,if_false] at av;simp only [toExit,Exit.inBlock,aE,if_false];exact bn _ _ av aM w' ai
 | loop c a' =>
   intro aZ s K h bQ F Q B N J w U S a bD aO aK bn;obtain ⟨n,h⟩:=h;refine Du h aK bn fun s1 ow ad ln aB bE CX ai fE=>?_;obtain ⟨b4,cS,a5,aJ,aP,cb⟩:=ai;exact a' _ _ _ ad bQ F ln B N cS bE b4 a5 aB (bD.ext aJ) (fun l a w h=>aO l a w (CX l a w h)) (cb.cF _ _) fun e s2 av aM w' dN=>fE e s2 av aM w' (dN.trans aJ aP)
 | scope c a' =>
   intro aZ s K h bQ F Q B N J w U S a bD aO aK bn;exact Be (a' _ _ _ h bQ F Q B N J w U S a bD aO aK bn) aO
 | rangeFunc f params assign body _ _ =>
   intro aZ s K h bQ F Q B N J w U S a bD aO aK bn;obtain ⟨C,e,aF,bw,al,av⟩:=h;exact nc bw dI _ _ _ _ _ al bQ F Q B N J w U S a bD aO aK fun aM w' ai=>bn _ _ av aM w' ai
def jj (H H':List au):Prop:=H'.length=H.length∧∀ (id:Nat) (o:au),H'[id]?=some o→o=.dead∨H[id]?=some o
theorem jj.refl (H:List au):jj H H:=⟨rfl,fun _ _ h=>.inr h⟩
theorem aL.nd {H':List au} (ah:aL B U J S w H) (h:jj H H'):aL B U J S w H' :=
 ⟨by rw [h.1];exact ah.cG,fun id o aq=>by
  rcases h.2 id o aq with rfl | aY
  ·trivial
  ·exact ah.obj id o aY,ah.ch,ah.base,ah.cZ⟩
theorem a2.nd {H1 H':List au} {r:I} {v:Value} {w':World} (h:jj H1 H') (aC:a2 B U J S w H1 r v w'):a2 B U J S w H' r v w':=by
 obtain ⟨bp,cj,bJ,a,b,c,d⟩:=aC;exact ⟨bp,cj,bJ,a,b,c.nd h,d⟩
theorem Ed (dI : P.follows .mixedOrders = true) {k : Nat} {f : Func} {c : Code} (aQ : P.funcs[k]? = some f) (ag : f.body = some c) (aN : f.name ≠ "runtime.NumGoroutine") {A : c9} (bQ : codeOk A c = true)
  {args:List I} {v:I} (aC:ct 8 v=true)
  (h:c4 P A k 0 none c 0 ⟨args++List.replicate (f.ntmps-args.length) .junk,[]⟩ fun e s=>(e=.normal∨e=.ret)∧∃ vs r,ff P s.H s.T f.results.toList=some vs∧bL s.H 0 s.H.length 0 8 (hc vs)=some r∧(r=v∨r.settle=v)):lk P k args v:=by
 refine ⟨⟨bb.refl _ _,⟨f,aQ,by simp [ag],aN⟩,fun B U J S w xs ah _ ae=>?_⟩,aC⟩;refine callsIn_of_wp_marks aQ ag trivial ?_;have aK:=xO ah ae f.ntmps;have dc:=(oh ah).1;refine om dI c 0 _ _ h bQ Fence.wide _ B w.heap.size J w (hL U) S _ (.inl ⟨rfl,rfl⟩) (fun l a w aO=>aO.elim) aK fun e s av aM w' ai=>?_;obtain ⟨he,vs,r,aj,Cv,eh⟩:=av;obtain ⟨b4,cS,a5,aJ,aP,cb⟩:=ai;have iL:LeavesInM Fence.wide 0 P f aM.tmps (fu B U J S w [] v) aM.defers .returning w':=by
  refine nH (U:=b4) (S:=a5) (J:=cS) (B:=B) (H:=s.H) (lj:=U) (S0:=S) (w0:=w) aM.defers w' cb.M.2.1 cb.M.2.2 (dc.trans aP) cb.H fun bV dt dm ml mm=>?_
  have bZ:a_ .slot b4 cS a5 bV s.T aM.tmps.toList:=⟨cb.T.len,fun i u v hu ae=>(cb.T.rel i u v hu ae).mono (Ext.refl _) (fun b o h=>⟨h,dm b o h⟩),fun i u v hu ae =>
   (cb.T.own i u v hu ae).mono (Ext.refl _) (fun b o h=>⟨h,dm b o h⟩) fun b ag=>⟨ag,dt b _ ag,fun _ h=>h⟩⟩
  obtain ⟨x,q1,aX⟩:=xt mm bZ aj;have nu:=xj ah (fun id aE=>by simp at aE) Cv (a2.after aJ ml aX);refine ⟨x,q1,?_⟩;rcases eh with rfl | eh
  ·exact nu
  ·cases r with
   | ay cells len gx =>
     cases gx with
     | uniq z=>simp only [I.settle] at eh;subst eh;exact nu.settle
     | _=>simp only [I.settle] at eh;subst eh;exact nu
   | _=>simp only [I.settle] at eh;subst eh;exact nu
 rcases he with rfl | rfl
 ·exact iL
 ·exact iL
theorem GF (dI : P.follows .mixedOrders = true) {k : Nat} {f : Func} {c : Code} (aQ : P.funcs[k]? = some f) (ag : f.body = some c) (aN : f.name ≠ "runtime.NumGoroutine") {A : c9} (bQ : codeOk A c = true)
  {lo:Nat} {args:List I} {H H':List au} {r:I} (ak:bb lo H H')
  (h:c4 P A k lo none c 0 ⟨args++List.replicate (f.ntmps-args.length) .junk,H⟩ fun e s=>(e=.normal∨e=.ret)∧jj s.H H'∧∃ vs,ff P s.H s.T f.results.toList=some vs∧hc vs=r):Sem P (.fn k) args H lo r H':=by
 refine ⟨ak,⟨f,aQ,by simp [ag],aN⟩,fun B U J S w xs ah _ ae=>?_⟩;refine callsIn_of_wp_marks aQ ag trivial ?_;have aK:=xO ah ae f.ntmps;have dc:=(oh ah).1;refine om dI c 0 _ _ h bQ Fence.wide _ B w.heap.size J w (hL U) S _ (.inl ⟨rfl,rfl⟩) (fun l a w aO=>aO.elim) aK fun e s av aM w' ai=>?_;obtain ⟨he,kt,vs,aj,rfl⟩:=av;obtain ⟨b4,cS,a5,aJ,aP,cb⟩:=ai;have iL:LeavesInM Fence.wide 0 P f aM.tmps (fu B U J S w H' (hc vs)) aM.defers .returning w':=by
  refine nH (U:=b4) (S:=a5) (J:=cS) (B:=B) (H:=s.H) (lj:=U) (S0:=S) (w0:=w) aM.defers w' cb.M.2.1 cb.M.2.2 (dc.trans aP) cb.H fun bV dt dm ml mm=>?_
  have bZ:a_ .slot b4 cS a5 bV s.T aM.tmps.toList:=⟨cb.T.len,fun i u v hu ae=>(cb.T.rel i u v hu ae).mono (Ext.refl _) (fun b o h=>⟨h,dm b o h⟩),fun i u v hu ae =>
   (cb.T.own i u v hu ae).mono (Ext.refl _) (fun b o h=>⟨h,dm b o h⟩) fun b ag=>⟨ag,dt b _ ag,fun _ h=>h⟩⟩
  obtain ⟨v,q1,aX⟩:=xt mm bZ aj;exact ⟨v,q1,(a2.after aJ ml aX).nd kt⟩
 rcases he with rfl | rfl
 ·exact iL
 ·exact iL
end
end Go.Proofs.YtfakoboiahbhaaaGreat.Ab


namespace Go.Proofs.YtfakoboiahbhaaaGreat.Ab
open Go
inductive iw where
 | sl (t:Nat) | hJ (t:Nat) | hM (t:Nat) | iD (v:I)
inductive e3 where
 | one | str (s:Nat) | arr (s:Nat)
inductive hT where
 | int (k:IntKind) | str (n:Nat)
inductive hU where
 | iT | nil (z:Nat) | A7
 | w8 (a:e3) | zc (a:e3) | take | A6 | A0 | st (s:Nat) | box | x_ | alloc (z:List I)
 | zz (z:List I) (s bytes:Nat)
 | zy (z:List I) (s bytes:Nat)
 | w_ | ze (n:Nat) | min | max
 | app (s bytes:Nat)
 | x4 (s bytes:Nat)
 | call (mode:Nat)
 | pick | build (z:List I) (bj:List (Nat×Nat)) | ya (len s:Nat) (z:List I) (ix:List Nat) | x' (len s:Nat) (z:List I) (ix:List Nat)
 | zC | bin (op:BinOp) | oF (neq:Bool) | un (op:UnOp) | conv (k:IntKind)
 | zw (f:FuncId) (n m:Nat)
 | AY (s:Nat) (l h m:Bool)
 | zx | zq (fb:hT) | zp (fb:hT) (ok:Bool) (zero:Option I) | zo (fb:hT) | Ap | yi | zf
 | oT (off:Nat) | yq (off:Nat) (a:e3) | pQ (s:Nat) | y4 (len s:Nat) | ext (i:Nat)
 | other (o:Oper) (mode:Nat)
structure cz where
 dst:Option Nat
 FB:List iw
 guard:Option (Nat×Bool)
 ip:Option Nat
 k:hU
inductive ez where
 | skip
 | j3 (draw:Bool) (l:List cz)
 | seq (a b:ez)
 | cond (c:iw) (a b:ez)
 | block (id:Nat) (c:ez)
 | loop (cF:Option (List Bool)) (c:ez)
 | exit (id:Nat)
 | ret
 | Ao (f:iw) (params:List Nat) (assign body:Code)
 | zD (it:Nat) (dst:Option Nat) (l:List cz)
 | two (pre:List cz) (a b:cz) (post:List cz)
noncomputable section
def lT (v:I) (K:I→Prop):Prop:=match v with
 | .int k n=>K (.int k n)
 | .bool b=>K (.bool b)
 | .ay c n .shared=>K (.ay c n .shared)
 | .ay c n .full=>K (.ay c n .full)
 | .ay c n (.own z)=>K (.ay c n (.own z))
 | .ay c n (.uniq z)=>K (.ay c n (.uniq z))
 | .agg cs=>K (.agg cs)
 | .ptr id off=>K (.ptr id off)
 | .bW cs=>K (.bW cs)
 | .ref id off n cap sz=>K (.ref id off n cap sz)
 | .func f a b=>K (.func f a b)
 | .yield id=>K (.yield id)
 | .map id=>K (.map id)
 | .tuple vs=>K (.tuple vs)
 | .junk=>K .junk
 | .eC=>K .eC
 | .str s=>K (.str s)
 | .raw c n z=>K (.raw c n z)
 | .cn i g n z=>K (.cn i g n z)
 | .dq=>K .dq
theorem nk (v:I) (K:I→Prop):lT v K=K v:=by
 unfold lT;split <;> rfl
def hr:List I→Nat→(I→Prop)→Prop
 | [],_,K=>K .junk
 | h::_,0,K=>K h
 | _::t,n+1,K=>hr t n K
theorem iF:∀ (T:List I) (t:Nat) (K:I→Prop),hr T t K=K (c6 T t)
 | [],t,K=>rfl
 | h::T,0,K=>rfl
 | h::T,n+1,K=>by rw [hr,iF T n K];rfl
def ja:List I→Nat→I→(List I→Prop)→Prop
 | [],_,_,K=>K []
 | _::t,0,v,K=>K (v::t)
 | h::t,n+1,v,K=>ja t n v fun jd=>K (h::jd)
theorem j7:∀ (T:List I) (t:Nat) (v:I) (K:List I→Prop),ja T t v K=K (gK T t v)
 | [],t,v,K=>rfl
 | h::T,0,v,K=>rfl
 | h::T,n+1,v,K=>by rw [ja,j7 T n v];rfl
def mH (T:List I) (d:Option Nat) (v:I) (K:List I→Prop):Prop:=match d with
 | some d=>ja T d v K
 | none=>K T
theorem xk (T:List I) (d:Option Nat) (v:I) (K:List I→Prop):mH T d v K=K (put T d v):=by
 cases d with
 | none=>rfl
 | some d=>exact j7 T d v K
def kI:List Bool→List I→(List I→Prop)→Prop
 | b::bs,v::vs,K=>kI bs vs fun dv=>match b with
   | true=>K (v::dv)
   | false=>K (.junk::dv)
 | [],vs,K=>K vs
 | _::_,[],K=>K []
theorem y_:∀ (bs:List Bool) (vs:List I) (K:List I→Prop),kI bs vs K=K (eS bs vs)
 | [],vs,K=>by simp [kI,eS]
 | b::bs,[],K=>by simp [kI,eS]
 | b::bs,v::vs,K=>by rw [kI,y_ bs vs];cases b <;> simp [eS]
def kb (v:I) (K:I→Prop):Prop:=match v with
 | .ay c n (.own _)=>K (.ay c n .shared)
 | .ay c n (.uniq _)=>K (.ay c n .shared)
 | .raw _ _ _=>K .junk
 | .cn id _ n z=>K (.ref id 0 n none z)
 | v=>K v
theorem kc (v:I) (K:I→Prop):kb v K=K v.view:=by
 cases v with
 | ay c n k=>cases k <;> rfl
 | _=>rfl
def AZ (T:List I) (t:Nat) (v:I) (K:I→List I→Prop):Prop:=match v with
 | .ay c n (.uniq z)=>ja T t (.ay c n (.own z)) fun fh=>K (.ay c n .shared) fh
 | .ay c n (.own _)=>K (.ay c n .shared) T
 | .raw _ _ _=>K .junk T
 | .cn id _ n z=>K (.ref id 0 n none z) T
 | v=>K v T
theorem FA (T:List I) (t:Nat) (v:I) (K:I→List I→Prop):AZ T t v K=K v.view (fP T t v):=by
 cases v with
 | ay c n k =>
   cases k with
   | uniq z=>exact j7 _ _ _ _
   | _=>rfl
 | _=>rfl
def gf:List iw→List I→(List I→List I→Prop)→Prop
 | [],T,K=>K [] T
 | .iD v::r,T,K=>gf r T fun vs a8=>K (v::vs) a8
 | .hJ t::r,T,K=>hr T t fun v=>ja T t .junk fun fh=>gf r fh fun vs a8=>K (v::vs) a8
 | .hM t::r,T,K=>hr T t fun v=>kb v fun v=>ja T t .junk fun fh=>gf r fh fun vs a8=>K (v::vs) a8
 | .sl t::r,T,K=>hr T t fun v=>AZ T t v fun v fh=>gf r fh fun vs a8=>K (v::vs) a8
def hF (eb:Bool):List Bool→List Operand→List iw
 | _,[]=>[]
 | ts,.tmp t::rest=>(match ts.headD false,eb with | true,true=>.hJ t | true,false=>.hM t | false,_=>.sl t)::hF eb ts.tail rest
 | ts,x::rest=>.iD (match eb with | true=>aA [] x | false=>(aA [] x).view)::hF eb ts.tail rest
theorem i_ (eb:Bool):∀ (xs:List Operand) (ts:List Bool) (T:List I) (K:List I→List I→Prop),gf (hF eb ts xs) T K=K (fq eb (rd T ts xs).1) (rd T ts xs).2
 | [],ts,T,K=>by cases eb <;> simp [hF,gf,rd,fq]
 | .tmp t::rest,ts,T,K=>by
   simp only [hF];cases bK:ts.headD false with
   | true =>
     cases eb with
     | true =>
       simp only [gf,iF,j7,rd,bK,i_ true rest];rfl
     | false =>
       simp only [gf,iF,j7,kc,rd,bK,i_ false rest];rfl
   | false =>
     simp only [gf,iF,FA,rd,bK,i_ eb rest];cases eb
     ·simp only [fq,sE,I.ke (I.dh _)]
     ·rfl
 | .const v::rest,ts,T,K=>by
   simp only [hF,gf,rd,i_ eb rest];cases eb <;> rfl
 | .func v::rest,ts,T,K=>by
   simp only [hF,gf,rd,i_ eb rest];cases eb <;> rfl
 | .global v::rest,ts,T,K=>by
   simp only [hF,gf,rd,i_ eb rest];cases eb <;> rfl
end
end Go.Proofs.YtfakoboiahbhaaaGreat.Ab


namespace Go.Proofs.YtfakoboiahbhaaaGreat.Ab
open Go
noncomputable section
def eQ {α:Type}:List α→Nat→(α→Prop)→Prop
 | [],_,_=>False
 | h::_,0,K=>K h
 | _::t,n+1,K=>eQ t n K
theorem fe {α:Type}:∀ {l:List α} {n:Nat} {K:α→Prop},eQ l n K→∃ x,l[n]?=some x∧K x
 | [],_,_,h=>h.elim
 | h::_,0,_,k=>⟨h,rfl,k⟩
 | _::t,n+1,K,k=>by simpa using fe (l:=t) (n:=n) (K:=K) k
theorem DX {α:Type}:∀ {l:List α} {n:Nat} {x:α} {K:α→Prop},l[n]?=some x→K x→eQ l n K
 | [],_,_,_,h,_=>by simp at h
 | h::_,0,_,_,e,k=>by simp at e;subst e;exact k
 | _::t,n+1,_,K,e,k=>DX (l:=t) (n:=n) (by simpa using e) k
def jf:List I→Nat→I→(List I→Prop)→Prop
 | [],_,_,_=>False
 | _::t,0,v,K=>K (v::t)
 | h::t,n+1,v,K=>jf t n v fun jd=>K (h::jd)
theorem k8:∀ {l:List I} {n:Nat} {v:I} {K:List I→Prop},jf l n v K→n<l.length∧K (l.set n v)
 | [],_,_,_,h=>h.elim
 | _::_,0,_,_,k=>⟨by simp,k⟩
 | h::t,n+1,v,K,k=>by
   obtain ⟨ad,af⟩:=k8 (l:=t) (n:=n) k;exact ⟨by simpa using ad,af⟩
theorem A':∀ {l:List I} {n:Nat} {v:I} {K:List I→Prop},n<l.length→K (l.set n v)→jf l n v K
 | [],_,_,_,h,_=>by simp at h
 | _::_,0,_,_,_,k=>k
 | h::t,n+1,v,K,e,k=>A' (l:=t) (n:=n) (by simpa using e) k
def k9:List I→Nat→List I→(List I→Prop)→Prop
 | l,_,[],K=>K l
 | l,n,v::vs,K=>jf l n v fun l'=>k9 l' (n+1) vs K
theorem oj:∀ {vs l:List I} {n:Nat} {K:List I→Prop},k9 l n vs K→(n+vs.length≤l.length∨vs=[])∧K (setCells n vs l)
 | [],_,_,_,h=>⟨.inr rfl,h⟩
 | v::vs,l,n,K,h=>by
   obtain ⟨ad,af⟩:=k8 h;obtain ⟨aG,a7⟩:=oj af;refine ⟨.inl ?_,a7⟩;rcases aG with aG | rfl
   ·simp only [tz] at aG;simp only [sD];omega
   ·simp only [sD,uC];omega
theorem FL:∀ {vs l:List I} {n:Nat} {K:List I→Prop},n+vs.length≤l.length→K (setCells n vs l)→k9 l n vs K
 | [],_,_,_,_,h=>h
 | v::vs,l,n,K,ad,h=>A' (by simp only [sD] at ad;omega) (FL (by simp only [sD] at ad;simp only [tz];omega) h)
def nY:Nat→List I→Nat→(List I→Prop)→Prop
 | 0,_,_,K=>K []
 | s+1,l,off,K=>eQ l off fun v=>kb v fun v=>lT v fun v=>nY s l (off+1) fun vs=>K (v::vs)
theorem zX:∀ {s:Nat} {l:List I} {off:Nat} {K:List I→Prop},nY s l off K→(off+s≤l.length∨s=0)∧K (((l.drop off).take s).map I.view)
 | 0,l,off,K,h=>⟨.inr rfl,by simpa [nY] using h⟩
 | s+1,l,off,K,h=>by
   obtain ⟨v,ae,h⟩:=fe h;rw [kc,nk] at h;obtain ⟨ad,af⟩:=zX h;have aV:=(rV.1 ae).1;refine ⟨.inl (by rcases ad with ad | rfl <;> omega),?_⟩;have a0:l.drop off=v::l.drop (off+1):=by
    rw [sU aV,(rV.1 ae).2]
   rw [a0];simpa using af
def nZ:Nat→List I→Nat→(List I→Prop)→Prop
 | 0,_,_,K=>K []
 | s+1,l,off,K=>eQ l off fun v=>lT v fun v=>nZ s l (off+1) fun vs=>K (v::vs)
theorem zY:∀ {s:Nat} {l:List I} {off:Nat} {K:List I→Prop},nZ s l off K→(off+s≤l.length∨s=0)∧K ((l.drop off).take s)
 | 0,l,off,K,h=>⟨.inr rfl,by simpa [nZ] using h⟩
 | s+1,l,off,K,h=>by
   obtain ⟨v,ae,h⟩:=fe h;rw [nk] at h;obtain ⟨ad,af⟩:=zY h;have aV:=(rV.1 ae).1;refine ⟨.inl (by rcases ad with ad | rfl <;> omega),?_⟩;have a0:l.drop off=v::l.drop (off+1):=by
    rw [sU aV,(rV.1 ae).2]
   rw [a0];simpa using af
def mq (a:e3) (l:List I) (off:Nat) (K:I→Prop):Prop:=match a with
 | .one=>eQ l off fun v=>kb v K
 | .str s=>nY s l off fun vs=>K (.agg vs)
 | .arr s=>off+s≤l.length∧K (.agg (((l.drop off).take s).map I.view))
def zP (a:e3) (l:List I) (off:Nat) (K:I→Prop):Prop:=match a with
 | .one=>eQ l off fun v=>kb v K
 | .str s=>nZ s l off fun vs=>K (.agg vs)
 | .arr s=>off+s≤l.length∧K (.agg ((l.drop off).take s))
def gQ (P:Program) (t:TypeId):Option e3:=match dJ P t,P.underlying t with
 | true,some (.struct _)=>(match bU P t with | some (s+1)=>some (.str (s+1)) | _=>none)
 | true,_=>(bU P t).map .arr
 | false,some _=>some .one
 | false,none=>none
section
variable {P:Program}
theorem oC {t:TypeId} {a:e3} (h:gQ P t=some a):(a=.one∧dJ P t=false∧∃ d,P.underlying t=some d)∨(∃ s,(a=.str (s+1)∧bU P t=some (s+1)∨a=.arr s∧bU P t=some s)∧dJ P t=true):=by
 unfold gQ at h;split at h
 ·rename_i ad _;split at h
  ·rename_i s ai;cases h;exact .inr ⟨_,.inl ⟨rfl,ai⟩,ad⟩
  ·cases h
 ·rename_i ad _;simp only [rU] at h;obtain ⟨s,ai,rfl⟩:=h;exact .inr ⟨s,.inr ⟨rfl,ai⟩,ad⟩
 ·rename_i d ad af;cases h;exact .inl ⟨rfl,ad,d,af⟩
 ·cases h
theorem nG {t:TypeId} {a:e3} (cg:gQ P t=some a) {l:List I} {off:Nat} {K:I→Prop} (h:mq a l off K):∃ v,et P t l off=some v∧K v:=by
 rcases oC cg with ⟨rfl,ad,d,af⟩ | ⟨s,af,ad⟩
 ·obtain ⟨v,ae,h⟩:=fe h;rw [kc] at h;exact ⟨v.view,by simp [et,ad,af,ae],h⟩
 ·rcases af with ⟨rfl,af⟩ | ⟨rfl,af⟩
  ·obtain ⟨aJ,aP⟩:=zX h;exact ⟨_,by simp only [et,ad,af,rW];rw [if_pos (by omega)],aP⟩
  ·exact ⟨_,by simp only [et,ad,af,rW];rw [if_pos h.1],h.2⟩
theorem Eb {t:TypeId} {a:e3} (cg:gQ P t=some a) {l:List I} {off:Nat} {K:I→Prop} (h:zP a l off K):∃ v,iA P t l off=some v∧K v.view:=by
 rcases oC cg with ⟨rfl,ad,d,af⟩ | ⟨s,af,ad⟩
 ·obtain ⟨v,ae,h⟩:=fe h;rw [kc] at h;exact ⟨v,by simp [iA,ad,af,ae],h⟩
 ·rcases af with ⟨rfl,af⟩ | ⟨rfl,af⟩
  ·obtain ⟨aJ,aP⟩:=zY h;exact ⟨_,by simp only [iA,ad,af,rW];rw [if_pos (by omega)],show K (I.view (.agg _)) from aP⟩
  ·exact ⟨_,by simp only [iA,ad,af,rW];rw [if_pos h.1],show K (I.view (.agg _)) from h.2⟩
end
def oa (v:I) (K:I→Prop):Prop:=match v with
 | .ay c n (.uniq z)=>K (.ay c n (.own z))
 | v=>K v
theorem xL (v:I) (K:I→Prop):oa v K=K v.settle:=by
 cases v with
 | ay c n k=>cases k <;> rfl
 | _=>rfl
def kh (v:I) (mV:I→Prop) (mW:List I→Prop):Prop:=match v with
 | .agg bH=>mW bH
 | .junk=>False
 | .tuple _=>False
 | .raw _ _ _=>False
 | v=>mV v
theorem lC {v:I} {mV:I→Prop} {mW:List I→Prop} (h:kh v mV mW):(v.cells=some [v]∧mV v)∨∃ bH,v.cells=some bH∧v=.agg bH∧mW bH:=by
 cases v <;> first | exact .inl ⟨rfl,h⟩ | exact h.elim | exact .inr ⟨_,rfl,rfl,h⟩
def jy:List (Nat×Nat)→List I→List I→(List I→Prop)→Prop
 | [],[],cs,K=>K cs
 | (off,size)::bj,v::vs,cs,K=>kh v (fun v=>match Nat.beq size 1 with | true=>jf cs off v fun cs=>jy bj vs cs K | false=>False) (fun bH=>match Nat.beq bH.length size,Nat.blt 0 size with | true,true=>k9 cs off bH fun cs=>jy bj vs cs K | _,_=>False)
 | _,_,_,_=>False
theorem km {place:Nat→Option (Nat×Nat)}:∀ {ix:List Nat} {bj:List (Nat×Nat)} {vs cs:List I} {K:List I→Prop},jy bj vs cs K→ix.map place=bj.map some →
  ∃ c_,gq place cs (ix.zip vs)=some c_∧K c_
 | [],[],[],cs,K,h,_=>⟨cs,rfl,h⟩
 | i::ix,(off,size)::bj,v::vs,cs,K,h,aC=>by
   simp only [sE,List.cons.injEq] at aC;obtain ⟨jM,nt⟩:=aC;simp only [jy] at h;simp only [List.zip_cons_cons,gq,jM];rcases lC h with ⟨ad,h⟩ | ⟨bH,ad,_,h⟩
   ·split at h
    ·rename_i af;have af:=sW af;obtain ⟨aG,h⟩:=k8 h;obtain ⟨c_,q1,aX⟩:=km h nt;subst af;exact ⟨c_,by simp only [ad];rw [if_pos ⟨rfl,by omega⟩];exact q1,aX⟩
    ·exact h.elim
   ·split at h
    ·rename_i af a7;have af:=sW af;(have a7:0<size:=by simpa [te] using a7);obtain ⟨aG,h⟩:=oj h;obtain ⟨c_,q1,aX⟩:=km h nt;have bN:off+size≤cs.length:=by
      rcases aG with aG | aG
      ·omega
      ·rw [aG] at af;simp only [uC] at af;omega
     refine ⟨c_,?_,aX⟩;simp only [ad];rw [if_pos ⟨af,bN⟩];exact q1
    ·exact h.elim
 | [],_::_,_,_,_,_,aC=>by simp at aC
 | _::_,[],_,_,_,_,aC=>by simp at aC
 | [],[],_::_,_,_,h,_=>h.elim
 | _::_,_::_,[],_,_,h,_=>h.elim
def AN:BinOp→Bool
 | .shl=>true
 | .shr=>true
 | _=>false
theorem E0 {op:BinOp} {k k':IntKind} (h:(decide (k=k') || AN op)=true):k=k'∨op=.shl∨op=.shr:=by
 rw [tQ] at h;rcases h with h | h
 ·exact .inl (of_decide_eq_true h)
 ·cases op <;> first | exact .inr (.inl rfl) | exact .inr (.inr rfl) | cases h
def oD (op:BinOp) (k:IntKind) (a b:Int) (K:I→Prop):Prop:=match op with
 | .add=>K (.int k (k.wrap (a+b)))
 | .sub=>K (.int k (k.wrap (a-b)))
 | .mul=>K (.int k (k.wrap (a*b)))
 | .quo=>b≠0∧K (.int k (k.wrap (a.tdiv b)))
 | .rem=>b≠0∧K (.int k (a.tmod b))
 | .eql=>K (.bool (decide (a=b)))
 | .neq=>K (.bool (decide (a≠b)))
 | .lss=>K (.bool (decide (a<b)))
 | .leq=>K (.bool (decide (a≤b)))
 | .gtr=>K (.bool (decide (b<a)))
 | .geq=>K (.bool (decide (b≤a)))
 | .and=>K (.int k (k.wrap (BitVec.ofInt k.bits a &&& BitVec.ofInt k.bits b).toNat))
 | .or=>K (.int k (k.wrap (BitVec.ofInt k.bits a ||| BitVec.ofInt k.bits b).toNat))
 | .xor=>K (.int k (k.wrap (BitVec.ofInt k.bits a ^^^ BitVec.ofInt k.bits b).toNat))
 | .shl=>0≤b∧K (.int k (k.wrap (a*2 ^ (Nat.min b.toNat k.bits))))
 | .shr=>0≤b∧K (.int k (a.fdiv (2 ^ (Nat.min b.toNat k.bits))))
 | _=>False
section
variable {P:Program}
theorem Bp (op:BinOp) (t:TypeId) (k k':IntKind) (a b:Int):fi P op t (.int k a) (.int k' b)=match op with
  | .shl=>ho .shl k a b
  | .shr=>ho .shr k a b
  | op=>if k=k' then jq op k a b else none:=by cases op <;> rfl
theorem BC {op:BinOp} {t:TypeId} {k k':IntKind} {a b:Int} {K:I→Prop} (av:k=k'∨op=.shl∨op=.shr) (h:oD op k a b K):∃ v,fi P op t (.int k a) (.int k' b)=some v∧K v:=by
 rw [Bp];cases op <;> simp only [oD] at h <;> try exact h.elim
 case shl=>exact ⟨_,by simp only [ho];rw [if_neg (by omega)],h.2⟩
 case shr=>exact ⟨_,by simp only [ho];rw [if_neg (by omega)],h.2⟩
 all_goals (obtain rfl:k=k':=by rcases av with av | av | av <;> first | exact av | cases av)
 all_goals simp only [if_true,jq]
 case quo=>exact ⟨_,by rw [if_neg h.1],h.2⟩
 case rem=>exact ⟨_,by rw [if_neg h.1],h.2⟩
 case neq =>
  have e:(a != b)=decide (a≠b):=by by_cases jB:a=b <;> simp [jB]
  exact ⟨_,rfl,by rw [e];exact h⟩
 case eql=>exact ⟨_,rfl,h⟩
 all_goals exact ⟨_,rfl,h⟩
end
end
end Go.Proofs.YtfakoboiahbhaaaGreat.Ab


namespace Go.Proofs.YtfakoboiahbhaaaGreat.Ab
open Go
noncomputable section
def xE (v:I) (H:List au) (K:I→List au→Prop):Prop:=match v with
 | .ay cells len (.uniq z)=>(len≠0∧K (.ref H.length 0 len none z) (H++[.cells cells]))∨(len=0∧K (.ay cells len (.uniq z)) H)
 | .ay [] 0 .full=>K (.ay [] 0 .full) H
 | .ref id off len cap sz=>K (.ref id off len cap sz) H
 | _=>False
def xy (a:e3) (v:I) (H:List au) (K:I→List au→Prop):Prop:=match v with
 | .ptr id off=>eQ H id fun o=>match o with | .cells l=>mq a l off fun v=>K v H | .grow l _ _=>mq a l off fun v=>K v H | _=>False
 | .bW cells=>mq a cells 0 fun v=>K v H
 | _=>False
def xC (lo:Nat) (v:I) (H:List au) (K:I→List au→Prop):Prop:=match v with
 | .ptr id off=>match Nat.ble lo id with
   | true=>eQ H id fun o=>match o with
     | .cells l=>(eQ l off fun v=>match v with | .ay c n (.own z)=>K (.ay c n (.own z)) (H.set id (.cells (l.set off (.ay c n .shared)))) | .ay c n .full=>K (.ay c n .full) H | .raw c n z=>K (.ay c n (.uniq z)) (H.set id (.cells (l.set off .junk))) | _=>False)
     | .grow l g cW=>(eQ l off fun v=>match v with | .ay c n (.own z)=>K (.ay c n (.own z)) (H.set id (.grow (l.set off (.ay c n .shared)) g cW)) | .ay c n .full=>K (.ay c n .full) H | _=>False)
     | _=>False
   | false=>False
 | _=>False
def xD (lo:Nat) (v:I) (H:List au) (K:I→List au→Prop):Prop:=match v with
 | .ptr id off=>match Nat.ble lo id with
   | true=>eQ H id fun o=>match o with | .cells l=>(eQ l off fun v=>match v with | .raw c n z=>n≠0∧K (.ref H.length 0 n none z) (H.set id (.cells (l.set off (.ref H.length 0 n none z)))++[.cells c]) | .ay c n .full=>K (.ay c n .full) H | _=>False) | _=>False
   | false=>False
 | _=>False
def xB (lo:Nat) (p v:I) (H:List au) (K:I→List au→Prop):Prop:=match p with
 | .ptr id off=>match Nat.ble lo id with
   | true=>eQ H id fun o=>match o with
     | .cells l=>(match v with | .ay c n (.uniq z)=>c.all gJ=true∧n≠0∧jf l off (.raw c n z) fun l'=>K .junk (H.set id (.cells l')) | _=>False)
     | _=>False
   | false=>False
 | _=>False
def xA (lo s:Nat) (p v:I) (H:List au) (K:I→List au→Prop):Prop:=match p with
 | .ptr id off=>match Nat.ble lo id with
   | true=>eQ H id fun o=>match o with
     | .cells l=>kh v (fun v=>match Nat.beq s 1 with | true=>oa v fun v=>jf l off v fun l'=>K .junk (H.set id (.cells l')) | false=>False) (fun bH=>match Nat.beq bH.length s,Nat.blt 0 s with | true,true=>k9 l off (bH.map I.settle) fun l'=>K .junk (H.set id (.cells l')) | _,_=>False)
     | .grow l g z=>kh v (fun v=>match Nat.beq s 1 with | true=>oa v fun v=>jf l off v fun l'=>K .junk (H.set id (.grow l' g z)) | false=>False) (fun bH=>match Nat.beq bH.length s,Nat.blt 0 s with | true,true=>k9 l off (bH.map I.settle) fun l'=>K .junk (H.set id (.grow l' g z)) | _,_=>False)
     | _=>False
   | false=>False
 | _=>False
def xw (v:I) (H:List au) (K:I→List au→Prop):Prop :=
 kh v (fun v=>oa v fun v=>K (.ptr H.length 0) (H++[.cells [v]])) (fun bH=>K (.ptr H.length 0) (H++[.cells (bH.map I.settle)]))
def xx (v:I) (H:List au) (K:I→List au→Prop):Prop :=
 kh v (fun v=>v.plain=true∧K (.bW [v]) H) (fun bH=>bH.all I.plain=true∧K (.bW bH) H)
def xf:List I→Int→(Int→Prop)→Prop
 | [],a,K=>K a
 | .int _ b::r,a,K=>xf r (min a b) K
 | _::_,_,_=>False
def xe:List I→Int→(Int→Prop)→Prop
 | [],a,K=>K a
 | .int _ b::r,a,K=>xe r (max a b) K
 | _::_,_,_=>False
def xv (lo s bytes:Nat) (x y:I) (H:List au) (K:I→List au→Prop):Prop:=match y with
 | .ay new m _=>(new.length=m*s∧m*bytes≤140737488355328)∧match x with
   | .ay cells n .full=>(m≠0∧(n+m)*bytes≤140737488355328∧cells.length=n*s)∧K (.cn H.length (H.length+1) (n+m) s) (H++[.grow (cells++new) (H.length+1) s,.dead])
   | .ay cells n (.uniq z)=>(z=s∧m≠0∧(n+m)*bytes≤140737488355328)∧K (.cn H.length (H.length+1) (n+m) z) (H++[.grow (cells++new) (H.length+1) z,.dead])
   | .cn id gid n z=>match Nat.ble lo id with
     | true=>eQ H id fun o=>match o with
       | .grow l g cW=>((g=gid∧cW=z∧z=s∧l.length=n*z∧0<m∧(n+m)*bytes≤140737488355328)∧K (.cn H.length (H.length+1) (n+m) z) (H.set id .dead++[.grow (l++new) (H.length+1) z,.dead])) ∨
         ((g=gid∧cW=z∧z=s∧n*z<l.length∧0<m∧(n+m)*bytes≤140737488355328)∧K (.cn H.length (H.length+1) (n+m) z) (H.set id .dead++[.grow (l.take (n*z)++new) (H.length+1) z,.dead]))
       | _=>False
     | false=>False
   | _=>False
 | _=>False
def Am (z:List I) (s bytes:Nat) (a b:I) (H:List au) (K:I→List au→Prop):Prop:=match a,b with
 | .int _ n,.int _ c=>0≤n∧n≤c∧c.toNat*bytes≤140737488355328∧K (.ref H.length 0 n.toNat (some c.toNat) s) (H++[.cells (eZ c.toNat z)])
 | _,_=>False
def Al (z:List I) (s bytes:Nat) (a b:I) (H:List au) (K:I→List au→Prop):Prop:=match a,b with
 | .int _ n,.int _ c=>n=c∧0≤n∧c.toNat*bytes≤140737488355328∧K (.ay (eZ c.toNat z) n.toNat (.uniq s)) H
 | _,_=>False
def Ah (v:I) (H:List au) (K:I→List au→Prop):Prop:=match v with
 | .ay _ n _=>K (.int .i64 n) H
 | .ref _ _ n _ _=>K (.int .i64 n) H
 | _=>False
def n5 (s bytes:Nat) (x:I) (new:List I) (m:Nat) (H:List au) (K:I→List au→Prop):Prop:=new.length=m*s∧m*bytes≤140737488355328∧match x with
    | .ay cells n .shared=>m=0∧K (.ay cells n .shared) H
    | .ay cells n .full=>m≠0∧(n+m)*bytes≤140737488355328∧cells.length=n*s∧K (.ay (cells++new) (n+m) (.uniq s)) H
    | .ay cells n (.own z)=>z=s∧(n+m)*bytes≤140737488355328∧K (.ay (cells++new) (n+m) (.own z)) H
    | .ay cells n (.uniq z)=>z=s∧(n+m)*bytes≤140737488355328∧K (.ay (cells++new) (n+m) (.uniq z)) H
    | _=>False
def xu (s bytes:Nat) (x y:I) (H:List au) (K:I→List au→Prop):Prop:=match y with
 | .ay new m _=>n5 s bytes x new m H K
 | .ref id off m _ z=>eQ H id fun o=>match o with
   | .cells l=>off+m*z≤l.length∧n5 s bytes x (((l.drop off).take (m*z)).map I.view) m H K
   | _=>False
 | _=>False
def xz (s:Nat) (l h m:Bool) (x:I) (vs:List I) (H:List au) (K:I→List au→Prop):Prop:=match x with
 | .ay cells n c=>match l,h,m,vs with
   | false,false,false,[]=>match c with
     | .uniq z=>K (.ay (cells.take (n*z)) n (.uniq z)) H
     | .shared=>K (.ay (cells.take (n*s)) n .shared) H
     | _=>False
   | true,false,false,[.int _ i]=>match c with
     | .own z=>(s=z∧0≤i∧i≤n)∧K (.ay (cells.drop (i.toNat*z)) (n-i.toNat) (.own z)) H
     | .shared | .uniq _=>(0≤i∧i≤n)∧K (.ay ((cells.drop (i.toNat*s)).take ((n-i.toNat)*s)) (n-i.toNat) .shared) H
     | _=>False
   | false,true,false,[.int _ j]=>match c with
     | .uniq z=>(0≤j∧j≤n)∧K (.ay (cells.take (j.toNat*z)) j.toNat (.uniq z)) H
     | .shared | .own _=>(0≤j∧j≤n)∧K (.ay (cells.take (j.toNat*s)) j.toNat .shared) H
     | _=>False
   | true,true,false,[.int _ i,.int _ j]=>match c with
     | .shared | .own _ | .uniq _=>(0≤i∧i≤j∧j≤n)∧K (.ay ((cells.drop (i.toNat*s)).take ((j.toNat-i.toNat)*s)) (j.toNat-i.toNat) .shared) H
     | _=>False
   | false,true,true,[.int _ j,.int _ k]=>(j=k∧0≤j∧j≤n)∧K (.ay (cells.take (j.toNat*s)) j.toNat .full) H
   | true,true,true,[.int _ i,.int _ j,.int _ k]=>(j=k∧0≤i∧i≤j∧j≤n)∧K (.ay ((cells.drop (i.toNat*s)).take ((j.toNat-i.toNat)*s)) (j.toNat-i.toNat) .full) H
   | _,_,_,_=>False
 | .ref id off n cap sz=>match l,h,m,vs with
   | true,false,false,[.int _ i]=>sz=s∧(0≤i∧i≤n)∧(i<n→K (.ref id (off+i.toNat*s) (n-i.toNat) (cap.map (·-i.toNat)) sz) H)∧(i=n→K (.ay [] 0 .shared) H)
   | false,true,false,[.int _ j]=>sz=s∧(0≤j∧j≤n∧0<n)∧K (.ref id off j.toNat cap sz) H
   | _,_,_,_=>False
 | .cn id gid n z=>match l,h,m,vs with
   | false,true,false,[.int _ j]=>(0≤j∧j≤n)∧K (.cn id gid j.toNat z) H
   | _,_,_,_=>False
 | _=>False
def Ad (off:Nat) (v:I) (H:List au) (K:I→List au→Prop):Prop:=match v with
 | .ptr id o=>K (.ptr id (o+off)) H
 | .bW cells=>K (.bW (cells.drop off)) H
 | _=>False
def Ae (s:Nat) (x i:I) (H:List au) (K:I→List au→Prop):Prop:=match i with
 | .int _ n=>match x with
   | .ay cells len _=>(0≤n∧n<len)∧K (.bW (cells.drop (n.toNat*s))) H
   | .ref id off len _ _=>(0≤n∧n<len)∧K (.ptr id (off+n.toNat*s)) H
   | _=>False
 | _=>False
def Af (len s:Nat) (x i:I) (H:List au) (K:I→List au→Prop):Prop:=match i with
 | .int _ n=>match x with
   | .ptr id off=>(0≤n∧n<len)∧K (.ptr id (off+n.toNat*s)) H
   | .bW cells=>(0≤n∧n<len)∧K (.bW (cells.drop (n.toNat*s))) H
   | _=>False
 | _=>False
def kJ (fb:hT) (k:I):Prop:=match fb,k with
 | .int q,.int fO _=>q=fO
 | .str n,.agg cs=>cs.length=n
 | _,_=>False
def Ak (lo:Nat) (fb:hT) (m k v:I) (H:List au) (K:I→List au→Prop):Prop:=match m with
 | .map id=>match Nat.ble lo id with
   | true=>kJ fb k∧∃ es clock,H[id]?=some (.map es clock)∧∃ r,fB k es 0=some r∧(match r with
     | some i=>K .junk (H.set id (.map (es.modify i fun e=>(e.1,k,v)) clock))
     | none=>K .junk (H.set id (.map (es++[(clock,k,v)]) (clock+1))))
   | false=>False
 | _=>False
def Aj (fb:hT) (ok:Bool) (zero:Option I) (m k:I) (H:List au) (K:I→List au→Prop):Prop:=match m with
 | .map id=>kJ fb k∧∃ es clock,H[id]?=some (.map es clock)∧∃ r,fB k es 0=some r∧(match r with
   | some i=>∃ e,es[i]?=some e∧(match ok with | true=>K (.tuple [e.2.2,.bool true]) H | false=>K e.2.2 H)
   | none=>∃ z,zero=some z∧(match ok with | true=>K (.tuple [z,.bool false]) H | false=>K z H))
 | _=>False
def Ai (lo:Nat) (fb:hT) (m k:I) (H:List au) (K:I→List au→Prop):Prop:=match m with
 | .map id=>match Nat.ble lo id with
   | true=>kJ fb k∧∃ es clock,H[id]?=some (.map es clock)∧∃ r,fB k es 0=some r∧(match r with
     | some i=>K (.tuple []) (H.set id (.map (es.eraseIdx i) clock))
     | none=>K (.tuple []) H)
   | false=>False
 | _=>False
def An (m:I) (H:List au) (K:I→List au→Prop):Prop:=match m with
 | .map id=>∃ es clock,H[id]?=some (.map es clock)∧K (.ptr H.length 0) (H++[.iter id clock [] clock])
 | _=>False
def Ac (p:I) (H:List au) (K:I→List au→Prop):Prop:=match p with
 | .ptr r 0=>∃ m since seen clock gh es e,H[r]?=some (.iter m since seen clock)∧seen.getLast?=some gh∧H[m]?=some (.map es clock)∧es.find? (fun e=>e.1 == gh)=some e∧K (.tuple [e.2.1,e.2.2]) H
 | _=>False
def Ag (m:I) (H:List au) (K:I→List au→Prop):Prop:=match m with
 | .map id=>∃ es clock,H[id]?=some (.map es clock)∧K (.int .i64 es.length) H
 | _=>False
def bP (P:Program) (lo:Nat) (k:hU) (vs:List I) (H:List au) (K:I→List au→Prop):Prop:=match k with
 | .iT=>match vs with | [v]=>K v H | _=>False
 | .nil z=>match vs with | [_]=>K (.ay [] 0 (.uniq z)) H | _=>False
 | .A7=>match vs with | [v]=>xE v H K | _=>False
 | .w8 a=>match vs with | [v]=>xy a v H K | _=>False
 | .zc a=>match vs with | [.bW cells]=>mq a cells 0 fun v=>K v H | _=>False
 | .take=>match vs with | [v]=>xC lo v H K | _=>False
 | .A6=>match vs with | [v]=>xD lo v H K | _=>False
 | .A0=>match vs with | [p,v]=>xB lo p v H K | _=>False
 | .st s=>match vs with | [p,v]=>xA lo s p v H K | _=>False
 | .box=>match vs with | [v]=>xw v H K | _=>False
 | .x_=>match vs with | [v]=>xx v H K | _=>False
 | .alloc z=>K (.ptr H.length 0) (H++[.cells z])
 | .zz z s bytes=>match vs with | [a,b]=>Am z s bytes a b H K | _=>False
 | .zy z s bytes=>match vs with | [a,b]=>Al z s bytes a b H K | _=>False
 | .w_=>match vs with | [v]=>Ah v H K | _=>False
 | .ze n=>match vs with | [.ay _ _ _] | [.ref _ _ _ _ _] | [.map _]=>False | [_]=>K (.int .i64 n) H | _=>False
 | .min=>match vs with | .int k a::r=>xf r a fun n=>K (.int k n) H | _=>False
 | .max=>match vs with | .int k a::r=>xe r a fun n=>K (.int k n) H | _=>False
 | .app s bytes=>match vs with | [x,y]=>xu s bytes x y H K | _=>False
 | .x4 s bytes=>match vs with | [x,y]=>xv lo s bytes x y H K | _=>False
 | .call _=>False
 | .pick=>match vs with | [.bool c,a,b]=>(match c with | true=>K a H | false=>K b H) | _=>False
 | .build z bj=>jy bj vs z fun cs=>K (.agg cs) H
 | .ya len s z ix=>jy (ix.map fun i=>(i*s,s)) vs (eZ len z) fun cs=>K (.ay cs len (.uniq s)) H
 | .x' len s z ix=>jy (ix.map fun i=>(i*s,s)) vs (eZ len z) fun cs=>K (.ay cs len .full) H
 | .zC=>match vs with | [.ptr id off]=>K (.ptr id off) H | [.bW cells]=>K (.bW cells) H | _=>False
 | .bin op=>match vs with | [.int k a,.int k' b]=>(match decide (k=k') || AN op with | true=>oD op k a b fun v=>K v H | false=>False) | _=>False
 | .oF neq=>match vs with | [.bool a,.bool b]=>(match neq with | true=>K (.bool (!(a == b))) H | false=>K (.bool (a == b)) H) | _=>False
 | .un op=>match vs with
   | [.bool b]=>(match op with | .not=>K (.bool !b) H | _=>False)
   | [.int k n]=>(match op with | .neg=>K (.int k (k.wrap (-n))) H | _=>False)
   | _=>False
 | .conv k=>match vs with | [.int _ n]=>K (.int k (k.wrap n)) H | _=>False
 | .zw f n m=>(match Nat.beq vs.length (n+m) with | true=>K (.func f (vs.take n) (vs.drop n)) H | false=>False)
 | .AY s l h m=>match vs with | x::vs=>xz s l h m x vs H K | _=>False
 | .zx=>K (.map H.length) (H++[.map [] 0])
 | .zq fb=>match vs with | [m,k,v]=>Ak lo fb m k v H K | _=>False
 | .zp fb ok z=>match vs with | [m,k]=>Aj fb ok z m k H K | _=>False
 | .zo fb=>match vs with | [m,k]=>Ai lo fb m k H K | _=>False
 | .Ap=>match vs with | [m]=>An m H K | _=>False
 | .yi=>match vs with | [m]=>Ac m H K | _=>False
 | .zf=>match vs with | [m]=>Ag m H K | _=>False
 | .oT off=>match vs with | [v]=>Ad off v H K | _=>False
 | .yq off a=>match vs with | [.agg cs]=>zP a cs off fun v=>K v H | _=>False
 | .pQ s=>match vs with | [x,i]=>Ae s x i H K | _=>False
 | .y4 len s=>match vs with | [x,i]=>Af len s x i H K | _=>False
 | .ext i=>match vs with | [.tuple ws]=>(eQ ws i fun v=>kb v fun v=>K v H) | _=>False
 | .other o mode=>∃ v H',(∀ C,a9 P C lo o mode vs H=some (v,H'))∧K v H'
def n3 (P:Program) (o:Oper) (mode:Nat) (x:Operand):hU:=match mode with
 | 0=>match iR x,P.underlying o.type with
   | true,some (.slice e)=>(match bU P e with | some z=>.nil z | none=>.other o mode)
   | _,_=>.iT
 | 1=>.A7
 | _=>.other o mode
def mn (P:Program) (t:TypeId):Option (hT×TypeId):=match jS P t with
 | some (k,e)=>(match P.underlying k with
   | some (.int q)=>some (.int q,e)
   | some (.struct bG)=>some (.str bG.size,e)
   | _=>none)
 | none=>none
def hf (P:Program) (o:Oper) (mode:Nat):hU:=match o.op with
 | .move x | .assign x=>n3 P o mode x
 | .load t _=>match mode with
   | 0=>(match gQ P t with | some a=>.w8 a | none=>.other o mode)
   | 2=>(match P.underlying t with | some (.slice _)=>.A6 | _=>.other o mode)
   | 3=>(match gQ P t with | some a=>.zc a | none=>.other o mode)
   | 5=>.other o mode
   | _=>match P.underlying t with | some (.slice _)=>.take | _=>.other o mode
 | .store t _ _=>match mode,bU P t with | 0,some s=>.st s | _+1,some 1=>.A0 | _,_=>.other o mode
 | .box _ _=>match mode with | 0=>.box | _=>.x_
 | .alloc t=>match mode with
   | 0=>(match zeroCells P t with | some z=>.alloc z | none=>.other o mode)
   | _=>(match zeroCells P t,P.underlying t with
     | some [.ay [] 0 .full],some (.slice e)=>(match bU P e with | some s=>.alloc [.ay [] 0 (.own s)] | none=>.other o mode)
     | _,_=>.other o mode)
 | .makeSlice t _ _=>match mode,P.underlying t with
   | 0,some (.slice e)=>(match bU P e,zeroCells P e,(P.info? e).map (·.bytes) with
     | some s,some z,some bytes=>(match Nat.beq z.length s && Nat.blt 0 s && Nat.ble 1 bytes with | true=>.zz z s bytes | false=>.other o mode)
     | _,_,_=>.other o mode)
   | _+1,some (.slice e)=>(match bU P e,zeroCells P e,(P.info? e).map (·.bytes) with
     | some s,some z,some bytes=>(match Nat.beq z.length s && Nat.blt 0 s && Nat.ble 1 bytes with | true=>.zy z s bytes | false=>.other o mode)
     | _,_,_=>.other o mode)
   | _,_=>.other o mode
 | .call c=>match c.callee with
   | .builtin b=>match b with
     | .len=>(match iS P c.argTypes[0]? with
       | true=>.w_
       | false=>match (c.argTypes[0]?).bind P.underlying with | some (.array n _)=>.ze n | some (.map _ _)=>.zf | _=>.other o mode)
     | .delete=>(match (c.argTypes[0]?).bind (mn P) with | some x=>.zo x.1 | none=>.other o mode)
     | .min=>.min
     | .max=>.max
     | .append=>(match c.argTypes.toList with
       | [t,dp]=>(match Nat.beq t dp,P.underlying t with
         | true,some (.slice e)=>(match bU P e,zeroCells P e,(P.info? e).map (·.bytes) with
           | some s,some z,some bytes=>(match Nat.beq z.length s && Nat.blt 0 s && Nat.ble 1 bytes,mode with | true,0=>.app s bytes | true,_=>.x4 s bytes | false,_=>.other o mode)
           | _,_,_=>.other o mode)
         | _,_=>.other o mode)
       | _=>.other o mode)
     | _=>.other o mode
   | .value _=>.call mode
   | .invoke _ _=>.other o mode
 | .makeMap t r=>match r,P.underlying t with | none,some (.map _ _)=>.zx | _,_=>.other o mode
 | .mapUpdate t _ _ _=>match mn P t with | some x=>.zq x.1 | none=>.other o mode
 | .lookup t _ _ ok=>match mn P t with | some x=>.zp x.1 ok (ot P x.2) | none=>.other o mode
 | .range t _=>match P.underlying t with | some (.map _ _)=>.Ap | _=>.other o mode
 | .entry _=>.yi
 | .pick _ _ _=>.pick
 | .build t parts=>match zeroCells P t,P.underlying t with
   | some z,some (.struct bG)=>(match bG.toList.all (fun f=>(bU P f.type).isSome),mw (fun i=>(bG[i]?).bind fun f=>(bU P f.type).map fun s=>(f.offset,s)) (parts.toList.map (·.1)) with
     | true,some bj=>.build z bj
     | _,_=>.other o mode)
   | some z,some (.array _ e)=>(match bU P e with | some s=>.build z (parts.toList.map fun p=>(p.1*s,s)) | none=>.other o mode)
   | _,_=>.other o mode
 | .buildSlice t len parts=>match P.underlying t with
   | some (.slice e)=>(match bU P e,zeroCells P e with
     | some s,some z=>(match Nat.beq z.length s && Nat.blt 0 s && Nat.ble (len*s) 16777216,mode with | true,0=>.ya len s z (parts.toList.map (·.1)) | true,_=>.x' len s z (parts.toList.map (·.1)) | false,_=>.other o mode)
     | _,_=>.other o mode)
   | _=>.other o mode
 | .nilCheck _=>.zC
 | .binOp op t _ y _=>match iR y,P.underlying t with
   | false,some (.int _)=>.bin op
   | false,some .bool=>(match op with | .eql=>.oF false | .neq=>.oF true | _=>.other o mode)
   | _,_=>.other o mode
 | .unOp op _ _=>.un op
 | .convert src dst _=>match P.underlying src,P.underlying dst with
   | some _,some (.int k)=>.conv k
   | _,_=>.other o mode
 | .makeFunc fn first captured=>match fn with | .func f=>.zw f first.size captured.size | _=>.other o mode
 | .slice t _ l h m=>match P.underlying t with
   | some (.slice e)=>(match bU P e with | some s=>.AY s l.isSome h.isSome m.isSome | none=>.other o mode)
   | _=>.other o mode
 | .fieldAddr t _ f=>match P.underlying t with
   | some (.struct bG)=>(match (bG[f]?).bind fun g=>(bU P g.type).map fun s=>(s,g.offset) with
     | some (s+1,off)=>.oT off
     | _=>.other o mode)
   | _=>.other o mode
 | .field t _ f=>match P.underlying t with
   | some (.struct bG)=>(match (bG[f]?).bind fun g=>(gQ P g.type).map fun a=>(a,g.offset) with
     | some (a,off)=>.yq off a
     | _=>.other o mode)
   | _=>.other o mode
 | .indexAddr t _ _=>match P.underlying t with
   | some (.slice e)=>(match bU P e with | some s=>.pQ s | none=>.other o mode)
   | some (.array len e)=>(match bU P e with | some s=>.y4 len s | none=>.other o mode)
   | _=>.other o mode
 | .extract _ i=>.ext i
 | _=>.other o mode
where
 mw {α β:Type} (f:α→Option β):List α→Option (List β)
  | []=>some []
  | x::xs=>match f x with | some y=>(mw f xs).map (y::·) | none=>none
end
end Go.Proofs.YtfakoboiahbhaaaGreat.Ab


namespace Go.Proofs.YtfakoboiahbhaaaGreat.Ab
open Go
section
variable {P:Program} {H:List au}
theorem gd {n bytes:Nat} (ad:n*bytes≤140737488355328) (af:1≤bytes):fr n bytes=true:=by
 simp only [fr,r_,ug];exact ⟨ad,af⟩
theorem Es {lo:Nat} {t:TypeId} {a:e3} (cg:gQ P t=some a) {v:I} {K:I→List au→Prop} (h:xy a v H K):∃ r H',dP P lo 0 t H [v]=some (r,H')∧K r H':=by
 unfold xy at h;split at h
 ·obtain ⟨x,ak,h⟩:=fe h;split at h
  ·obtain ⟨r,ad,af⟩:=nG cg h;exact ⟨r,H,by simp [dP,dS,ak,ad],af⟩
  ·obtain ⟨r,ad,af⟩:=nG cg h;exact ⟨r,H,by simp [dP,dS,ak,ad],af⟩
  ·exact h.elim
 ·obtain ⟨r,ad,af⟩:=nG cg h;exact ⟨r,H,by simp [dP,dS,ad],af⟩
 ·exact h.elim
theorem Ex {lo mode:Nat} {t e:TypeId} (hm:mode≠0) (pv:mode≠2) (yK:mode≠3) (yL:mode≠5) (ax:P.underlying t=some (.slice e)) {v:I} {K:I→List au→Prop} (h:xC lo v H K):∃ r H',dP P lo mode t H [v]=some (r,H')∧K r H':=by
 unfold xC at h;split at h
 ·split at h
  ·rename_i bF;obtain ⟨x,ak,h⟩:=fe h;have bF:=tU bF;split at h
   ·obtain ⟨v,ae,h⟩:=fe h;split at h
    ·refine ⟨_,_,?_,h⟩;cases mode with
     | zero=>exact absurd rfl hm
     | succ m=>simp only [dP,ax,bF,if_true,ak,ae]
    ·refine ⟨_,_,?_,h⟩;cases mode with
     | zero=>exact absurd rfl hm
     | succ m=>simp only [dP,ax,bF,if_true,ak,ae];rfl
    ·refine ⟨_,_,?_,h⟩;cases mode with
     | zero=>exact absurd rfl hm
     | succ m=>simp only [dP,ax,bF,if_true,ak,ae];rw [if_neg pv]
    ·exact h.elim
   ·obtain ⟨v,ae,h⟩:=fe h;split at h
    ·refine ⟨_,_,?_,h⟩;cases mode with
     | zero=>exact absurd rfl hm
     | succ m=>simp only [dP,ax,bF,if_true,ak,ae]
    ·refine ⟨_,_,?_,h⟩;cases mode with
     | zero=>exact absurd rfl hm
     | succ m=>simp only [dP,ax,bF,if_true,ak,ae]
    ·exact h.elim
   ·exact h.elim
  ·exact h.elim
 ·exact h.elim
theorem Ew {lo:Nat} {t e:TypeId} (ax:P.underlying t=some (.slice e)) {v:I} {K:I→List au→Prop} (h:xD lo v H K):∃ r H',dP P lo 2 t H [v]=some (r,H')∧K r H':=by
 unfold xD at h;split at h
 ·split at h
  ·rename_i bF;obtain ⟨x,ak,h⟩:=fe h;have bF:=tU bF;split at h
   ·obtain ⟨v,ae,h⟩:=fe h;split at h
    ·exact ⟨_,_,by simp only [dP,ax,bF,if_true,ak,ae];rw [if_neg h.1],h.2⟩
    ·exact ⟨_,_,by simp only [dP,ax,bF,if_true,ak,ae];rfl,h⟩
    ·exact h.elim
   ·exact h.elim
  ·exact h.elim
 ·exact h.elim
theorem Eu {lo mode:Nat} {t:TypeId} (hm:mode≠0) (ai:bU P t=some 1) {p v:I} {K:I→List au→Prop} (h:xB lo p v H K):∃ r H',hD P lo mode t H [p,v]=some (r,H')∧K r H':=by
 unfold xB at h;split at h
 ·split at h
  ·rename_i bF;have bF:=tU bF;obtain ⟨x,ak,h⟩:=fe h;split at h
   ·split at h
    ·obtain ⟨ad,af,h⟩:=h;obtain ⟨aG,h⟩:=k8 h;refine ⟨.junk,_,?_,h⟩;cases mode with
     | zero=>exact absurd rfl hm
     | succ m =>
       simp only [hD,lu,ai];rw [if_pos ⟨ad,af⟩];simp only [g9,bF,if_true,ak];rw [if_pos aG];rfl
    ·exact h.elim
   ·exact h.elim
  ·exact h.elim
 ·exact h.elim
theorem Ev {lo s:Nat} {t:TypeId} (ai:bU P t=some s) {p v:I} {K:I→List au→Prop} (h:xA lo s p v H K):∃ r H',hD P lo 0 t H [p,v]=some (r,H')∧K r H':=by
 unfold xA at h;split at h
 ·split at h
  ·rename_i bF;have bF:=tU bF;obtain ⟨x,ak,h⟩:=fe h;split at h
   ·rcases lC h with ⟨ad,av⟩ | ⟨bH,ad,_,av⟩
    ·split at av
     ·rename_i af;have af:=sW af;rw [xL] at av;obtain ⟨aG,av⟩:=k8 av;clear h;subst af;exact ⟨.junk,_,by simp only [hD,iB,ai,ad,g_,bF,if_true,ak];rw [if_pos ⟨rfl,by omega⟩];rfl,av⟩
     ·exact av.elim
    ·split at av
     ·rename_i af a7;have af:=sW af;(have a7:0<s:=by simpa [te] using a7);obtain ⟨aG,av⟩:=oj av;(have bN:=aG.resolve_right fun aG=>by simp only [List.map_eq_nil_iff] at aG;rw [aG] at af;simp only [uC] at af;omega);simp only [sZ,af] at bN;exact ⟨.junk,_,by simp only [hD,iB,ai,ad,g_,bF,if_true,ak];rw [if_pos ⟨af,bN⟩];rfl,av⟩
     ·exact av.elim
   ·rcases lC h with ⟨ad,av⟩ | ⟨bH,ad,_,av⟩
    ·split at av
     ·rename_i af;have af:=sW af;rw [xL] at av;obtain ⟨aG,av⟩:=k8 av;clear h;subst af;exact ⟨.junk,_,by simp only [hD,iB,ai,ad,g_,bF,if_true,ak];rw [if_pos ⟨rfl,by omega⟩];rfl,av⟩
     ·exact av.elim
    ·split at av
     ·rename_i af a7;have af:=sW af;(have a7:0<s:=by simpa [te] using a7);obtain ⟨aG,av⟩:=oj av;(have bN:=aG.resolve_right fun aG=>by simp only [List.map_eq_nil_iff] at aG;rw [aG] at af;simp only [uC] at af;omega);simp only [sZ,af] at bN;exact ⟨.junk,_,by simp only [hD,iB,ai,ad,g_,bF,if_true,ak];rw [if_pos ⟨af,bN⟩];rfl,av⟩
     ·exact av.elim
   ·exact h.elim
  ·exact h.elim
 ·exact h.elim
theorem Er {v:I} {K:I→List au→Prop} (h:xw v H K):∃ r H',gF 0 H [v]=some (r,H')∧K r H':=by
 unfold xw at h;rcases lC h with ⟨ad,h⟩ | ⟨bH,ad,_,h⟩
 ·rw [xL] at h;exact ⟨_,_,by simp only [gF,ad,sc,sE,List.map_nil],h⟩
 ·exact ⟨_,_,by simp only [gF,ad,sc],h⟩
theorem Ep {mode:Nat} (hm:mode≠0) {v:I} {K:I→List au→Prop} (h:xx v H K):∃ r H',gF mode H [v]=some (r,H')∧K r H':=by
 unfold xx at h;cases mode with
 | zero=>exact absurd rfl hm
 | succ m =>
 rcases lC h with ⟨ad,af,h⟩ | ⟨bH,ad,_,af,h⟩
 ·have aG:[v].all I.plain=true:=by simp [af]
  exact ⟨_,_,by simp only [gF,ad,aG],h⟩
 ·exact ⟨_,_,by simp only [gF,ad,af],h⟩
theorem zv:∀ (l:List I) (a:Int) {K:Int→Prop},xf l a K→∃ n,kQ l a=some n∧K n
 | [],a,K,h=>⟨a,rfl,h⟩
 | .int k b::r,a,K,h=>by
   obtain ⟨n,ad,af⟩:=zv r _ h;(have e:min a b=if b<a then b else a:=by split <;> omega);rw [e] at ad;exact ⟨n,ad,af⟩
 | .junk::_,_,_,h | .bool _::_,_,_,h | .eC::_,_,_,h | .ptr _ _::_,_,_,h | .bW _::_,_,_,h | .ay _ _ _::_,_,_,h | .ref _ _ _ _ _::_,_,_,h | .func _ _ _::_,_,_,h | .yield _::_,_,_,h | .map _::_,_,_,h
 | .agg _::_,_,_,h | .tuple _::_,_,_,h | .str _::_,_,_,h | .raw _ _ _::_,_,_,h | .cn _ _ _ _::_,_,_,h=>h.elim
theorem zu:∀ (l:List I) (a:Int) {K:Int→Prop},xe l a K→∃ n,kP l a=some n∧K n
 | [],a,K,h=>⟨a,rfl,h⟩
 | .int k b::r,a,K,h=>by
   obtain ⟨n,ad,af⟩:=zu r _ h;(have e:max a b=if b > a then b else a:=by split <;> omega);rw [e] at ad;exact ⟨n,ad,af⟩
 | .junk::_,_,_,h | .bool _::_,_,_,h | .eC::_,_,_,h | .ptr _ _::_,_,_,h | .bW _::_,_,_,h | .ay _ _ _::_,_,_,h | .ref _ _ _ _ _::_,_,_,h | .func _ _ _::_,_,_,h | .yield _::_,_,_,h | .map _::_,_,_,h
 | .agg _::_,_,_,h | .tuple _::_,_,_,h | .str _::_,_,_,h | .raw _ _ _::_,_,_,h | .cn _ _ _ _::_,_,_,h=>h.elim
theorem Ey {lo:Nat} {t:TypeId} {x:Operand} {v:I} {K:I→List au→Prop} (h:xE v H K):∃ r H',eR P lo 1 t x H [v]=some (r,H')∧K r H':=by
 unfold xE at h;split at h
 ·rcases h with h | h
  ·exact ⟨_,_,by simp only [eR];rw [if_neg h.1],h.2⟩
  ·exact ⟨_,_,by simp only [eR];rw [if_pos h.1],h.2⟩
 ·exact ⟨_,_,rfl,h⟩
 ·exact ⟨_,_,rfl,h⟩
 ·exact h.elim
theorem Aa {t e:TypeId} {s bytes:Nat} (ax:P.underlying t=some (.slice e)) (ai:bU P e=some s) {z:List I} (bo:zeroCells P e=some z) (ag:(P.info? e).map (·.bytes)=some bytes)
  (ep:z.length=s) (aT:0<s) (ad:1≤bytes) {x y:I} {new:List I} {m:Nat} (eJ:appended H y=some (m,new)) {K:I→List au→Prop} (h:n5 s bytes x new m H K):∃ r H',iX P #[t,t] H [x,y]=some (r,H')∧K r H':=by
 unfold n5 at h;obtain ⟨aB,aH,h⟩:=h;have ao:new.length=m*s∧0<s∧z.length=s∧fr m bytes=true:=⟨aB,aT,ep,gd aH ad⟩;have key:∀ {r:I},e6 P H t t x y=some r→iX P #[t,t] H [x,y]=some (r,H):=fun h=>by simp [iX,h]
 have beq:Nat.beq t t=true:=uD t;split at h
 ·obtain ⟨bq,h⟩:=h;subst bq;refine ⟨_,_,key ?_,h⟩;simp only [e6,ax,ai,ag,bo,beq,eJ];rw [if_pos ao];rfl
 ·obtain ⟨bq,cK,eA,h⟩:=h;refine ⟨_,_,key ?_,h⟩;simp only [e6,ax,ai,ag,bo,beq,eJ];rw [if_pos ao];simp only [bq,if_false];rw [if_pos ⟨gd cK ad,eA⟩]
 ·obtain ⟨bq,cK,h⟩:=h;refine ⟨_,_,key ?_,h⟩;simp only [e6,ax,ai,ag,bo,beq,eJ];rw [if_pos ao];simp only [bq];rw [if_pos ⟨trivial,gd cK ad⟩]
 ·obtain ⟨bq,cK,h⟩:=h;refine ⟨_,_,key ?_,h⟩;simp only [e6,ax,ai,ag,bo,beq,eJ];rw [if_pos ao];simp only [bq];rw [if_pos ⟨trivial,gd cK ad⟩]
 ·exact h.elim
theorem Eo {t e:TypeId} {s bytes:Nat} (ax:P.underlying t=some (.slice e)) (ai:bU P e=some s) {z:List I} (bo:zeroCells P e=some z) (ag:(P.info? e).map (·.bytes)=some bytes)
  (ep:z.length=s) (aT:0<s) (ad:1≤bytes) {x y:I} {K:I→List au→Prop} (h:xu s bytes x y H K):∃ r H',iX P #[t,t] H [x,y]=some (r,H')∧K r H':=by
 unfold xu at h;split at h
 ·rename_i new m c;exact Aa ax ai bo ag ep aT ad (y:=.ay new m c) rfl h
 ·rename_i id off m c cW;obtain ⟨o,aq,h⟩:=fe h;split at h
  ·rename_i l;obtain ⟨bq,h⟩:=h;refine Aa ax ai bo ag ep aT ad (y:=.ref id off m c cW) ?_ h;simp only [appended,lenOf,rowOf,aq,if_pos bq]
  ·exact h.elim
 ·exact h.elim
theorem Nat.BH {a b:Nat} (h:b=a):Nat.blt a b=false:=by
 cases ag:Nat.blt a b with
 | false=>rfl
 | true=>have:=tU ag;omega
theorem En {lo:Nat} {t e:TypeId} {s bytes:Nat} (ax:P.underlying t=some (.slice e)) (ai:bU P e=some s) {z:List I} (bo:zeroCells P e=some z) (ag:(P.info? e).map (·.bytes)=some bytes)
  (ep:z.length=s) (aT:0<s) (ad:1≤bytes) {x y:I} {K:I→List au→Prop} (h:xv lo s bytes x y H K):∃ r H',iY P lo #[t,t] H [x,y]=some (r,H')∧K r H':=by
 unfold xv at h;split at h
 ·rename_i new m c;obtain ⟨⟨aB,aH⟩,h⟩:=h;have eJ:appended H (.ay new m c)=some (m,new):=rfl;have ao:new.length=m*s∧0<s∧z.length=s∧fr m bytes=true:=⟨aB,aT,ep,gd aH ad⟩;have beq:Nat.beq t t=true:=uD t;split at h
  ·rename_i cells n;obtain ⟨⟨bq,cK,eA⟩,h⟩:=h;refine ⟨_,_,?_,h⟩;have q:e6 P H t t (.ay cells n .full) (.ay new m c)=some (.ay (cells++new) (n+m) (.uniq s)):=by
    simp only [e6,ax,ai,ag,bo,beq,eJ];rw [if_pos ao];simp only [bq,if_false];rw [if_pos ⟨gd cK ad,eA⟩]
   simp only [iY,jb,ic,q];rw [if_neg (by omega)]
  ·rename_i cells n cW;obtain ⟨⟨rfl,bq,cK⟩,h⟩:=h;refine ⟨_,_,?_,h⟩;have q:e6 P H t t (.ay cells n (.uniq cW)) (.ay new m c)=some (.ay (cells++new) (n+m) (.uniq cW)):=by
    simp only [e6,ax,ai,ag,bo,beq,eJ];rw [if_pos ao];rw [if_pos ⟨trivial,gd cK ad⟩]
   simp only [iY,jb,ic,q];rw [if_neg (by omega)]
  ·rename_i id gid n z;split at h
   ·rename_i bF;have bF:=tU bF;obtain ⟨o,aE,h⟩:=fe h;split at h
    ·rcases h with ⟨⟨cd,b_,dZ,bq,cK,eA⟩,bN⟩ | ⟨⟨cd,b_,dZ,bq,cK,eA⟩,bN⟩
     ·subst cd b_ dZ;refine ⟨_,_,?_,bN⟩;have iH:=Nat.BH bq;simp only [iY,jb,aE,iH,Bool.false_and];simp only [ic,bF,if_true,ax,aE,ai,ag,bo,eJ];rw [if_pos ⟨trivial,trivial,trivial,trivial,bq,aB,aT,cK,ep,gd aH ad,gd eA ad⟩]
     ·rename_i l g cW;subst cd b_ dZ;refine ⟨_,_,?_,bN⟩;have iH:Nat.blt (n*cW) l.length=true:=sX bq;have fl:Nat.ble lo id=true:=sX bF;have CB:=(rV.1 aE).1;(have pn:(H.set id (.grow (l.take (n*cW)) g cW))[id]?=some (.grow (l.take (n*cW)) g cW):=by rw [rY CB]);simp only [iY,jb,aE,iH,fl,Bool.and_self];simp only [ic,bF,if_true,ax,pn,ai,ag,bo];have Cb:appended (H.set id (.grow (l.take (n*cW)) g cW)) (.ay new m c)=some (m,new):=rfl;simp only [Cb];rw [if_pos ⟨trivial,trivial,trivial,trivial,by rw [List.length_take];omega,aB,aT,cK,ep,gd aH ad,gd eA ad⟩,List.set_set,tz]
    ·exact h.elim
   ·exact h.elim
  ·exact h.elim
 ·exact h.elim
theorem Et {t e:TypeId} {s:Nat} (ax:P.underlying t=some (.slice e)) (ai:bU P e=some s) {l h m:Option Operand} {x:I} {vs:List I} {K:I→List au→Prop}
  (av:xz s l.isSome h.isSome m.isSome x vs H K):∃ r,ei P t l h m (x::vs)=some r∧K r H:=by
 unfold xz at av;split at av
 ·rename_i cells n c;split at av
  ·rename_i e1 cm dF;obtain rfl:=tf.1 e1 |> tg.1;obtain rfl:=tf.1 cm |> tg.1;obtain rfl:=tf.1 dF |> tg.1;split at av
   ·exact ⟨_,by simp [ei,ax,ai,cJ,dn],av⟩
   ·exact ⟨_,by simp [ei,I.view,eT,ax,ai,cJ,dn],av⟩
   ·exact av.elim
  ·rename_i k i e1 cm dF;obtain ⟨l,rfl⟩:=tw.1 e1;obtain rfl:=tf.1 cm |> tg.1;obtain rfl:=tf.1 dF |> tg.1;split at av
   ·obtain ⟨⟨rfl,ag⟩,av⟩:=av;exact ⟨_,by simp [ei,ax,ai,cJ,dn,ag],av⟩
   ·obtain ⟨ag,av⟩:=av;exact ⟨_,by simp [ei,I.view,eT,ax,ai,cJ,dn,ag],av⟩
   ·obtain ⟨ag,av⟩:=av;exact ⟨_,by simp [ei,I.view,eT,ax,ai,cJ,dn,ag],av⟩
   ·exact av.elim
  ·rename_i k j e1 cm dF;obtain rfl:=tf.1 e1 |> tg.1;obtain ⟨h,rfl⟩:=tw.1 cm;obtain rfl:=tf.1 dF |> tg.1;split at av
   ·obtain ⟨ag,av⟩:=av;exact ⟨_,by simp [ei,ax,ai,cJ,dn,ag],av⟩
   ·obtain ⟨ag,av⟩:=av;exact ⟨_,by simp [ei,I.view,eT,ax,ai,cJ,dn,ag],av⟩
   ·obtain ⟨ag,av⟩:=av;exact ⟨_,by simp [ei,I.view,eT,ax,ai,cJ,dn,ag],av⟩
   ·exact av.elim
  ·rename_i k i k' j e1 cm dF;obtain ⟨l,rfl⟩:=tw.1 e1;obtain ⟨h,rfl⟩:=tw.1 cm;obtain rfl:=tf.1 dF |> tg.1;have aw:0≤i∧i≤j∧j≤n→(0≤j∧j≤n)∧i≤max j 0:=fun ag=>⟨⟨by omega,ag.2.2⟩,by omega⟩;split at av
   ·obtain ⟨ag,av⟩:=av;obtain ⟨q1,aX⟩:=aw ag;exact ⟨_,by simp [ei,I.view,eT,ax,ai,cJ,dn,q1,aX,ag.1],av⟩
   ·obtain ⟨ag,av⟩:=av;obtain ⟨q1,aX⟩:=aw ag;exact ⟨_,by simp [ei,I.view,eT,ax,ai,cJ,dn,q1,aX,ag.1],av⟩
   ·obtain ⟨ag,av⟩:=av;obtain ⟨q1,aX⟩:=aw ag;exact ⟨_,by simp [ei,I.view,eT,ax,ai,cJ,dn,q1,aX,ag.1],av⟩
   ·exact av.elim
  ·rename_i k j k' y8 e1 cm dF;obtain rfl:=tf.1 e1 |> tg.1;obtain ⟨h,rfl⟩:=tw.1 cm;obtain ⟨m,rfl⟩:=tw.1 dF;obtain ⟨⟨rfl,ag⟩,av⟩:=av;(have q:j≤max j 0:=by omega);refine ⟨_,?_,av⟩;cases c <;> simp [ei,I.view,eT,ax,ai,cJ,dn,ag,q]
  ·rename_i k i k' j Gk y8 e1 cm dF;obtain ⟨l,rfl⟩:=tw.1 e1;obtain ⟨h,rfl⟩:=tw.1 cm;obtain ⟨m,rfl⟩:=tw.1 dF;obtain ⟨⟨rfl,ag⟩,av⟩:=av;(have q:j≤max j 0:=by omega);(have aX:i≤max j 0:=by omega);(have cB:0≤j:=by omega);refine ⟨_,?_,av⟩;cases c <;> simp [ei,I.view,eT,ax,ai,cJ,dn,ag,q,aX,cB]
  ·exact av.elim
 ·rename_i id off n cap sz;split at av
  ·rename_i k i e1 cm dF;obtain ⟨l,rfl⟩:=tw.1 e1;obtain rfl:=tf.1 cm |> tg.1;obtain rfl:=tf.1 dF |> tg.1;obtain ⟨rfl,ag,aJ,aP⟩:=av;by_cases hi:i<n
   ·(have hi':i.toNat<n:=by omega);exact ⟨_,by simp [ei,I.view,eT,ax,ai,cJ,dn,ag,hi'],aJ hi⟩
   ·(have hi':¬ i.toNat<n:=by omega);exact ⟨_,by simp [ei,I.view,eT,ax,ai,cJ,dn,ag,hi'],aP (by omega)⟩
  ·rename_i k j e1 cm dF;obtain rfl:=tf.1 e1 |> tg.1;obtain ⟨h,rfl⟩:=tw.1 cm;obtain rfl:=tf.1 dF |> tg.1;obtain ⟨rfl,⟨bq,cK,eA⟩,av⟩:=av;(have ao:cap.map (·-0)=cap:=by cases cap <;> rfl);exact ⟨_,by simp [ei,I.view,eT,ax,ai,cJ,dn,bq,cK,eA],av⟩
  ·exact av.elim
 ·rename_i id gid n z;split at av
  ·rename_i k j e1 cm dF;obtain rfl:=tf.1 e1 |> tg.1;obtain ⟨h,rfl⟩:=tw.1 cm;obtain rfl:=tf.1 dF |> tg.1;obtain ⟨ag,av⟩:=av;exact ⟨_,by simp [ei,ax,ai,cJ,dn,ag],av⟩
  ·exact av.elim
 ·exact av.elim
end
end Go.Proofs.YtfakoboiahbhaaaGreat.Ab


namespace Go.Proofs.YtfakoboiahbhaaaGreat.Ab
open Go
section
variable {P:Program} {H:List au}
theorem zs {α β:Type} {f:α→Option β}:∀ {l:List α} {r:List β},hf.mw f l=some r→l.map f=r.map some
 | [],r,h=>by simp [hf.mw] at h;subst h;rfl
 | x::xs,r,h=>by
   simp only [hf.mw] at h;split at h
   ·rename_i y a1;simp only [rU] at h;obtain ⟨ys,h,rfl⟩:=h;simp [a1,zs h]
   ·simp at h
theorem w7 {t:TypeId} {x:hT×TypeId} (h:mn P t=some x):∃ ea,jS P t=some (ea,x.2)∧∀ k,kJ x.1 k→isKey P ea k=true:=by
 unfold mn at h;split at h
 ·rename_i ea e hm;split at h
  ·rename_i q a4;cases h;refine ⟨ea,hm,fun k av=>?_⟩;cases k <;> simp only [kJ] at av;subst av;simp [isKey,a4]
  ·rename_i bG ai;cases h;refine ⟨ea,hm,fun k av=>?_⟩;cases k <;> simp only [kJ] at av;simp [isKey,ai,av]
  ·cases h
 ·cases h
theorem z_ {lo:Nat} {o:Oper} {mode:Nat} {vs:List I} {K:I→List au→Prop} (h:bP P lo (hf P o mode) vs H K):∃ v H',(∀ C,a9 P C lo o mode vs H=some (v,H'))∧K v H':=by
 have Gs:∀ {x:hU},x=.other o mode→bP P lo x vs H K→∃ v H',(∀ C,a9 P C lo o mode vs H=some (v,H'))∧K v H':=fun e h=>by subst e;exact h
 have pure:∀ {r:I},(∀ C,a9 P C lo o mode vs H=(cA P o vs).map (·,H))→cA P o vs=some r→K r H→∃ v H',(∀ C,a9 P C lo o mode vs H=some (v,H'))∧K v H':=fun ad af aG=>⟨_,H,fun C=>by rw [ad C,af];rfl,aG⟩;have iT:∀ x,(o.op=.move x∨o.op=.assign x)→(∀ C,a9 P C lo o mode vs H=eR P lo mode o.type x H vs)→bP P lo (n3 P o mode x) vs H K→∃ v H',(∀ C,a9 P C lo o mode vs H=some (v,H'))∧K v H':=fun x _ hm h=>by
  unfold n3 at h;split at h
  ·split at h
   ·rename_i e aN hu;split at h
    ·rename_i z bo;simp only [bP] at h;split at h
     ·exact ⟨_,_,fun C=>by rw [hm C];simp only [eR,aN,hu,bo,sc],h⟩
     ·exact h.elim
    ·exact h
   ·rename_i fX;simp only [bP] at h;split at h
    ·refine ⟨_,H,fun C=>?_,h⟩;rw [hm C];simp only [eR]
     try (split
          ·rename_i e ad af;exact absurd af (fX e ad)
          ·rfl)
    ·exact h.elim
  ·simp only [bP] at h;split at h
   ·obtain ⟨r,H',ad,af⟩:=Ey (P:=P) (lo:=lo) (t:=o.type) (x:=x) h;exact ⟨r,H',fun C=>by rw [hm C];exact ad,af⟩
   ·exact h.elim
  ·exact h
 unfold hf at h;cases aD:o.op <;> simp only [aD] at h <;> (try exact h)
 case move x=>exact iT x (.inl aD) (fun C=>by simp [a9,aD]) h
 case assign x=>exact iT x (.inr aD) (fun C=>by simp [a9,aD]) h
 case load t a =>
  split at h
  ·split at h
   ·rename_i Bu cg;simp only [bP] at h;split at h
    ·obtain ⟨r,H',ad,af⟩:=Es (P:=P) (lo:=lo) cg h;exact ⟨r,H',fun C=>by simp only [a9,aD];exact ad,af⟩
    ·exact h.elim
   ·exact h
  ·split at h
   ·rename_i e hu;simp only [bP] at h;split at h
    ·obtain ⟨r,H',ad,af⟩:=Ew (P:=P) (lo:=lo) hu h;exact ⟨r,H',fun C=>by simp only [a9,aD];exact ad,af⟩
    ·exact h.elim
   ·exact h
  ·split at h
   ·rename_i Bu cg;simp only [bP] at h;split at h
    ·obtain ⟨r,ad,af⟩:=nG cg h;exact ⟨r,H,fun C=>by simp only [a9,aD,dP,ad,sc],af⟩
    ·exact h.elim
   ·exact h
  ·exact h
  ·rename_i hm pv yK yL;split at h
   ·rename_i e hu;simp only [bP] at h;split at h
    ·obtain ⟨r,H',ad,af⟩:=Ex (P:=P) (lo:=lo) (mode:=mode) (fun e=>hm e) (fun e=>pv e) (fun e=>yK e) (fun e=>yL e) hu h;exact ⟨r,H',fun C=>by simp only [a9,aD];exact ad,af⟩
    ·exact h.elim
   ·exact h
 case store t a x =>
  split at h
  ·rename_i s ai;simp only [bP] at h;split at h
   ·obtain ⟨r,H',ad,af⟩:=Ev (P:=P) (lo:=lo) ai h;exact ⟨r,H',fun C=>by simp only [a9,aD];exact ad,af⟩
   ·exact h.elim
  ·rename_i m ai;simp only [bP] at h;split at h
   ·obtain ⟨r,H',ad,af⟩:=Eu (P:=P) (lo:=lo) (mode:=m+1) (by omega) ai h;exact ⟨r,H',fun C=>by simp only [a9,aD];exact ad,af⟩
   ·exact h.elim
  ·exact h
 case box e x =>
  split at h
  ·simp only [bP] at h;split at h
   ·obtain ⟨r,H',ad,af⟩:=Er h;exact ⟨r,H',fun C=>by simp only [a9,aD];exact ad,af⟩
   ·exact h.elim
  ·rename_i hm;simp only [bP] at h;split at h
   ·obtain ⟨r,H',ad,af⟩:=Ep (mode:=mode) (fun e=>hm e) h;exact ⟨r,H',fun C=>by simp only [a9,aD];exact ad,af⟩
   ·exact h.elim
 case alloc t =>
  split at h
  ·split at h
   ·rename_i z bo;exact ⟨_,_,fun C=>by simp only [a9,aD,kT,bo,sc],h⟩
   ·exact h
  ·rename_i hm;split at h
   ·rename_i e bo hu;split at h
    ·rename_i s ai;refine ⟨_,_,fun C=>?_,h⟩;simp only [a9,aD];unfold kT;split
     ·exact absurd rfl hm
     ·simp only [bo,hu,ai,sc]
    ·exact h
   ·exact h
 case makeSlice t a b =>
  split at h
  ·rename_i DY e hu;split at h
   ·rename_i s z bytes ai bo ag;split at h
    ·rename_i ao;simp only [r_,uE,te,ug] at ao;obtain ⟨⟨ba,bm⟩,bt⟩:=ao;simp only [bP] at h;split at h
     ·unfold Am at h;split at h
      ·obtain ⟨d1,d2,d3,h⟩:=h;refine ⟨_,_,fun C=>?_,h⟩;simp only [a9,aD,jX];rw [if_pos ⟨d1,d2⟩];simp only [jh,hu,ai,bo,ag];rw [if_pos ⟨ba,bm,gd d3 bt⟩];rfl
      ·exact h.elim
     ·exact h.elim
    ·exact h
   ·exact h
  ·rename_i DY m e hu;split at h
   ·rename_i s z bytes ai bo ag;split at h
    ·rename_i ao;simp only [r_,uE,te,ug] at ao;obtain ⟨⟨ba,bm⟩,bt⟩:=ao;simp only [bP] at h;split at h
     ·unfold Al at h;split at h
      ·obtain ⟨d1,d2,d3,h⟩:=h;refine ⟨_,_,fun C=>?_,h⟩;simp only [a9,aD,jX];rw [if_pos ⟨by omega,by omega⟩,if_pos ⟨d1,d2⟩];simp only [jh,hu,ai,bo,ag];rw [if_pos ⟨ba,bm,gd d3 bt⟩];rfl
      ·exact h.elim
     ·exact h.elim
    ·exact h
   ·exact h
  ·exact h
 case call c =>
  split at h
  ·rename_i b ag;split at h
   ·split at h
    ·rename_i ai;simp only [bP] at h;split at h
     ·unfold Ah at h;split at h
      ·exact ⟨_,_,fun C=>by simp only [a9,aD,ag,eu,hb,ai],h⟩
      ·exact ⟨_,_,fun C=>by simp only [a9,aD,ag,eu,hb,ai],h⟩
      ·exact h.elim
     ·exact h.elim
    ·split at h
     ·rename_i n e hu;simp only [bP] at h;split at h
      ·exact h.elim
      ·exact h.elim
      ·exact h.elim
      ·rename_i x cc cq DT;refine ⟨_,_,fun C=>?_,h⟩;simp only [a9,aD,ag,eu,hb,hu]
       try (cases x <;> first | rfl | exact absurd rfl (cc _ _ _) | exact absurd rfl (cq _ _ _ _ _) | exact absurd rfl (DT _))
      ·exact h.elim
     ·rename_i _ _ hu;simp only [bP] at h;split at h
      ·unfold Ag at h;split at h
       ·obtain ⟨es,clock,ad,h⟩:=h;exact ⟨_,_,fun C=>by simp only [a9,aD,ag,eu,hb,hu,ad],h⟩
       ·exact h.elim
      ·exact h.elim
     ·exact h
   ·split at h
    ·rename_i x al;simp only [sb] at al;obtain ⟨t,ax,al⟩:=al;obtain ⟨ea,hm,hz⟩:=w7 al;simp only [bP] at h;split at h
     ·unfold Ai at h;split at h
      ·split at h
       ·rename_i bF;have bF:=tU bF;obtain ⟨ad,es,clock,af,r,aG,h⟩:=h;split at h
        ·exact ⟨_,_,fun C=>by simp only [a9,aD,ag,eu,hC,ax,rW,hm,hz _ ad,bF,if_true,af,aG],h⟩
        ·exact ⟨_,_,fun C=>by simp only [a9,aD,ag,eu,hC,ax,rW,hm,hz _ ad,bF,if_true,af,aG],h⟩
       ·exact h.elim
      ·exact h.elim
     ·exact h.elim
    ·exact h
   ·simp only [bP] at h;split at h
    ·obtain ⟨n,ad,af⟩:=zv _ _ h;exact ⟨_,_,fun C=>by simp only [a9,aD,ag,eu,nO,ad,sc],af⟩
    ·exact h.elim
   ·simp only [bP] at h;split at h
    ·obtain ⟨n,ad,af⟩:=zu _ _ h;exact ⟨_,_,fun C=>by simp only [a9,aD,ag,eu,nN,ad,sc],af⟩
    ·exact h.elim
   ·split at h
    ·rename_i t dp g4;split at h
     ·rename_i e nh hu;split at h
      ·rename_i s z bytes ai bo yB;split at h
       ·rename_i ao;simp only [r_,uE,te,ug] at ao;obtain ⟨⟨ba,bm⟩,bt⟩:=ao;obtain rfl:t=dp:=sW nh;(have o6:c.argTypes=#[t,t]:=by rw [←t_ (xs:=c.argTypes),g4]);simp only [bP] at h;split at h
        ·obtain ⟨r,H',ad,af⟩:=Eo hu ai bo yB ba bm bt h;exact ⟨r,H',fun C=>by simp only [a9,aD,ag,eu,o6];exact ad,af⟩
        ·exact h.elim
       ·rename_i ao hm;simp only [r_,uE,te,ug] at ao;obtain ⟨⟨ba,bm⟩,bt⟩:=ao;obtain rfl:t=dp:=sW nh;(have o6:c.argTypes=#[t,t]:=by rw [←t_ (xs:=c.argTypes),g4]);simp only [bP] at h;split at h
        ·obtain ⟨r,H',ad,af⟩:=En (lo:=lo) hu ai bo yB ba bm bt h;refine ⟨r,H',fun C=>?_,af⟩;simp only [a9,aD,ag,o6]
         first
         | exact ad
         | (split
            ·exact absurd rfl hm
            ·exact ad)
        ·exact h.elim
       ·exact h
      ·exact h
     ·exact h
    ·exact h
   ·exact h
  ·exact h.elim
  ·exact h
 case makeMap t r =>
  split at h
  ·rename_i _ _ hu;simp only [bP] at h;exact ⟨_,_,fun C=>by simp only [a9,aD,kW,hu],h⟩
  ·exact h
 case mapUpdate t m k v =>
  split at h
  ·rename_i x al;obtain ⟨ea,hm,hz⟩:=w7 al;simp only [bP] at h;split at h
   ·unfold Ak at h;split at h
    ·split at h
     ·rename_i bF;have bF:=tU bF;obtain ⟨ad,es,clock,af,r,aG,h⟩:=h;split at h
      ·exact ⟨_,_,fun C=>by simp only [a9,aD,iZ,hm,hz _ ad,bF,if_true,af,aG],h⟩
      ·exact ⟨_,_,fun C=>by simp only [a9,aD,iZ,hm,hz _ ad,bF,if_true,af,aG],h⟩
     ·exact h.elim
    ·exact h.elim
   ·exact h.elim
  ·exact h
 case lookup t m k ok =>
  split at h
  ·rename_i x al;obtain ⟨ea,hm,hz⟩:=w7 al;simp only [bP] at h;split at h
   ·unfold Aj at h;split at h
    ·obtain ⟨ad,es,clock,af,r,aG,h⟩:=h;split at h
     ·obtain ⟨e,he,h⟩:=h;cases ok
      ·exact ⟨_,_,fun C=>by simp only [a9,aD,ie,hm,hz _ ad,af,aG,rW,he,sc];rfl,h⟩
      ·exact ⟨_,_,fun C=>by simp only [a9,aD,ie,hm,hz _ ad,af,aG,rW,he,sc];rfl,h⟩
     ·obtain ⟨z,bo,h⟩:=h;cases ok
      ·exact ⟨_,_,fun C=>by simp only [a9,aD,ie,hm,hz _ ad,af,aG,Option.bind_none,bo,sc];rfl,h⟩
      ·exact ⟨_,_,fun C=>by simp only [a9,aD,ie,hm,hz _ ad,af,aG,Option.bind_none,bo,sc];rfl,h⟩
    ·exact h.elim
   ·exact h.elim
  ·exact h
 case range t m =>
  split at h
  ·rename_i _ _ hu;simp only [bP] at h;split at h
   ·unfold An at h;split at h
    ·obtain ⟨es,clock,ad,h⟩:=h;exact ⟨_,_,fun C=>by simp only [a9,aD,kX,hu,ad],h⟩
    ·exact h.elim
   ·exact h.elim
  ·exact h
 case entry m =>
  simp only [bP] at h;split at h
  ·unfold Ac at h;split at h
   ·obtain ⟨m,since,seen,clock,gh,es,e,ad,af,aG,a7,h⟩:=h;exact ⟨_,_,fun C=>by simp only [a9,aD,kV,ad,af,aG,a7,if_true],h⟩
   ·exact h.elim
  ·exact h.elim
 case pick c a b =>
  simp only [bP] at h;split at h
  ·rename_i c a b;refine pure (fun C=>by simp only [a9,aD]) (r:=match c with | true=>a | false=>b) (by cases c <;> simp [cA,aD,xh]) ?_;cases c <;> exact h
  ·exact h.elim
 case build t parts =>
  have aq:∀ C,a9 P C lo o mode vs H=(cA P o vs).map (·,H):=fun C=>by simp only [a9,aD]
  split at h
  ·rename_i z bG bo hu;split at h
   ·rename_i bj c' CV;simp only [bP] at h;obtain ⟨c_,q1,aX⟩:=km h (zs CV);refine pure aq (r:=.agg c_) ?_ aX;simp only [cA,aD,lq,bo,hu,c',ft,q1,sc]
   ·exact h
  ·rename_i z len e bo hu;split at h
   ·rename_i s ai;simp only [bP] at h;obtain ⟨c_,q1,aX⟩:=km (place:=fun i=>some (i*s,s)) (ix:=parts.toList.map (·.1)) h (by simp);refine pure aq (r:=.agg c_) ?_ aX;simp only [cA,aD,lq,bo,hu,ai,ft,rW,q1,sc]
   ·exact h
  ·exact h
 case buildSlice t len parts =>
  split at h
  ·rename_i e hu;split at h
   ·rename_i s z ai bo;split at h
    ·rename_i ao;simp only [r_,uE,te,ug] at ao;obtain ⟨⟨ba,bm⟩,bt⟩:=ao;simp only [bP] at h;obtain ⟨c_,q1,aX⟩:=km (place:=fun i=>some (i*s,s)) (ix:=parts.toList.map (·.1)) h (by simp);refine pure (fun C=>by simp only [a9,aD]) (r:=.ay c_ len (.uniq s)) ?_ aX;simp only [cA,aD,iz,hu,ai,bo,ft];rw [if_pos ⟨bm,ba,bt⟩,q1];rfl
    ·rename_i ao hm;simp only [r_,uE,te,ug] at ao;obtain ⟨⟨ba,bm⟩,bt⟩:=ao;simp only [bP] at h;obtain ⟨c_,q1,aX⟩:=km (place:=fun i=>some (i*s,s)) (ix:=parts.toList.map (·.1)) h (by simp);refine ⟨_,_,fun C=>?_,aX⟩;have q:iz P t len (ft parts.toList vs)=some (c_,s):=by
      simp only [iz,hu,ai,bo,ft];rw [if_pos ⟨bm,ba,bt⟩,q1];rfl
     simp only [a9,aD]
     first
     | (rw [q];rfl)
     | (split
        ·exact absurd rfl hm
        ·rw [q];rfl)
    ·exact h
   ·exact h
  ·exact h
 case nilCheck x =>
  simp only [bP] at h;split at h
  ·exact pure (fun C=>by simp only [a9,aD]) (by simp only [cA,aD,nU]) h
  ·exact pure (fun C=>by simp only [a9,aD]) (by simp only [cA,aD,nU]) h
  ·exact h.elim
 case binOp op t x y iq =>
  have aq:∀ C,a9 P C lo o mode vs H=(cA P o vs).map (·,H):=fun C=>by simp only [a9,aD]
  split at h
  ·rename_i aN hu;simp only [bP] at h;split at h
   ·split at h
    ·rename_i av;obtain ⟨v,ad,af⟩:=BC (P:=P) (t:=t) (E0 av) h;exact pure aq (by simp only [cA,aD,aN,f',ad]) af
    ·exact h.elim
   ·exact h.elim
  ·rename_i aN hu;split at h
   ·simp only [bP] at h;split at h
    ·exact pure aq (by simp only [cA,aD,aN,f',fi,hu]) h
    ·exact h.elim
   ·simp only [bP] at h;split at h
    ·exact pure aq (by simp only [cA,aD,aN,f',fi,hu]) h
    ·exact h.elim
   ·exact h
  ·exact h
 case unOp op t x =>
  have aq:∀ C,a9 P C lo o mode vs H=(cA P o vs).map (·,H):=fun C=>by simp only [a9,aD]
  simp only [bP] at h;split at h
  ·split at h
   ·exact pure aq (by simp only [cA,aD,eY,kf]) h
   ·exact h.elim
  ·split at h
   ·exact pure aq (by simp only [cA,aD,eY,kf]) h
   ·exact h.elim
  ·exact h.elim
 case convert s d x =>
  have aq:∀ C,a9 P C lo o mode vs H=(cA P o vs).map (·,H):=fun C=>by simp only [a9,aD]
  split at h
  ·rename_i ad af;simp only [bP] at h;split at h
   ·exact pure aq (by simp only [cA,aD,eY,lr,ad,af]) h
   ·exact h.elim
  ·exact h
 case makeFunc fn first captured =>
  have aq:∀ C,a9 P C lo o mode vs H=(cA P o vs).map (·,H):=fun C=>by simp only [a9,aD]
  split at h
  ·simp only [bP] at h;split at h
   ·rename_i ad;exact pure aq (by simp only [cA,aD,mD];rw [if_pos (sW ad)]) h
   ·exact h.elim
  ·exact h
 case slice t x l bK m =>
  have aq:∀ C,a9 P C lo o mode vs H=(cA P o vs).map (·,H):=fun C=>by simp only [a9,aD]
  split at h
  ·rename_i e hu;split at h
   ·rename_i s ai;simp only [bP] at h;split at h
    ·obtain ⟨r,ad,af⟩:=Et hu ai h;exact pure aq (by simp only [cA,aD,ad]) af
    ·exact h.elim
   ·exact h
  ·exact h
 case fieldAddr t x f =>
  have aq:∀ C,a9 P C lo o mode vs H=(cA P o vs).map (·,H):=fun C=>by simp only [a9,aD]
  split at h
  ·rename_i bG hu;split at h
   ·rename_i s off aQ;simp only [sb,rU,Prod.mk.injEq] at aQ;obtain ⟨g,aO,aF,ai,rfl,rfl⟩:=aQ;simp only [bP] at h;split at h
    ·unfold Ad at h;split at h
     ·exact pure aq (by simp [cA,aD,eY,jr,hu,aO,ai]) h
     ·exact pure aq (by simp [cA,aD,eY,jr,hu,aO,ai]) h
     ·exact h.elim
    ·exact h.elim
   ·exact h
  ·exact h
 case field t x f =>
  have aq:∀ C,a9 P C lo o mode vs H=(cA P o vs).map (·,H):=fun C=>by simp only [a9,aD]
  split at h
  ·rename_i bG hu;split at h
   ·rename_i a off aQ;simp only [sb,rU,Prod.mk.injEq] at aQ;obtain ⟨g,aO,aM,cg,rfl,rfl⟩:=aQ;simp only [bP] at h;split at h
    ·obtain ⟨v,ad,af⟩:=Eb cg h;exact pure aq (by simp only [cA,aD,eY,m0,hu,aO,rW,ad,sc]) af
    ·exact h.elim
   ·exact h
  ·exact h
 case indexAddr t x i =>
  have aq:∀ C,a9 P C lo o mode vs H=(cA P o vs).map (·,H):=fun C=>by simp only [a9,aD]
  split at h
  ·rename_i e hu;split at h
   ·rename_i s ai;simp only [bP] at h;split at h
    ·unfold Ae at h;split at h
     ·split at h
      ·exact pure aq (by simp [cA,aD,f',hV,hu,ai,gS,h.1]) h.2
      ·exact pure aq (by simp [cA,aD,f',hV,hu,ai,gS,h.1]) h.2
      ·exact h.elim
     ·exact h.elim
    ·exact h.elim
   ·exact h
  ·rename_i len e hu;split at h
   ·rename_i s ai;simp only [bP] at h;split at h
    ·unfold Af at h;split at h
     ·split at h
      ·exact pure aq (by simp [cA,aD,f',hV,hu,ai,gS,h.1]) h.2
      ·exact pure aq (by simp [cA,aD,f',hV,hu,ai,gS,h.1]) h.2
      ·exact h.elim
     ·exact h.elim
    ·exact h.elim
   ·exact h
  ·exact h
 case extract x i =>
  have aq:∀ C,a9 P C lo o mode vs H=(cA P o vs).map (·,H):=fun C=>by simp only [a9,aD]
  simp only [bP] at h;split at h
  ·obtain ⟨v,ae,h⟩:=fe h;rw [kc] at h;exact pure aq (by simp only [cA,aD,eY,mZ,ae,sc]) h
  ·exact h.elim
end
end Go.Proofs.YtfakoboiahbhaaaGreat.Ab


namespace Go.Proofs.YtfakoboiahbhaaaGreat.Ab
open Go
noncomputable section
def ou (P:Program) (mode lo:Nat) (b2:e5) (args:List I) (H:List au) (v:I) (H':List au):Prop:=∃ C,da P C∧eU C lo mode b2 args H=some (v,H')
def lA:List I→List I→(List I→Prop)→Prop
 | [],l,K=>K l
 | h::t,l,K=>lA t l fun r=>K (h::r)
theorem lB:∀ (a b:List I) (K:List I→Prop),lA a b K=K (a++b)
 | [],b,K=>rfl
 | h::t,b,K=>by rw [lA,lB t b];rfl
def yh (v:I) (K:I→Prop):Prop:=match v with
 | .ay c n .full=>K (.ay c n .shared)
 | .agg cs=>K (.agg (cs.map I.gU))
 | .tuple cs=>K (.tuple (cs.map I.gU))
 | v=>K v
theorem BR (v:I) (K:I→Prop):yh v K=K v.cu:=by
 cases v with
 | ay c n k=>cases k <;> rfl
 | _=>rfl
def m7:List I→(List I→Prop)→Prop
 | [],K=>K []
 | h::t,K=>yh h fun aY=>m7 t fun jd=>K (aY::jd)
theorem oK:∀ (l:List I) (K:List I→Prop),m7 l K=K (l.map I.cu)
 | [],K=>rfl
 | h::t,K=>by rw [m7,BR,oK t];rfl
def m4 (P:Program) (lo:Nat) (draw:Bool) (mode:Nat) (acc:di) (vs:List I) (H:List au) (K:di→I→List au→Prop):Prop:=match vs with
 | f::args=>match f with
   | .func k first cap=>lA args cap fun r=>lA first r fun as=>match mode with
     | 3=>as.all (ct 8)=true∧m7 as fun gu=>∃ v,lk P k gu v∧(match draw with
       | true=>(∀ p∈acc,p.1=k→p.2.1=gu→p.2.2=v)∧K ((k,gu,v)::acc) v.cu H
       | false=>K acc v.cu H)
     | 6=>match draw with
       | true=>(as.map (im H)).all (ct 8)=true∧∃ gu,(as.map (im H)).map I.cu=gu∧∃ v,gg v=true∧lk P k gu v∧(∀ p∈acc,p.1=k→p.2.1=gu→p.2.2=v)∧K ((k,gu,v)::acc) v.cu H
       | false=>∃ v H',ou P 6 lo (.fn k) as H v H'∧K acc v H'
     | mode=>match draw with
       | true=>False
       | false=>∃ v H',ou P mode lo (.fn k) as H v H'∧K acc v H'
   | .yield l=>match draw with
     | true=>False
     | false=>∃ v H',ou P mode lo (.yield l) args H v H'∧K acc v H'
   | _=>False
 | []=>False
def k3 (P:Program) (lo:Nat) (draw:Bool) (k:hU) (acc:di) (vs:List I) (H:List au) (K:di→I→List au→Prop):Prop:=match k with
 | .call mode=>m4 P lo draw mode acc vs H K
 | k=>bP P lo k vs H (K acc)
def nF (ip:Option Nat) (T:List I) (v:I) (K:List I→Prop):Prop:=match ip with
 | none=>K T
 | some t=>kb v fun v=>ja T t v K
def oX (g:Option (Nat×Bool)) (T:List I) (skip run:Prop):Prop:=match g with
 | none=>run
 | some (t,want)=>hr T t fun v=>match v with
   | .bool b=>(match want with
     | true=>(match b with | true=>run | false=>skip)
     | false=>(match b with | true=>skip | false=>run))
   | .tuple []=>skip
   | _=>False
def hN (P:Program) (lo:Nat) (draw:Bool) (cR:cz) (acc:di) (T:List I) (H:List au) (K:di→List I→List au→Prop):Prop :=
 oX cR.guard T (mH T cR.dst (.tuple []) fun a8=>K acc a8 H) (gf cR.FB T fun vs fh=>k3 P lo draw cR.k acc vs H fun dx v H'=>lT v fun v=>nF cR.ip fh v fun dR=>mH dR cR.dst v fun dD=>K dx dD H')
def gH (P:Program) (lo:Nat) (draw:Bool):List cz→di→List I→List au→(List I→List au→Prop)→Prop
 | [],_,T,H,K=>K T H
 | cR::r,acc,T,H,K=>hN P lo draw cR acc T H fun dx a8 H'=>match draw with
   | true=>gH P lo draw r dx a8 H' K
   | false=>gH P lo draw r [] a8 H' K
def xp (P:Program) (lo:Nat) (a b:cz) (post:List cz):List cz→di→List I→List au→(List I→List au→Prop)→Prop
 | [],acc,T,H,K=>gH P lo true (a::b::post) acc T H K∧gH P lo true (b::a::post) acc T H K
 | cR::r,acc,T,H,K=>hN P lo true cR acc T H fun dx a8 H'=>xp P lo a b post r dx a8 H' K
def zE (it:Nat) (dst:Option Nat) (T:List I) (H:List au) (K:List I→List au→Prop):Prop:=hr T it fun v=>match v with
 | .ptr r 0=>∃ m since seen clock es,H[r]?=some (.iter m since seen clock)∧H[m]?=some (.map es clock)∧since≤clock∧(∀ e∈es,e.1<since) ∧
   ((∀ e∈es,e.1∈seen)→mH T dst (.tuple [.bool false]) fun a8=>K a8 H) ∧
   ∀ e∈es,e.1 ∉ seen→mH T dst (.tuple [.bool true,e.2.1,e.2.2]) fun a8=>K a8 (H.set r (.iter m since (seen++[e.1]) clock))
 | _=>False
inductive Bl (f:List I→List au→(cD→List I→List au→Prop)→Prop) (T:List I) (H:List au) (Q:cD→List I→List au→Prop):Prop where
 | intro (hS:Nat→List I→List au→Prop) (m:Nat) (aT:hS m T H) (step:∀ m T H,hS m T H→f T H fun e a8 H'=>match e with
   | .normal=>∃ g7,g7<m∧hS g7 a8 H'
   | e=>Q e a8 H')
def pV (k:Option (List Bool)) (T:List I) (K:List I→Prop):Prop:=match k with
 | some k=>kI k T K
 | none=>K T
theorem Dk (k:Option (List Bool)) (T:List I) (K:List I→Prop):pV k T K=K (match k with | some k=>eS k T | none=>T):=by
 cases k with
 | none=>rfl
 | some k=>exact y_ k T K
def nR:List I→(List I→Prop)→Prop
 | [],K=>K []
 | h::t,K=>nR t fun jd=>K (h::jd)
theorem zB:∀ (T:List I) (K:List I→Prop),nR T K=K T
 | [],K=>rfl
 | h::t,K=>by rw [nR,zB t]
def n6 (P:Program) (A:c9) (fn:FuncId) (lo:Nat) (rl:Option Nat) (f:I) (bj:List Nat) (as b0:Code) (T:List I) (H:List au) (Q:cD→List I→List au→Prop):Prop:=match f with
 | .func k first cap=>inLoop H rl=true∧∃ r H' st cH fn' a8 zO gu x8 iC,Sem P (.fn k) (first++[.yield H.length]++cap) (H++[.loop .ready none fn (T.map I.view) bj as b0 A]) lo r H' ∧
   H'[H.length]?=some (.loop st cH fn' a8 zO gu x8 iC)∧st≠.busy∧(match cH with
    | none=>Q .normal (T.map I.settle) (H'.set H.length .dead)
    | some .ret=>Q .ret (T.map I.settle) (H'.set H.length .dead)
    | some (.exit id)=>Q (.exit id) (T.map I.settle) (H'.set H.length .dead)
    | _=>False)
 | _=>False
def dC (P:Program) (A:c9) (fn:FuncId) (lo:Nat) (rl:Option Nat):ez→List I→List au→(cD→List I→List au→Prop)→Prop
 | .skip,T,H,Q=>Q .normal T H
 | .j3 draw l,T,H,Q=>gH P lo draw l [] T H (Q .normal)
 | .seq a b,T,H,Q=>dC P A fn lo rl a T H fun e a8 H'=>match e with
   | .normal=>dC P A fn lo rl b a8 H' Q
   | e=>Q e a8 H'
 | .cond c a b,T,H,Q=>match c with
   | .sl t=>hr T t fun v=>(match v with
     | .bool x=>(match x with | true=>dC P A fn lo rl a T H Q | false=>dC P A fn lo rl b T H Q)
     | .dq=>dC P A fn lo rl a T H Q∧dC P A fn lo rl b T H Q
     | _=>False)
   | .iD v=>(match v with
     | .bool x=>(match x with | true=>dC P A fn lo rl a T H Q | false=>dC P A fn lo rl b T H Q)
     | .dq=>dC P A fn lo rl a T H Q∧dC P A fn lo rl b T H Q
     | _=>False)
   | _=>False
 | .block id c,T,H,Q=>dC P A fn lo rl c T H fun e a8 H'=>match e with
   | .exit bA=>(match Nat.beq bA id with | true=>Q .normal a8 H' | false=>Q (.exit bA) a8 H')
   | e=>Q e a8 H'
 | .loop cF c,T,H,Q=>pV cF T fun T=>Bl (fun T H Q=>nR T fun T=>dC P A fn lo rl c T H fun e a8 H'=>match e with
   | .normal=>pV cF a8 fun a8=>Q .normal a8 H'
   | e=>Q e a8 H') T H Q
 | .exit id,T,H,Q=>Q (.exit id) T H
 | .ret,T,H,Q=>Q .ret T H
 | .Ao f bj as b0,T,H,Q=>match f with
   | .sl t=>hr T t fun v=>n6 P A fn lo rl v bj as b0 T H Q
   | .iD v=>n6 P A fn lo rl v bj as b0 T H Q
   | _=>False
 | .zD it dst l,T,H,Q=>zE it dst T H fun a8 H'=>gH P lo false l [] a8 H' (Q .normal)
 | .two pre a b post,T,H,Q=>xp P lo a b post pre [] T H (Q .normal)
def mi (o:Oper) (mode:Nat):Option Nat:=match mode with
 | 0=>none
 | 4=>none
 | _=>match o.op with
   | .move (.tmp t) | .assign (.tmp t)=>some t
   | _=>none
def k2 (P:Program) (ops:Array Oper) (o:Oper) (an:b7):Option cz:=match o.guard with
 | none=>some ⟨o.dst,hF (dO o) an.takes (opsOf o),none,mi o an.mode,hf P o an.mode⟩
 | some (j,want)=>match (ops[j]?).bind (·.dst) with
   | some d=>some ⟨o.dst,hF (dO o) an.takes (opsOf o),some (d,want),mi o an.mode,hf P o an.mode⟩
   | none=>none
def g6 (P:Program) (ops:Array Oper):List Oper→List b7→Option (List cz)
 | [],_=>some []
 | o::r,as=>match k2 P ops o (as.headD {}),g6 P ops r as.tail with
   | some cR,some l=>some (cR::l)
   | _,_=>none
def xa (P:Program) (ops:Array Oper) (draw:Bool) (as:List b7):Option ez:=match draw,ops.toList with
 | false,o::rest=>(match o.op,o.guard with
   | .next (.tmp it) false,none=>(g6 P ops rest as.tail).map (.zD it o.dst)
   | _,_=>(g6 P ops (o::rest) as).map (.j3 false))
 | d,l=>(g6 P ops l as).map (.j3 d)
def fc (P:Program) (ops:Array Oper) (an:List b7):List Nat→Option (List cz)
 | []=>some []
 | i::r=>match ops[i]? with
   | some o=>match k2 P ops o (an.getD i {}),fc P ops an r with
     | some cR,some l=>some (cR::l)
     | _,_=>none
   | none=>none
def nS (cR:cz):Bool:=match cR.k with | .call _=>false | _=>true
def nJ (P:Program) (ops:Array Oper) (an:List b7) (p:Nat):Option ez :=
 match fc P ops an (List.range p),fc P ops an [p],fc P ops an [p+1],fc P ops an (List.range' (p+2) (ops.size-(p+2))) with
 | some pre,some [a],some [b],some post=>match (a::b::post).all nS with
   | true=>some (.two pre a b post)
   | false=>none
 | _,_,_,_=>none
def n2 (x:Operand):iw:=match x with
 | .tmp t=>.sl t
 | x=>.iD (aA [] x)
def dT (P:Program) (A:c9):Code→Nat→Option ez
 | .skip,_=>some .skip
 | .region id ops draw,_=>match A.h' with
   | []=>match j' A id draw with
     | some p=>nJ P ops (A.ops.getD id []) p
     | none=>xa P ops draw (A.ops.getD id [])
   | _=>none
 | .seq a b,aZ=>match dT P A a aZ,dT P A b aZ with
   | some x,some y=>some (.seq x y)
   | _,_=>none
 | .cond c a b,aZ=>match dT P A a aZ,dT P A b aZ with
   | some x,some y=>some (.cond (n2 c) x y)
   | _,_=>none
 | .block id c,_=>(dT P A c id).map (.block id)
 | .loop c,aZ=>(dT P A c aZ).map (.loop (lJ aZ A.h_))
 | .exit id,_=>some (.exit id)
 | .ret,_=>some .ret
 | .scope c,aZ=>dT P A c aZ
 | .label _,_=>some .skip
 | .rangeFunc f bj as b0,_=>some (.Ao (n2 f) bj.toList as b0)
 | _,_=>none
end
section
variable {P:Program}
theorem y6 (o:Oper) (mode:Nat) (T:List I) (v:I) (K:List I→Prop):nF (mi o mode) T v K=K (inPlace o mode T v):=by
 by_cases aT:mode=0
 ·subst aT;rfl
 by_cases a7:mode=4
 ·subst a7;rfl
 have e1:mi o mode=(match o.op with | .move (.tmp t) | .assign (.tmp t)=>some t | _=>none):=by
  unfold mi;split
  ·exact absurd rfl aT
  ·exact absurd rfl a7
  ·rfl
 have cm:inPlace o mode T v=(match o.op with | .move (.tmp t) | .assign (.tmp t)=>gK T t v.view | _=>T):=by
  unfold inPlace;split
  ·exact absurd rfl aT
  ·exact absurd rfl a7
  ·rfl
 rw [e1,cm];cases o.op <;> try rfl
 case move x=>cases x <;> first | rfl | (simp only [nF,kc,j7])
 case assign x=>cases x <;> first | rfl | (simp only [nF,kc,j7])
theorem Bd {lo:Nat} {draw:Bool} {ops:Array Oper} {o:Oper} {an:b7} {cR:cz} (aj:k2 P ops o an=some cR) {acc:di} {T:List I} {H:List au} {K:di→List I→List au→Prop}
  (h:hN P lo draw cR acc T H K) :
  (ev ops o T=some false∧K acc (put T o.dst (.tuple [])) H) ∨
  (ev ops o T=some true∧k3 P lo draw (hf P o an.mode) acc (fq (dO o) (rd T an.takes (opsOf o)).1) H fun dx v H'=>K dx (put (inPlace o an.mode (rd T an.takes (opsOf o)).2 v) o.dst v) H'):=by
 unfold k2 at aj;split at aj
 ·rename_i aO;cases aj;simp only [hN,oX,i_,nk,y6,xk] at h;exact .inr ⟨by simp [ev,aO],h⟩
 ·rename_i j want aO;split at aj
  ·rename_i d a0;cases aj;simp only [hN,oX,i_,nk,y6,xk,iF] at h;(have hw:∀ b,c6 T d=.bool b→ev ops o T=some (b == want):=fun b ag=>by simp [ev,aO,a0,ag]);split at h
   ·rename_i b ag;have hw:=hw b ag;cases want <;> cases b <;> simp only at h
    ·exact .inr ⟨hw,h⟩
    ·exact .inl ⟨hw,h⟩
    ·exact .inl ⟨hw,h⟩
    ·exact .inr ⟨hw,h⟩
   ·rename_i ag;exact .inl ⟨by simp [ev,aO,a0,ag],h⟩
   ·exact h.elim
  ·cases aj
theorem jc {C:b8} {lo:Nat} {ops:Array Oper} {o:Oper} {an:b7} {T:List I} {H:List au} {v:I} {H':List au} (hw:ev ops o T=some true)
  (h:a9 P C lo o an.mode (fq (dO o) (rd T an.takes (opsOf o)).1) H=some (v,H')):du P C lo ops o an ⟨T,H⟩=some ⟨put (inPlace o an.mode (rd T an.takes (opsOf o)).2 v) o.dst v,H'⟩:=by
 simp only [du,hw,Ab.execOp];unfold fq at h;cases ak:dO o <;> rw [ak] at h <;> simp only at h ⊢ <;> rw [h] <;> rfl
theorem A2 {C:b8} {lo:Nat} {ops:Array Oper} {o:Oper} {an:b7} {T:List I} {H:List au} (hw:ev ops o T=some false):du P C lo ops o an ⟨T,H⟩=some ⟨put T o.dst (.tuple []),H⟩:=by
 simp only [du,hw]
theorem z9 {o:Oper} {mode zA:Nat} (h:hf P o mode=.call zA):zA=mode∧∃ c f,o.op=.call c∧c.callee=.value f:=by
 cases aD:o.op
 case call c =>
  simp only [hf,aD] at h;cases ao:c.callee with
  | value f=>simp only [ao] at h;cases h;exact ⟨rfl,c,f,rfl,ao⟩
  | invoke x n=>simp only [ao] at h;cases h
  | builtin b =>
    simp only [ao] at h;repeat' (first | contradiction | split at h)
 all_goals simp only [hf,aD] at h
 all_goals (try unfold n3 at h)
 all_goals (repeat' (first | contradiction | split at h))
theorem z' {lo:Nat} {draw:Bool} {k:hU} {acc:di} {vs:List I} {H:List au} {K:di→I→List au→Prop} (h:k3 P lo draw k acc vs H K) :
  (∃ mode,k=.call mode∧m4 P lo draw mode acc vs H K)∨bP P lo k vs H (K acc):=by
 unfold k3 at h;split at h
 ·exact .inl ⟨_,rfl,h⟩
 ·exact .inr h
theorem mC {C:b8} {lo mode:Nat} {k:FuncId} {first cap args:List I} {H:List au}:hB C lo mode H (.func k first cap::args)=eU C lo mode (.fn k) (first++args++cap) H:=rfl
theorem zQ {C:b8} {acc:di} (ck:hP C acc) {lo:Nat} {k:FuncId} {as:List I} {v:I} (aC:as.all (ct 8)=true) (hm:(k,as.map I.cu,v)∈acc) (H:List au) :
  eU C lo 3 (.fn k) as H=some (v.cu,H):=by
 obtain ⟨r,a3,ad,af⟩:=ck _ hm;simp only [eU,aC,ad,rW,af,sc]
theorem Ec {C:b8} {acc:di} (ck:hP C acc) {lo:Nat} {k:FuncId} {as:List I} {v:I} (H:List au) (aC:(as.map (im H)).all (ct 8)=true) (ai:gg v=true) (hm:(k,(as.map (im H)).map I.cu,v)∈acc) :
  eU C lo 6 (.fn k) as H=some (v.cu,H):=by
 obtain ⟨r,a3,ad,af⟩:=ck _ hm;simp only [eU,aC,ad,rW,af,ai]
theorem xX {lo:Nat} {ops:Array Oper} {o:Oper} {an:b7} {cR:cz} (aj:k2 P ops o an=some cR) {acc:di} (ht:hn P acc) {T:List I} {H:List au} {K:di→List I→List au→Prop}
  (h:hN P lo true cR acc T H K):∃ dx a8 H',hn P dx∧(∀ p∈acc,p∈dx)∧(∀ C,hP C dx→du P C lo ops o an ⟨T,H⟩=some ⟨a8,H'⟩)∧K dx a8 H':=by
 rcases Bd aj h with ⟨hw,av⟩ | ⟨hw,av⟩
 ·exact ⟨acc,_,_,ht,fun _ h=>h,fun C _=>A2 hw,av⟩
 ·rcases z' av with ⟨mode,hm,av⟩ | av
  ·obtain ⟨rfl,c,f,aD,ao⟩:=z9 hm;generalize h9:fq (dO o) (rd T an.takes (opsOf o)).1=vs at av;(have aq:∀ C,a9 P C lo o an.mode vs H=hB C lo an.mode H vs:=fun C=>by simp only [a9,aD,ao]);unfold m4 at av;split at av
   ·split at av
    ·(rename_i args _ k first cap);rw [lB,lB] at av;split at av
     ·rename_i jI;obtain ⟨aC,av⟩:=av;rw [oK] at av;obtain ⟨v,l7,lS,av⟩:=av;refine ⟨_,_,_,⟨fun p aC=>?_,fun p aC q a4 ad af=>?_⟩,fun p aC=>tP _ aC,fun C ck=>jc hw ?_,av⟩
      ·rcases sf.1 aC with rfl | aC
       ·exact l7
       ·exact ht.1 p aC
      ·rcases sf.1 aC with rfl | aC <;> rcases sf.1 a4 with rfl | a4
       ·rfl
       ·exact (lS q a4 ad.symm af.symm).symm
       ·exact lS p aC ad af
       ·exact ht.2 p aC q a4 ad af
      ·rw [h9,aq C,jI,mC,sy];exact zQ ck aC (ui) H
     ·rename_i jI;obtain ⟨aC,gu,rfl,v,ai,l7,lS,av⟩:=av;refine ⟨_,_,_,⟨fun p aC=>?_,fun p aC q a4 ad af=>?_⟩,fun p aC=>tP _ aC,fun C ck=>jc hw ?_,av⟩
      ·rcases sf.1 aC with rfl | aC
       ·exact l7
       ·exact ht.1 p aC
      ·rcases sf.1 aC with rfl | aC <;> rcases sf.1 a4 with rfl | a4
       ·rfl
       ·exact (lS q a4 ad.symm af.symm).symm
       ·exact lS p aC ad af
       ·exact ht.2 p aC q a4 ad af
      ·rw [h9,aq C,jI,mC,sy];exact Ec ck H aC ai (ui)
     ·exact av.elim
    ·exact av.elim
    ·exact av.elim
   ·exact av.elim
  ·obtain ⟨v,H',ad,af⟩:=z_ av;exact ⟨acc,_,_,ht,fun _ h=>h,fun C _=>jc hw (ad C),af⟩
theorem FR {lo:Nat} {ops:Array Oper} {o:Oper} {an:b7} {cR:cz} (aj:k2 P ops o an=some cR) {acc:di} {T:List I} {H:List au} {K:di→List I→List au→Prop}
  (h:hN P lo false cR acc T H K):iy P lo ops o an ⟨T,H⟩ fun aF=>K acc aF.T aF.H:=by
 rcases Bd aj h with ⟨hw,av⟩ | ⟨hw,av⟩
 ·exact .inl ⟨_,_,yf,A2 hw,av⟩
 ·rcases z' av with ⟨mode,hm,av⟩ | av
  ·obtain ⟨rfl,c,f,aD,ao⟩:=z9 hm;generalize h9:fq (dO o) (rd T an.takes (opsOf o)).1=vs at av;(have aq:∀ C,a9 P C lo o an.mode vs H=hB C lo an.mode H vs:=fun C=>by simp only [a9,aD,ao]);unfold m4 at av;split at av
   ·split at av
    ·(rename_i args _ k first cap);rw [lB,lB] at av;split at av
     ·rename_i jI;obtain ⟨aC,av⟩:=av;rw [oK] at av;obtain ⟨v,l7,av⟩:=av
      obtain ⟨C,bw,ck⟩:=oB (acc:=[(k,(first++(args++cap)).map I.cu,v)]) (P:=P) ⟨fun p aC=>by simp only [sI] at aC;subst aC;exact l7,fun p aC q a4 _ _=>by
       simp only [sI] at aC a4;subst aC;subst a4;rfl⟩
      refine .inl ⟨C,_,bw,jc hw (v:=v.cu) (H':=H) ?_,av⟩;rw [h9,aq C,jI,mC,sy];exact zQ ck aC (ui) H
     ·rename_i jI;obtain ⟨v,H',⟨C,bw,e8⟩,av⟩:=av;refine .inl ⟨C,_,bw,jc hw (v:=v) (H':=H') ?_,av⟩;rw [h9,aq C,jI,mC,sy];exact e8
     ·obtain ⟨v,H',⟨C,bw,e8⟩,av⟩:=av;refine .inl ⟨C,_,bw,jc hw (v:=v) (H':=H') ?_,av⟩;rw [h9,aq C,mC,sy];exact e8
    ·obtain ⟨v,H',⟨C,bw,e8⟩,av⟩:=av;refine .inl ⟨C,_,bw,jc hw (v:=v) (H':=H') ?_,av⟩;rw [h9,aq C];exact e8
    ·exact av.elim
   ·exact av.elim
  ·obtain ⟨v,H',ad,af⟩:=z_ av;exact .inl ⟨_,_,yf,jc hw (ad _),af⟩
end
end Go.Proofs.YtfakoboiahbhaaaGreat.Ab


namespace Go.Proofs.YtfakoboiahbhaaaGreat.Ab
open Go
section
variable {P:Program}
theorem iy.mono {lo:Nat} {ops:Array Oper} {o:Oper} {an:b7} {s:a6} {K K':a6→Prop} (h:iy P lo ops o an s K) (av:∀ s,K s→K' s):iy P lo ops o an s K':=by
 rcases h with ⟨C,aF,ad,af,aG⟩ | ⟨it,r,m,since,seen,es,clock,aB,aH,aR,bl,bc,bg,c2,db,dE⟩
 ·exact .inl ⟨C,aF,ad,af,av _ aG⟩
 ·exact .inr ⟨it,r,m,since,seen,es,clock,aB,aH,aR,bl,bc,bg,c2,fun h=>av _ (db h),fun e ad af=>av _ (dE e ad af)⟩
theorem At {lo:Nat} {ops:Array Oper} {K K':a6→Prop} (av:∀ s,K s→K' s):∀ {l:List Oper} {as:List b7} {s:a6},runN P lo ops l as s K→runN P lo ops l as s K'
 | [],_,s,h=>av s h
 | _::_,_,_,h=>iy.mono h fun _ aY=>At av aY
theorem zi {f g:a6→(cD→a6→Prop)→Prop} (kt:∀ s Q cI,(∀ e s,Q e s→cI e s)→f s Q→g s cI) {Q cI:cD→a6→Prop} (a4:∀ e s,Q e s→cI e s):∀ {n:Nat} {s:a6},fv f n s Q→fv g n s cI
 | 0,s,h=>h
 | n+1,s,h=>kt s _ _ (fun e aF aY=>by
   cases e with
   | normal=>exact zi kt a4 aY
   | ret=>exact a4 _ _ aY
   | exit id=>exact a4 _ _ aY) h
theorem lb {A:c9} {fn:FuncId} {lo:Nat} {rl:Option Nat}:∀ {c:Code} {aZ:Nat} {s:a6} {Q cI:cD→a6→Prop},(∀ e s,Q e s→cI e s)→c4 P A fn lo rl c aZ s Q→c4 P A fn lo rl c aZ s cI:=by
 intro c
 induction c with
 | skip=>intro aZ s Q cI a4 h;exact a4 _ _ h
 | label l=>intro aZ s Q cI a4 h;exact a4 _ _ h
 | ret=>intro aZ s Q cI a4 h;exact a4 _ _ h
 | exit id=>intro aZ s Q cI a4 h;exact a4 _ _ h
 | goto l=>intro aZ s Q cI a4 h;exact h
 | refuse y=>intro aZ s Q cI a4 h;exact h
 | region id ops draw =>
   intro aZ s Q cI a4 h;simp only [c4] at h ⊢;split at h
   ·obtain ⟨acc,s1,s2,ad,af,aG,a7⟩:=h;exact ⟨acc,s1,s2,ad,af,a4 _ _ aG,a4 _ _ a7⟩
   cases draw with
   | true=>obtain ⟨acc,aF,ad,af,aG⟩:=h;exact ⟨acc,aF,ad,af,a4 _ _ aG⟩
   | false=>exact At (fun s h=>a4 _ _ h) h
 | seq a b fa fp =>
   intro aZ s Q cI a4 h;refine fa (fun e aF aY=>?_) h;cases e with
   | normal=>exact fp a4 aY
   | ret=>exact a4 _ _ aY
   | exit id=>exact a4 _ _ aY
 | cond c a b fa fp =>
   intro aZ s Q cI a4 h;rcases h with ⟨t,ax,h⟩ | ⟨ax,ad,af⟩
   ·refine .inl ⟨t,ax,?_⟩;cases t with
    | true=>exact fa a4 h
    | false=>exact fp a4 h
   ·exact .inr ⟨ax,fa a4 ad,fp a4 af⟩
 | block id c a' =>
   intro aZ s Q cI a4 h;refine a' (fun e aF aY=>?_) h;cases e with
   | normal=>exact a4 _ _ aY
   | ret=>exact a4 _ _ aY
   | exit bA =>
     simp only at aY ⊢;by_cases aE:bA=id
     ·simp only [aE,if_true] at aY ⊢;exact a4 _ _ aY
     ·simp only [aE,if_false] at aY ⊢;exact a4 _ _ aY
 | loop c a' =>
   intro aZ s Q cI a4 h;obtain ⟨n,h⟩:=h;refine ⟨n,?_⟩;refine zi ?_ a4 h;intro s Q cI a4 h;exact a' a4 h
 | scope c a'=>intro aZ s Q cI a4 h;exact a' a4 h
 | rangeFunc f bj as b0 _ _ =>
   intro aZ s Q cI a4 h;obtain ⟨C,e,aF,ad,af,aG⟩:=h;exact ⟨C,e,aF,ad,af,a4 _ _ aG⟩
theorem n1 {lo:Nat} {ops:Array Oper}:∀ {l:List Oper} {as:List b7} {rl:List cz} {acc:di} {T:List I} {H:List au} {K:List I→List au→Prop},g6 P ops l as=some rl→gH P lo false rl acc T H K →
  runN P lo ops l as ⟨T,H⟩ fun aF=>K aF.T aF.H
 | [],as,rl,acc,T,H,K,ak,h=>by simp only [g6,Option.some.injEq] at ak;subst ak;exact h
 | o::r,as,rl,acc,T,H,K,ak,h=>by
   simp only [g6] at ak;split at ak
   ·rename_i cR l' ad af;simp only [Option.some.injEq] at ak;subst ak;exact iy.mono (FR ad h) fun aF aY=>n1 af aY
   ·cases ak
theorem BW {C:b8} {lo:Nat} {ops:Array Oper} {o:Oper} {r:List Oper} {as:List b7} {s:a6}:eI P C lo ops (o::r) as s=(du P C lo ops o (as.headD {}) s).bind (eI P C lo ops r as.tail):=by
 rw [eI];unfold du;cases hw:ev ops o s.T with
 | none=>rfl
 | some b=>cases b <;> rfl
theorem z0 {lo:Nat} {ops:Array Oper}:∀ {l:List Oper} {as:List b7} {rl:List cz} {acc:di} {T:List I} {H:List au} {K:List I→List au→Prop},g6 P ops l as=some rl→hn P acc→gH P lo true rl acc T H K →
  ∃ dx a8 H',hn P dx∧(∀ p∈acc,p∈dx)∧(∀ C,hP C dx→eI P C lo ops l as ⟨T,H⟩=some ⟨a8,H'⟩)∧K a8 H'
 | [],as,rl,acc,T,H,K,ak,cg,h=>by simp only [g6,Option.some.injEq] at ak;subst ak;exact ⟨acc,T,H,cg,fun _ h=>h,fun _ _=>rfl,h⟩
 | o::r,as,rl,acc,T,H,K,ak,cg,h=>by
   simp only [g6] at ak;split at ak
   ·rename_i cR l' ad af;simp only [Option.some.injEq] at ak;subst ak;obtain ⟨x3,fh,H1,aB,aH,aR,bl⟩:=xX ad cg h;obtain ⟨oA,dR,a3,bq,cK,eA,jt⟩:=z0 af aB bl;refine ⟨oA,dR,a3,bq,fun p aC=>cK p (aH p aC),fun C ck=>?_,jt⟩;rw [BW,aR C (fun p aC=>ck p (cK p aC)),rW];exact eA C ck
   ·cases ak
theorem n7 {C:b8} {lo:Nat} {ops:Array Oper} {an:List b7}:∀ (a b:List Nat) (s:a6),cy P C lo ops an (a++b) s=(cy P C lo ops an a s).bind (cy P C lo ops an b)
 | [],b,s=>rfl
 | i::a,b,s=>by
   rw [List.cons_append];simp only [cy];cases ops[i]? with
   | none=>exact n7 a b s
   | some o =>
     dsimp only;cases du P C lo ops o (an.getD i {}) s with
     | none=>rfl
     | some s1=>exact n7 a b s1
theorem FT {lo:Nat} {cR:cz} (aN:nS cR=true) {acc:di} {T:List I} {H:List au} {K K':di→List I→List au→Prop} (fE:K acc=K' acc) (h:hN P lo true cR acc T H K):hN P lo true cR acc T H K':=by
 have e:∀ (vs:List I) (H:List au) (F:di→I→List au→Prop),k3 P lo true cR.k acc vs H F=bP P lo cR.k vs H (F acc):=fun vs H F=>by
  unfold nS at aN;unfold k3;split
  ·rename_i m av;rw [av] at aN;cases aN
  ·rfl
 unfold hN at h ⊢;simp only [e,fE] at h ⊢;exact h
theorem xn {lo:Nat} {ops:Array Oper} {an:List b7}:∀ {O:List Nat} {rl:List cz} {acc:di} {T:List I} {H:List au} {K:List I→List au→Prop},fc P ops an O=some rl→rl.all nS=true→hn P acc→gH P lo true rl acc T H K →
  ∃ a8 H',(∀ C,hP C acc→cy P C lo ops an O ⟨T,H⟩=some ⟨a8,H'⟩)∧K a8 H'
 | [],rl,acc,T,H,K,ak,_,cg,h=>by simp only [fc,Option.some.injEq] at ak;subst ak;exact ⟨T,H,fun _ _=>rfl,h⟩
 | i::r,rl,acc,T,H,K,ak,aN,cg,h=>by
   simp only [fc] at ak;split at ak
   ·rename_i o hi;split at ak
    ·rename_i cR l' ad af;simp only [Option.some.injEq] at ak;subst ak;simp only [sG,r_] at aN;have aY:=FT aN.1 (K':=fun dx a8 H'=>dx=acc∧gH P lo true l' acc a8 H' K) (by funext a8 H';simp) h;obtain ⟨x3,fh,H1,_,_,aR,rfl,bl⟩:=xX ad cg aY;obtain ⟨dR,a3,eA,jt⟩:=xn af aN.2 cg bl;refine ⟨dR,a3,fun C ck=>?_,jt⟩;simp only [cy,hi];rw [aR C ck,rW];exact eA C ck
    ·cases ak
   ·cases ak
theorem z1 {lo:Nat} {ops:Array Oper} {an:List b7} {a b:cz} {post:List cz}:∀ {O:List Nat} {rl:List cz} {acc:di} {T:List I} {H:List au} {K:List I→List au→Prop},fc P ops an O=some rl→hn P acc→xp P lo a b post rl acc T H K →
  ∃ dx a8 H',hn P dx∧(∀ p∈acc,p∈dx)∧(∀ C,hP C dx→cy P C lo ops an O ⟨T,H⟩=some ⟨a8,H'⟩)∧gH P lo true (a::b::post) dx a8 H' K∧gH P lo true (b::a::post) dx a8 H' K
 | [],rl,acc,T,H,K,ak,cg,h=>by simp only [fc,Option.some.injEq] at ak;subst ak;exact ⟨acc,T,H,cg,fun _ h=>h,fun _ _=>rfl,h.1,h.2⟩
 | i::r,rl,acc,T,H,K,ak,cg,h=>by
   simp only [fc] at ak;split at ak
   ·rename_i o hi;split at ak
    ·rename_i cR l' ad af;simp only [Option.some.injEq] at ak;subst ak;obtain ⟨x3,fh,H1,aB,aH,aR,bl⟩:=xX ad cg h;obtain ⟨oA,dR,a3,bq,cK,eA,jt⟩:=z1 af aB bl;refine ⟨oA,dR,a3,bq,fun p aC=>cK p (aH p aC),fun C ck=>?_,jt⟩;simp only [cy,hi];rw [aR C (fun p aC=>ck p (cK p aC)),rW];exact eA C ck
    ·cases ak
   ·cases ak
theorem nI {ops:Array Oper} {an:List b7} {i:Nat} {r:List Nat} {a:cz} {l:List cz} (ad:fc P ops an [i]=some [a]) (af:fc P ops an r=some l):fc P ops an (i::r)=some (a::l):=by
 simp only [fc] at ad ⊢;split at ad
 ·rename_i o aq;split at ad
  ·rename_i cR l' aG a7;simp only [Option.some.injEq,List.cons.injEq] at ad a7;obtain ⟨rfl,rfl⟩:=ad;simp only [aG,af]
  ·cases ad
 ·cases ad
theorem zV {n p:Nat} (a4:p+1<n):List.range n=List.range p++(p::(p+1)::List.range' (p+2) (n-(p+2))):=by
 apply List.ext_getElem?;intro i;rw [List.getElem?_append];simp only [List.length_range];by_cases h:i<p
 ·rw [if_pos h,uN h,uN (by omega)]
 ·rw [if_neg h];obtain ⟨k,rfl⟩:∃ k,i=p+k:=⟨i-p,by omega⟩;rw [show p+k-p=k by omega]
  match k with
  | 0=>rw [uN (by omega)];rfl
  | 1=>rw [uN (by omega)];rfl
  | k+2 =>
    simp only [List.getElem?_cons_succ];by_cases af:p+(k+2)<n
    ·rw [uN af,List.getElem?_range' (by omega)];congr 1;omega
    ·rw [tO (by simp;omega),tO (by simp;omega)]
theorem FE {n p:Nat} (a4:p+1<n):fg n p (p+1)=List.range p++((p+1)::p::List.range' (p+2) (n-(p+2))):=by
 unfold fg;rw [zV a4,List.map_append];congr 1
 ·conv=>rhs;rw [←uO (List.range p)]
  refine tB fun i hi=>?_;have:=sx.1 hi;rw [if_neg (by omega),if_neg (by omega)];rfl
 ·rw [sE,sE,if_pos rfl,if_neg (by omega),if_pos rfl];congr 2;conv=>rhs;rw [←uO (List.range' _ _)]
  refine tB fun i hi=>?_;have:=List.mem_range'_1.1 hi;rw [if_neg (by omega),if_neg (by omega)];rfl
theorem Dq {A:c9} {fn:FuncId} {lo:Nat} {rl:Option Nat} {id:Nat} {ops:Array Oper} {draw:Bool} {aZ p:Nat} {rc:ez} (aK:A.h'=[]) (ax:j' A id draw=some p) (a4:p+1<ops.size) (ak:nJ P ops (A.ops.getD id []) p=some rc)
  {T:List I} {H:List au} {Q:cD→List I→List au→Prop} (h:dC P A fn lo rl rc T H Q):c4 P A fn lo rl (.region id ops draw) aZ ⟨T,H⟩ fun e s=>Q e s.T s.H:=by
 have av:eX A.h' id ⟨T,H⟩=⟨T,H⟩:=by rw [aK];rfl
 unfold nJ at ak;split at ak
 ·rename_i pre a b post ad af aG a7;split at ak
  ·rename_i aN;simp only [Option.some.injEq] at ak;subst ak;obtain ⟨acc,fh,H1,aB,_,aR,bl,bc⟩:=z1 ad ⟨fun p aC=>by simp at aC,fun p aC=>by simp at aC⟩ h;simp only [sG,r_] at aN;obtain ⟨dR,a3,bq,cK⟩:=xn (nI af (nI aG a7)) (by simp only [sG,r_];exact aN) aB bl;obtain ⟨dD,hR,ba,bm⟩:=xn (nI aG (nI af a7)) (by simp only [sG,r_];exact ⟨aN.2.1,aN.1,aN.2.2⟩) aB bc;simp only [c4,ax,av];refine ⟨acc,⟨dR,a3⟩,⟨dD,hR⟩,aB,fun C _ ck=>⟨?_,?_⟩,cK,bm⟩
   ·rw [zV a4,n7,aR C ck];exact bq C ck
   ·rw [FE a4,n7,aR C ck];exact ba C ck
  ·cases ak
 ·cases ak
theorem Dp {A:c9} {fn:FuncId} {lo:Nat} {rl:Option Nat} {id:Nat} {ops:Array Oper} {draw:Bool} {aZ:Nat} {rc:ez} (aK:A.h'=[]) (ax:j' A id draw=none) (ak:xa P ops draw (A.ops.getD id [])=some rc)
  {T:List I} {H:List au} {Q:cD→List I→List au→Prop} (h:dC P A fn lo rl rc T H Q):c4 P A fn lo rl (.region id ops draw) aZ ⟨T,H⟩ fun e s=>Q e s.T s.H:=by
 have av:eX A.h' id ⟨T,H⟩=⟨T,H⟩:=by rw [aK];rfl
 have gen:∀ {d:Bool} {l:List Oper},ops.toList=l→draw=d→(g6 P ops l (A.ops.getD id [])).map (.j3 d)=some rc→c4 P A fn lo rl (.region id ops draw) aZ ⟨T,H⟩ fun e s=>Q e s.T s.H:=fun {d l} l6 a0 e'=>by
  clear ak;simp only [rU] at e';obtain ⟨Ez,e',rfl⟩:=e';subst a0;cases draw with
  | true =>
    obtain ⟨dx,a8,H',aB,_,aR,bl⟩:=z0 e' ⟨fun p aC=>by simp at aC,fun p aC=>by simp at aC⟩ h;simp only [c4,ax];exact ⟨dx,⟨a8,H'⟩,aB,fun C _ ck=>by rw [av,l6];exact aR C ck,bl⟩
  | false =>
    simp only [c4,ax];rw [av,l6];exact n1 e' h
 unfold xa at ak;split at ak
 ·rename_i o rest l6;split at ak
  ·rename_i it aD aO;simp only [rU] at ak;obtain ⟨Ez,ak,rfl⟩:=ak;simp only [c4,ax];rw [av,l6];refine .inr ?_;simp only [dC,zE,iF] at h;split at h
   ·rename_i r aj;obtain ⟨m,since,seen,clock,es,aB,aH,aR,bl,bc,bg⟩:=h;simp only [xk] at bc bg;exact ⟨.tmp it,r,m,since,seen,es,clock,aD,aO,aj,aB,aH,aR,bl,fun h=>n1 ak (bc h),fun e ad af=>n1 ak (bg e ad af)⟩
   ·exact h.elim
  ·exact gen l6 rfl ak
 ·exact gen rfl rfl ak
theorem fv.more {f:a6→(cD→a6→Prop)→Prop} {Q:cD→a6→Prop} (aQ:∀ s Q cI,(∀ e s,Q e s→cI e s)→f s Q→f s cI):∀ {n:Nat} {s:a6},fv f n s Q→fv f (n+1) s Q
 | 0,s,h=>h.elim
 | n+1,s,h=>aQ _ _ _ (fun e aF aY=>by
    cases e with
    | normal=>exact fv.more aQ aY
    | ret=>exact aY
    | exit id=>exact aY) h
theorem Dt {f:a6→(cD→a6→Prop)→Prop} {Q:cD→a6→Prop} (hS:Nat→a6→Prop) (step:∀ m s,hS m s→f s fun e aF=>match e with | .normal=>∃ g7,g7<m∧hS g7 aF | e=>Q e aF)
  (aQ:∀ s Q cI,(∀ e s,Q e s→cI e s)→f s Q→f s cI):∀ (m:Nat) (s:a6),hS m s→fv f (m+1) s Q:=by
 intro m
 induction m using Nat.strongRecOn with
 | _ m a' =>
   intro s h;refine aQ _ _ _ (fun e aF aY=>?_) (step m s h);cases e with
   | normal =>
     obtain ⟨g7,hm,aY⟩:=aY
     have:∀ k,fv f (g7+1+k) aF Q:=fun k=>by
      induction k with
      | zero=>exact a' g7 hm aF aY
      | succ k De=>exact fv.more aQ De
     (have e:m=g7+1+(m-(g7+1)):=by omega);rw [e];exact this _
   | ret=>exact aY
   | exit id=>exact aY
theorem xb {A:c9} {fn:FuncId} {lo:Nat} {rl:Option Nat}:∀ {c:Code} {aZ:Nat} {rc:ez} {T:List I} {H:List au} {Q:cD→List I→List au→Prop},dT P A c aZ=some rc→dC P A fn lo rl rc T H Q →
  c4 P A fn lo rl c aZ ⟨T,H⟩ fun e s=>Q e s.T s.H:=by
 intro c
 induction c with
 | skip=>intro aZ rc T H Q ak h;simp only [dT,Option.some.injEq] at ak;subst ak;exact h
 | label l=>intro aZ rc T H Q ak h;simp only [dT,Option.some.injEq] at ak;subst ak;exact h
 | ret=>intro aZ rc T H Q ak h;simp only [dT,Option.some.injEq] at ak;subst ak;exact h
 | exit id=>intro aZ rc T H Q ak h;simp only [dT,Option.some.injEq] at ak;subst ak;exact h
 | goto l=>intro aZ rc T H Q ak h;simp [dT] at ak
 | refuse y=>intro aZ rc T H Q ak h;simp [dT] at ak
 | region id ops draw =>
   intro aZ rc T H Q ak h;simp only [dT] at ak;split at ak
   ·rename_i aK;split at ak
    ·rename_i p ax;by_cases a4:p+1<ops.size
     ·exact Dq aK ax a4 ak h
     ·exact absurd ak (by unfold nJ;simp only [fc,Array.getElem?_eq_none (show ops.size≤p+1 by omega)];split <;> simp_all)
    ·rename_i ax;exact Dp aK ax ak h
   ·cases ak
 | seq a b fa fp =>
   intro aZ rc T H Q ak h;simp only [dT] at ak;split at ak
   ·rename_i x y al a1;simp only [Option.some.injEq] at ak;subst ak;show c4 P A fn lo rl a aZ ⟨T,H⟩ _;refine lb (fun e s aY=>?_) (fa al h);cases e with
    | normal=>exact fp a1 aY
    | ret=>exact aY
    | exit id=>exact aY
   ·cases ak
 | cond c a b fa fp =>
   intro aZ rc T H Q ak h;simp only [dT] at ak;split at ak
   ·rename_i x y al a1;simp only [Option.some.injEq] at ak;subst ak
    have key:∀ v,aA T c=v→(match v with
      | .bool t=>(match t with | true=>dC P A fn lo rl x T H Q | false=>dC P A fn lo rl y T H Q)
      | .dq=>dC P A fn lo rl x T H Q∧dC P A fn lo rl y T H Q
      | _=>False)→c4 P A fn lo rl (.cond c a b) aZ ⟨T,H⟩ fun e s=>Q e s.T s.H:=fun v ae h=>by
     cases v with
     | bool t =>
       refine .inl ⟨t,ae,?_⟩;cases t with
       | true=>exact fa al h
       | false=>exact fp a1 h
     | dq=>exact .inr ⟨ae,fa al h.1,fp a1 h.2⟩
     | _=>exact h.elim
    cases c with
    | tmp t=>simp only [n2,dC,iF] at h;exact key _ rfl h
    | const v=>exact key (aA [] (.const v)) rfl h
    | func f=>exact key (aA [] (.func f)) rfl h
    | global g=>exact key (aA [] (.global g)) rfl h
   ·cases ak
 | block id c a' =>
   intro aZ rc T H Q ak h;simp only [dT,rU] at ak;obtain ⟨x,al,rfl⟩:=ak;show c4 P A fn lo rl c id ⟨T,H⟩ _;refine lb (fun e s aY=>?_) (a' al h);cases e with
   | normal=>exact aY
   | ret=>exact aY
   | exit bA =>
     simp only at aY ⊢;by_cases aE:bA=id
     ·subst aE;simp only [if_true];rw [uD] at aY;exact aY
     ·simp only [aE,if_false]
      have:Nat.beq bA id=false:=by
       cases ag:Nat.beq bA id with
       | false=>rfl
       | true=>exact absurd (sW ag) aE
      rw [this] at aY;exact aY
 | loop c a' =>
   intro aZ rc T H Q ak h;simp only [dT,rU] at ak;obtain ⟨x,al,rfl⟩:=ak;simp only [dC,Dk,zB] at h;obtain ⟨hS,m,hm,Db⟩:=h;have kv:∀ s:a6,eX A.h_ aZ s=⟨match lJ aZ A.h_ with | some k=>eS k s.T | none=>s.T,s.H⟩:=fun s=>by
    unfold eX;cases lJ aZ A.h_ <;> rfl
   refine ⟨m+1,Dt (f:=fun aF=>c4 P A fn lo rl c aZ (eX A.h_ aZ aF)) (fun m s=>hS m (eX A.h_ aZ s).T s.H) ?_ (fun s Q cI a4 h=>lb a4 h) m ⟨T,H⟩ (by rw [kv];exact hm)⟩;intro m s ko;rw [kv] at ko;have h:=a' al (Db m _ s.H ko);show c4 P A fn lo rl c aZ (eX A.h_ aZ s) _;rw [kv];refine lb (fun e aF aY=>?_) h;cases e with
   | normal=>simp only at aY ⊢;rw [kv];exact aY
   | ret=>exact aY
   | exit id=>exact aY
 | scope c a'=>intro aZ rc T H Q ak h;exact a' ak h
 | rangeFunc f bj as b0 _ _ =>
   intro aZ rc T H Q ak h;simp only [dT,Option.some.injEq] at ak;subst ak;have key:∀ v,aA T f=v→n6 P A fn lo rl v bj.toList as b0 T H Q→c4 P A fn lo rl (.rangeFunc f bj as b0) aZ ⟨T,H⟩ fun e s=>Q e s.T s.H:=fun v ae h=>by
    unfold n6 at h;split at h
    ·(rename_i k first cap);obtain ⟨g0,r,H',st,cH,fn',a8,zO,gu,x8,iC,ai,ak,cL,a4⟩:=h;have fin:∀ (e:cD) (a3:List au),exec P A (kS (.fn k) (first++[.yield H.length]++cap) (H++[.loop .ready none fn (T.map I.view) bj.toList as b0 A]) lo r H') fn lo 0 rl (.rangeFunc f bj as b0) aZ ⟨T,H⟩=some (e,⟨T.map I.settle,a3⟩)→Q e (T.map I.settle) a3 →
       c4 P A fn lo rl (.rangeFunc f bj as b0) aZ ⟨T,H⟩ fun e s=>Q e s.T s.H:=fun e a3 he a4=>⟨_,e,_,D3 ai,he,a4⟩
     have hex:∀ (e:cD),(match cH with | none=>some cD.normal | some .ret=>some .ret | some (.exit id)=>some (.exit id) | _=>none)=some e →
       exec P A (kS (.fn k) (first++[.yield H.length]++cap) (H++[.loop .ready none fn (T.map I.view) bj.toList as b0 A]) lo r H') fn lo 0 rl (.rangeFunc f bj as b0) aZ ⟨T,H⟩=some (e,⟨T.map I.settle,H'.set H.length .dead⟩):=fun e he=>by
      simp only [exec,ae,g0,D2,ak,cL,if_false];split at he <;> simp_all
     split at a4
     ·exact fin _ _ (hex .normal rfl) a4
     ·exact fin _ _ (hex .ret rfl) a4
     ·exact fin _ _ (hex (.exit _) rfl) a4
     ·exact a4.elim
    ·exact h.elim
   cases f with
   | tmp t=>simp only [n2,dC,iF] at h;exact key _ rfl h
   | const v=>exact key (aA [] (.const v)) rfl h
   | func g=>exact key (aA [] (.func g)) rfl h
   | global g=>exact key (aA [] (.global g)) rfl h
end
end Go.Proofs.YtfakoboiahbhaaaGreat.Ab


namespace Go.Proofs.YtfakoboiahbhaaaGreat.Ab
open Go
inductive jl where
 | tmp (t:Nat) | cell (a:Nat) (g:e3)
def kM (g:e3) (cs:List I) (off:Nat):Option I:=match g with
 | .one=>(cs[off]?).map I.view
 | .str s=>if off+s≤cs.length then some (.agg (((cs.drop off).take s).map I.view)) else none
 | .arr s=>if off+s≤cs.length then some (.agg (((cs.drop off).take s).map I.view)) else none
theorem Dn {P:Program} {t:TypeId} {g:e3} (h:gQ P t=some g) (cs:List I) (off:Nat):et P t cs off=kM g cs off:=by
 rcases oC h with ⟨rfl,ad,d,af⟩ | ⟨s,af,ad⟩
 ·simp [et,kM,ad,af]
 ·rcases af with ⟨rfl,af⟩ | ⟨rfl,af⟩ <;> simp [et,kM,ad,af]
def oE (H:List au) (g:e3):I→Option I
 | .ptr id off=>match H[id]? with
   | some (.cells l)=>kM g l off
   | some (.grow l _ _)=>kM g l off
   | _=>none
 | .bW cells=>kM g cells 0
 | _=>none
theorem BD {P:Program} {t:TypeId} {g:e3} (h:gQ P t=some g) (H:List au) (a:I):dS P H t a=oE H g a:=by
 cases a <;> simp only [dS,oE,Dn h] <;> rfl
noncomputable def j2 (H:List au) (T:List I):List jl→Option (List I)
 | []=>some []
 | .tmp t::r=>(j2 H T r).map (c6 T t::·)
 | .cell a g::r=>match oE H g (c6 T a),j2 H T r with
   | some v,some vs=>some (v::vs)
   | _,_=>none
def j4 (P:Program):List ResultVar→Option (List jl)
 | []=>some []
 | .tmp t::r=>(j4 P r).map (.tmp t::·)
 | .cell a t::r=>match gQ P t,j4 P r with
   | some g,some l=>some (.cell a g::l)
   | _,_=>none
theorem xm {P:Program} (H:List au) (T:List I):∀ {rs:List ResultVar} {l:List jl},j4 P rs=some l→ff P H T rs=j2 H T l
 | [],l,h=>by simp [j4] at h;subst h;rfl
 | .tmp t::r,l,h=>by
   simp only [j4,rU] at h;obtain ⟨l,h,rfl⟩:=h;simp only [ff,j2,xm H T h]
 | .cell a t::r,l,h=>by
   simp only [j4] at h;split at h
   ·rename_i g l' ad af;simp only [Option.some.injEq] at h;subst h;simp only [ff,j2,xm H T af,BD ad];rfl
   ·cases h
inductive ox (rs:List jl) (v:I) (e:cD) (T:List I) (H:List au):Prop where
 | mk (he:e=.normal∨e=.ret) (vs:List I) (aj:j2 H T rs=some vs) (r:I) (aQ:bL H 0 H.length 0 8 (hc vs)=some r) (ae:r=v∨r.settle=v)
theorem Gw {rs:List jl} {v:I} {e:cD} {T:List I} {H:List au} (he:e=.normal∨e=.ret) (aC:ct 8 v=true) (h:(j2 H T rs).map hc=some v):ox rs v e T H:=by
 simp only [rU] at h;obtain ⟨vs,ad,af⟩:=h;exact ⟨he,vs,ad,v,by rw [af];exact oV aC,.inl rfl⟩
noncomputable def zg (P:Program) (A:c9) (k:Nat):Option (ez×Nat×List jl):=match P.funcs[k]? with
 | some f=>match f.body with
   | some c => match codeOk A c, f.name == "runtime.NumGoroutine", dT P A c 0, j4 P f.results.toList with
     | true,false,some rc,some ts=>some (rc,f.ntmps,ts)
     | _,_,_,_=>none
   | none=>none
 | none=>none
theorem F8 {P:Program} (dI:P.follows .mixedOrders=true) {k:Nat} {A:c9} {rc:ez} {n:Nat} {ts:List jl} (ak:zg P A k=some (rc,n,ts)) {args T:List I} (bZ:args++List.replicate (n-args.length) .junk=T) {v:I} (aC:ct 8 v=true)
  (h:dC P A k 0 none rc T [] (ox ts v)):lk P k args v:=by
 unfold zg at ak;split at ak
 ·rename_i f aQ;split at ak
  ·rename_i c ag;split at ak
   ·rename_i Gv FG ad af aG a7;simp only [Option.some.injEq,Prod.mk.injEq] at ak;obtain ⟨rfl,rfl,rfl⟩:=ak;subst bZ;have a4:∀ e s,ox FG v e (a6.T s) (a6.H s)→(e=.normal∨e=.ret)∧∃ vs r,ff P s.H s.T f.results.toList=some vs∧bL s.H 0 s.H.length 0 8 (hc vs)=some r∧(r=v∨r.settle=v):=fun e s ⟨cd,vs,B1,r,b_,dZ⟩=>by
     exact ⟨cd,vs,r,by rw [xm _ _ a7,B1],b_,dZ⟩
    exact Ed dI aQ ag (by simpa using af) ad aC (lb a4 (xb aG h))
   ·cases ak
  ·cases ak
 ·cases ak
def oc:Nat→Nat→List (Nat×I)→List I
 | 0,_,_=>[]
 | n+1,i,[]=>.junk::oc n (i+1) []
 | n+1,i,(j,v)::r=>match Nat.beq i j with
   | true=>v::oc n (i+1) r
   | false=>.junk::oc n (i+1) ((j,v)::r)
abbrev GH (n:Nat) (l:List (Nat×I)):List I:=oc n 0 l
abbrev gO (d:Nat) (s:List iw) (k:hU):cz:=⟨some d,s,none,none,k⟩
noncomputable section
def hg:Code→List (Code×Code)
 | .rangeFunc _ _ a b=>(a,b)::(hg a++hg b)
 | .seq a b=>hg a++hg b
 | .cond _ a b=>hg a++hg b
 | .block _ c=>hg c
 | .loop c=>hg c
 | .scope c=>hg c
 | _=>[]
def x9 (P:Program) (k:Nat):Code:=match P.funcs[k]? with
 | some f=>match f.body with
   | some c=>c
   | none=>.skip
 | none=>.skip
def Gx (P:Program) (k i:Nat):Code:=match (hg (x9 P k))[i]? with
 | some x=>x.1
 | none=>.skip
def Gy (P:Program) (k i:Nat):Code:=match (hg (x9 P k))[i]? with
 | some x=>x.2
 | none=>.skip
end
end Go.Proofs.YtfakoboiahbhaaaGreat.Ab


namespace Go.Proofs.YtfakoboiahbhaaaGreat.Ab
open Go
section
variable {P:Program} {B:Nat} {J:List Nat} {w:World} {H:List au} {U:Nat→Option aI} {S:Nat→Nat→Prop}
end
end Go.Proofs.YtfakoboiahbhaaaGreat.Ab


namespace Go.Proofs.YtfakoboiahbhaaaGreat.Ab
open Go
section
variable {P:Program} {B N:Nat} {J:List Nat} {w:World} {H:List au} {U:Nat→Option aI} {S:Nat→Nat→Prop}
theorem FQ (dI:P.follows .mixedOrders=true) {l lo:Nat} {fn:FuncId} {T a8:List I} {bj:List Nat} {as b0:Code} {an:c9} {args:List I} {H':List au}
  (ak:H[l]?=some (.loop .ready none fn T bj as b0 an)) (eh:hj bj args T=some a8) (pt:bb lo H H')
  (h:c4 P an fn lo (some l) as 0 ⟨a8,H⟩ fun e s1=>e=.normal∧s1.H[l]?=some (.loop .ready none fn T bj as b0 an) ∧
   c4 P an fn lo (some l) b0 0 ⟨s1.T,s1.H.set l (.loop .busy none fn T bj as b0 an)⟩ fun e s2=>e=.normal∧s2.H[l]?=some (.loop .busy none fn T bj as b0 an)∧jj (s2.H.set l (.loop .ready none fn T bj as b0 an)) H') :
  Sem P (.yield l) args H lo (.bool true) H':=by
 refine ⟨pt,fun B U J S w xs b ah _ ae ag=>?_⟩;obtain ⟨ba,bm,ar,L,aB,aH,aR,bl,bc,bg,c2,db,dE,fw,oy⟩:=ah.obj l _ ak;rw [ag] at aB;cases aB;have cL:=xK bj args T a8 xs L.tmps.toList eh ae.len (by simpa using c2.symm);obtain ⟨cd,b_,dZ,hq⟩:=cL;refine ⟨L,aR,by rw [←ae.len,←cd,←dE];simp,?_⟩;refine roundIn_of_wpIn trivial ?_;have ma:(hG L xs).toList=(bj.zip xs).foldl (fun (l:List Value) (p:Nat×Value)=>l.set p.1 p.2) L.tmps.toList:=by rw [Aq,dE]
 obtain ⟨dc,fD⟩:=A8 bj ah;have aK:cv B w.heap.size (gM bj U) J S w ⟨a8,H⟩ { tmps:=hG L xs,defers:=[] }:=by
  refine ⟨?_,fD,rX _,fun d a0=>by simp at a0,List.Pairwise.nil⟩;simp only [ma];have key:∀ (i:Nat) (u:I) (x:Value),a8[i]?=some u→((bj.zip xs).foldl (fun (l:List Value) (p:Nat×Value)=>l.set p.1 p.2) L.tmps.toList)[i]?=some x →
    Rel J S w u x∧aW (gM bj U) J S w (.slot i) u x:=fun i u x hu al=>by
   rcases hq i u x hu al with ⟨aJ,aP⟩ | ⟨j,aJ,aP,cl⟩
   ·obtain ⟨bT,b6⟩:=db i u x aJ (by simpa using aP);exact ⟨b6,aW.b5 bT⟩
   ·exact ⟨ae.rel j u x aP cl,(ae.own j u x aP cl).mono (Ext.refl J) (fun _ _ h=>⟨h,rfl⟩) fun b ag=>⟨by simp [gM,ag,aJ],rfl,fun _ h=>h⟩⟩
  exact ⟨by rw [b_,dZ,←c2];simp,fun i u x hu al=>(key i u x hu al).1,fun i u x hu al=>(key i u x hu al).2⟩
 rw [fw,oy];refine om dI as 0 _ _ h ba _ _ B w.heap.size J w (gM bj U) S _ (.inr ⟨l,b,rfl,ag,rfl⟩) (fun l a w aO=>aO) aK fun e1 s1 av aB bE ai=>?_;obtain ⟨rfl,hA,af⟩:=av;obtain ⟨b4,cS,a5,aJ,aP,cb⟩:=ai;have eV:cS[l]?=some b:=aJ _ _ ag;obtain ⟨_,_,ar,jk,d1,d2,d3,d4,d5,_⟩:=cb.H.obj l _ hA;rw [eV] at d1;cases d1;obtain ⟨dY,oZ⟩:=cb.loop hA eV d3 .busy none;have o7:(Instr.beginRound b).run P bE=.ok () (bE.putObj b (.loop { jk with state:=.busy,pending:=none })):=by
  rw [run_beginRound d3 d4]
  have:({ jk with state:=.busy,pending:=none }:Loop)={ jk with state:=.busy }:=by rw [←d5]
  rw [this]
 refine ⟨_,o7,?_⟩;refine wpIn_mono (Q:=fun cO aM w'=>(∀ t,cO≠Exit.goto t)∧roundPost P b (fu B U J S w H' (.bool true)) cO aM w') ?_ (fun e a w h=>h.2);refine om dI b0 0 _ _ af bm _ _ B w.heap.size cS _ b4 a5 _ (.inr ⟨l,b,rfl,eV,rfl⟩) (fun l a w aO=>aO.1 l rfl) oZ fun cm s2 av aH bV ai=>?_;obtain ⟨rfl,e',kt⟩:=av;obtain ⟨bp,cj,bJ,cl,jP,lM⟩:=ai;have fl:cj[l]?=some b:=cl _ _ eV;obtain ⟨_,_,ar,iv,f1,f2,f3,f4,f5,_⟩:=lM.H.obj l _ e';rw [fl] at f1;cases f1;have jx:bh U S w bp bJ bV:=((dc.trans aP).trans dY).trans jP;refine ⟨fun t ax=>(by cases ax),?_⟩;refine ⟨_,_,run_endRound none f3,?_⟩;obtain ⟨oP,o0⟩:=lM.loop e' fl f3 .ready none;exact a2.nd kt ⟨bp,cj,bJ,aJ.trans cl,jx.trans oP,o0.H,.bool _,aW.b5 rfl⟩
theorem GG (dI:P.follows .mixedOrders=true) {l lo:Nat} {fn:FuncId} {T a8:List I} {bj:List Nat} {as b0:Code} {an:c9} {args:List I} {H':List au} {zT zW:ez}
  (cg:dT P an as 0=some zT) (ag:dT P an b0 0=some zW)
  (ak:H[l]?=some (.loop .ready none fn T bj as b0 an)) (eh:hj bj args T=some a8) (pt:bb lo H H')
  (h:dC P an fn lo (some l) zT a8 H fun e fh H1=>e=.normal∧H1[l]?=some (.loop .ready none fn T bj as b0 an) ∧
   dC P an fn lo (some l) zW fh (H1.set l (.loop .busy none fn T bj as b0 an)) fun e dR a3=>e=.normal∧a3[l]?=some (.loop .busy none fn T bj as b0 an)∧jj (a3.set l (.loop .ready none fn T bj as b0 an)) H') :
  Sem P (.yield l) args H lo (.bool true) H' :=
 FQ dI ak eh pt (lb (fun e s a4=>⟨a4.1,a4.2.1,xb ag a4.2.2⟩) (xb cg h))
end
end Go.Proofs.YtfakoboiahbhaaaGreat.Ab


namespace Go.Proofs.YtfakoboiahbhaaaGreat.Ab
open Go
abbrev Gp (d s:Nat):cz:=gO d [.sl s] .iT
abbrev Gq (d s:Nat):cz:=gO d [.hJ s] .iT
abbrev Gn (d:Nat) (n:Int):cz:=gO d [.iD (.int .i64 n)] .iT
abbrev F0 (d s:Nat) (n:Int):cz:=gO d [.hM s,.iD (.int .i64 n)] (.bin .add)
abbrev F2 (d s t:Nat) (o:BinOp):cz:=gO d [.hM s,.hM t] (.bin o)
abbrev F1 (d s:Nat) (n:Int) (o:BinOp):cz:=gO d [.hM s,.iD (.int .i64 n)] (.bin o)
abbrev Gl (d s:Nat):cz:=gO d [.hJ s] .w_
abbrev Gm (d s:Nat):cz:=gO d [.hM s] (.w8 .one)
abbrev F7 (d s k:Nat):cz:=gO d [.hM s] (.oT k)
abbrev Gi (d s t k:Nat):cz:=gO d [.hM s,.hM t] (.pQ k)
abbrev GK (d s k:Nat):cz:=gO d [.sl s] (.ext k)
abbrev cR (d:Nat) (l:List iw) (g:Nat) (b:Bool) (k:hU):cz:=⟨some d,l,some (g,b),none,k⟩
abbrev Gt (l:List cz):ez:=.j3 false l
abbrev Gu (l:List cz):ez:=.j3 true l
abbrev GC (l:List cz) (c:ez):ez:=.seq (.j3 false l) c
abbrev Gj (n:Nat):ez:=.cond (.sl n) .skip .skip
def As (b:Bool):Nat→List Bool→List Bool
 | 0,l=>l
 | n+1,l=>b::As b n l
def EA:Bool→List Nat→List Bool
 | _,[]=>[]
 | b,n::r=>As b n (EA (!b) r)
end Go.Proofs.YtfakoboiahbhaaaGreat.Ab
