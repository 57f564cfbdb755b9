
import Derived.Test.YtfakoboiahbhaaaGreatJr2
import Derived.Maps.RangeRun
set_option linter.unusedSimpArgs false
set_option linter.unusedVariables false
set_option linter.unusedSectionVars false

open Array renaming getD_eq_getD_getElem?→sO,getElem?_eq_getElem→sT,getElem?_eq_some_iff→tp,getElem?_setIfInBounds_ne→vO,toArray_toList→uR
open Bool renaming and_eq_true→sM,false_eq_true→ub,or_eq_true→tX
open Classical renaming choose_spec→vS
open List renaming all_cons→tL,all_eq_true→sS,append_assoc→sD,drop_eq_getElem_cons→tf,eq_nil_iff_forall_not_mem→u_,getD_eq_getElem?_getD→sV,getElem?_append_left→sR,getElem?_append_right→sZ,getElem?_cons_zero→uS,getElem?_eq_getElem→sI,getElem?_eq_none→tQ,getElem?_eq_some_iff→ss,getElem?_map→sN,getElem?_range→vu,getElem?_set_ne→sG,getElem?_set_self→sE,length_cons→sP,length_map→tj,length_nil→uU,length_set→tC,mapM_cons→wi,map_congr_left→tY,map_cons→sy,map_id→vv,mem_cons→sH,mem_cons_of_mem→uw,mem_cons_self→uK,mem_iff_getElem?→tV,mem_map→sJ,mem_of_getElem?→sY,mem_range→sX,mem_singleton→sQ,nodup_range→uC,pairwise_cons→tD,pairwise_lt_range→vb,pairwise_map→vd
open Nat renaming beq_eq→ve,beq_refl→wy,ble_eq→uV,ble_eq_true_of_le→uE,blt_eq→tR,eq_of_beq_eq_true→tw,le_of_ble_eq_true→uB,le_refl→sx,lt_or_ge→tg
open Option renaming bind_eq_some_iff→sC,bind_some→sq,isNone_iff_eq_none→tN,isSome_eq_false_iff→tM,isSome_iff_exists→tW,map_eq_some_iff→sr,map_some→sB
namespace Go.Proofs.YtfakoboiahbhaaaGreat.Ab
open Go
section
variable {P:Program} {B N:Nat} {J:List Nat} {w:World} {H:List au} {U:Nat→Option aI} {S:Nat→Nat→Prop}
theorem FR {bC:Nat→aI} {us:List I} {xs:List Value} (ak:us.length=xs.length) (h:∀ (j:Nat) (u:I) (v:Value),us[j]?=some u→xs[j]?=some v→Rel J S w u v∧u.plain=true):a' bC U J S w us xs :=
 ⟨ak,fun j u v hu ae=>(h j u v hu ae).1,fun j u v hu ae=>aW.b5 (h j u v hu ae).2⟩
def pZ (F:Fence) (P:Program) (Q:Exit→Act→World→Prop) (cI:Option Code) (aM:Act) (w':World):Prop:=match cI with
 | none=>Q .normal aM w'
 | some c=>c.wpIn F 0 P Q aM w'
theorem z0 {F:Fence} (bE:er F) {C:b8} (bx:dc P C) {T:List I} {a:Act} (aK:cv B N U J S w ⟨T,H⟩ a) (mi:a' .slot U J S w (T.map I.view) a.tmps.toList)
  {lo k:Nat} {first cap:List I} {vs ws:Array Value} (aQ:Rel J S w (.func k first cap) (.func (.func k) vs ws))
  {as b0:Code} {an:c'} {fn fn':FuncId} {bl:Array Tmp} (bc:codeOk an as=true) (bn:codeOk an b0=true) {r:I} {H':List au}
  (h:C (.fn k) (first++[.yield H.length]++cap) (H++[.loop .ready none fn (T.map I.view) bl.toList as b0 an]) lo=some (r,H'))
  {st:LoopState} {cI:Option Code} {fZ:FuncId} {dV:List I} {gN:List Nat} {gC gD:Code} {gA:c'} (ak:H'[H.length]?=some (.loop st cI fZ dV gN gC gD gA)) (cM:st≠.busy)
  {bF:World} (ni:bk (dp U) S w (dp U) S bF) (bY:aL B (dp U) J S bF H) {mark:List Deferred} {dfr:Nat} (hm:Marks N (dp U) bF mark) (yS:∀ d∈mark,∀ r,d.target=.collected r→U r=none∧w.heap.size≤r) {Q:Exit→Act→World→Prop}
  (bo:∀ aM w',Step B N U J S w ⟨T,H'.set H.length .dead⟩ aM w'→pZ F P Q cI aM w') :
  CallsIn F 0 P k (vs++#[Value.func (.yield bF.heap.size) #[] #[]]++ws) (bF.alloc (.loop { state:=.ready,pending:=none,fn:=fn',tmps:=a.tmps,params:=bl,assign:=as,body:=b0,defers:=dfr }))
   (rangePost F 0 P bF.heap.size Q { a with defers:=mark++a.defers }):=by
 generalize fr:({ state:=.ready,pending:=none,fn:=fn',tmps:=a.tmps,params:=bl,assign:=as,body:=b0,defers:=dfr }:Loop)=L;have yr:=kr bY (.loop L) (.obj H.length);have C1:=nC bY (.loop L) (.obj H.length);have mn:Ext J (J++[bF.heap.size]):=Ext.append J _;have o8:∀ b o,S b o→S b o∧(bF.alloc (.loop L)).cell? ⟨b,o,none⟩=w.cell? ⟨b,o,none⟩:=(ni.trans yr).set;have B_:=C1.push bF.heap.size (o:=.loop .ready none fn (T.map I.view) bl.toList as b0 an)
  ⟨bc,bn,bF.heap.size,L,Ext.last bY _,by simp [lay],World.alloc_heap_new bF _,by rw [←fr],by rw [←fr],trivial,by rw [←fr];simpa using mi.len.symm,
   fun i u v hu ae=>by
    rw [←fr] at ae;refine ⟨?_,((mi.rel i u v hu (by simpa using ae)).mono mn o8)⟩;simp only [sN,sr] at hu;obtain ⟨x,_,rfl⟩:=hu
    exact I.dk x,by rw [←fr],by rw [←fr],by rw [←fr]⟩
 have ga:m4 (lay (dp U) bF.heap.size (.obj H.length)):=fun b i ag=>by
  unfold lay at ag;split at ag
  ·simp at ag
  ·exact CC b i ag
 have Ce:a' (fun i=>.arg i) (lay (dp U) bF.heap.size (.obj H.length)) (J++[bF.heap.size]) S (bF.alloc (.loop L)) (first++[.yield H.length]++cap) (vs.toList++[Value.func (.yield bF.heap.size) #[] #[]]++ws.toList):=by
  cases aQ with
  | func _ _ _ _ _ aJ aP bT b6 r1 r2 =>
    refine FR (by simp [aJ,aP]) fun j u v hu ae=>?_;rcases tg j first.length with ad | ad
    ·rw [sD,sR ad] at hu;rw [sD,sR (by simp;omega)] at ae;exact ⟨(r1 j u v hu (by simpa using ae)).mono mn o8,bT u (sY hu)⟩
    ·rw [sD,sZ ad] at hu;rw [sD,sZ (by simp;omega)] at ae;(have bR:vs.toList.length=first.length:=by simp [aJ]);rw [bR] at ae;rcases tg (j-first.length) 1 with af | af
     ·(have aS:j-first.length=0:=by omega);rw [aS] at hu ae;simp at hu ae;subst hu ae;exact ⟨.yield _ _ (Ext.last bY _),rfl⟩
     ·rw [sZ (by simpa using af)] at hu ae;exact ⟨(r2 _ u v hu (by simpa using ae)).mono mn o8,b6 u (sY hu)⟩
 have fc:=(bx.ok h).2 B _ _ S _ _ B_ ga Ce;have hC:(vs.toList++[Value.func (.yield bF.heap.size) #[] #[]]++ws.toList).toArray=vs++#[Value.func (.yield bF.heap.size) #[] #[]]++ws:=by
  apply Array.ext';simp
 rw [hC] at fc;refine bE.calls (CallsIn.mono fc fun e bV he=>?_);cases e with
 | panicked c=>exact he.elim
 | outgrown=>exact he.elim
 | returned x =>
   obtain ⟨bq,cj,bJ,pU,ea,cr,_,_⟩:=he;obtain ⟨_,_,ar,iD,aB,aH,aR,bm,bf,_⟩:=cr.obj _ _ ak;have dK:cj[H.length]?=some bF.heap.size:=pU _ _ (Ext.last bY _);rw [dK] at aB;cases aB;obtain ⟨BX,B9,_⟩:=zp cr aH aR { iD with state:=.exhausted };have jE:bk (dp U) S bF bq bJ (bV.putObj bF.heap.size (.loop { iD with state:=.exhausted })):=(yr.trans ea).trans BX;obtain ⟨aV,aX⟩:=zL none aK (mn.trans pU) (ni.trans jE) B9 (.junk undef) (aW.b5 rfl);refine ⟨iD.pending,_,run_endLoop aR (by rw [bm];exact cM),?_⟩;rw [←bf] at bo;refine bo _ _ ⟨_,cj,bJ,mn.trans pU,aV,⟨aX.T,aX.H,aX.M.1,fun d a1=>?_,List.pairwise_append.2 ⟨hm.2.2,aX.M.2.2,fun d a1 gZ nr e=>?_⟩⟩⟩
   rotate_left
   ·obtain ⟨hK,dh,_⟩:=hm.2.1 d a1;obtain ⟨r1,cc,_,_,DX⟩:=aK.M.2.1 gZ nr;have:=(yS d a1 hK dh).2;have:=(tp.1 DX).1;rw [dh,cc] at e;cases e;omega
   rcases List.mem_append.1 a1 with a1 | a1
   ·obtain ⟨hK,dh,di,jX,kV⟩:=hm.2.1 d a1;have dv:hK<bF.heap.size:=(tp.1 kV).1;refine ⟨hK,dh,di,?_,(jE.cG hK dv jX).trans kV⟩;have aS:=(yS d a1 hK dh).1;have af:bq hK=none:=by
     cases bN:bq hK with
     | none=>rfl
     | some l =>
       rcases jE.own hK (by simp [bN]) with bX | bX
       ·exact absurd jX bX
       ·omega
    simp [back,aS,af]
   ·exact aX.M.2.1 d a1
end
end Go.Proofs.YtfakoboiahbhaaaGreat.Ab


namespace Go.Proofs.YtfakoboiahbhaaaGreat.Ab
open Go
def toExit:cE→Exit
 | .normal=>.normal
 | .ret=>.ret
 | .exit id=>.exit id
def jq (F:Fence) (rl:Option Nat) (J:List Nat):Prop:=(rl=none∧F=Fence.wide)∨∃ l b,rl=some l∧J[l]?=some b∧F=Fence.wide.inRound b
theorem jq.lN {F:Fence} {rl:Option Nat} {J:List Nat} (h:jq F rl J):er F:=by
 rcases h with ⟨_,rfl⟩ | ⟨l,b,_,_,rfl⟩
 ·exact .inl rfl
 ·exact .inr ⟨b,rfl⟩
theorem jq.ext {F:Fence} {rl:Option Nat} {J b1:List Nat} (h:jq F rl J) (bM:Ext J b1):jq F rl b1:=by
 rcases h with h | ⟨l,b,ad,af,aG⟩
 ·exact .inl h
 ·exact .inr ⟨l,b,ad,bM _ _ af,aG⟩
theorem ks {p:Nat→Prop} (h:∃ n,p n):∃ n,p n∧∀ m,p m→n≤m:=by
 obtain ⟨n,aN⟩:=h
 induction n using Nat.strongRecOn with
 | _ n bb =>
   by_cases ak:∃ m,m<n∧p m
   ·obtain ⟨m,hm,aC⟩:=ak;exact bb m hm aC
   ·exact ⟨n,aN,fun m hm=>Nat.le_of_not_lt fun aU=>ak ⟨m,aU,hm⟩⟩
section
variable {P:Program}
theorem Dx {F:Fence} {c:Code} {f:a7→Option (cE×a7)} {e:cE} {aF:a7} {Q:Exit→Act→World→Prop} {B N:Nat} {J:List Nat} {w:World} {U:Nat→Option aI} {S:Nat→Nat→Prop} {s:a7} {a:Act} {n:Nat}
  (h:ij f n s=some (e,aF)) (aK:cv B N U J S w s a) (bo:∀ aM w',Step B N U J S w aF aM w'→Q (toExit e) aM w')
  (kz:∀ (s1:a7) (e1:cE) (s2:a7),f s1=some (e1,s2)→∀ (cJ:Exit→Act→World→Prop) (aB:Act) (bF:World),(∀ l a w,cJ (.goto l) a w→Q (.goto l) a w)→Step B N U J S w s1 aB bF →
   (∀ aM w',Step B N U J S w s2 aM w'→cJ (toExit e1) aM w')→c.wpIn F 0 P cJ aB bF):(Code.loop c).wpIn F 0 P Q a w:=by
 classical
 let Inv:Nat→Act→World→Prop:=fun n aM w'=>∃ s1,ij f n s1=some (e,aF)∧Step B N U J S w s1 aM w'
 let gu:Act→World→Nat:=fun aM w'=>if h:∃ n,Inv n aM w' then Classical.choose (ks h) else 0
 have mo:∀ aM w',(∃ n,Inv n aM w')→Inv (gu aM w') aM w'∧∀ m,Inv m aM w'→gu aM w'≤m:=fun aM w' h=>by
  have:gu aM w'=Classical.choose (ks h):=by simp only [gu,dif_pos h]
  rw [this];exact vS (ks h)
 refine wpIn_loop (fun aM w'=>∃ n,Inv n aM w') gu ⟨n,s,h,Step.here aK⟩ fun aB bF kv=>?_;obtain ⟨⟨s1,ad,gH⟩,_⟩:=mo aB bF kv;cases aN:gu aB bF with
 | zero=>rw [aN] at ad;simp [ij] at ad
 | succ m =>
   rw [aN] at ad;simp only [ij] at ad;split at ad
   ·rename_i s2 Cr;refine kz s1 .normal s2 Cr _ aB bF (fun l a w h=>h) gH fun aM w' dR=>?_;have hinv:Inv m aM w':=⟨s2,ad,dR⟩;exact ⟨⟨m,hinv⟩,Nat.lt_succ_of_le ((mo aM w' ⟨m,hinv⟩).2 m hinv)⟩
   ·rename_i ga;refine kz s1 e aF ad _ aB bF (fun l a w h=>h) gH fun aM w' dR=>?_;cases e with
    | normal=>exact absurd ad (ga aF)
    | ret=>exact bo aM w' dR
    | exit id=>exact bo aM w' dR
theorem nj {C:b8} (bx:dc P C) (dM:P.follows .mixedOrders=true) {A:c'} {fn:FuncId} {lo d:Nat} {rl:Option Nat} :
  ∀ (c:Code) (a0:Nat) (s:a7) (e:cE) (aF:a7),exec P A C fn lo d rl c a0 s=some (e,aF)→codeOk A c=true →
    ∀ (F:Fence) (Q:Exit→Act→World→Prop) (B N:Nat) (J:List Nat) (w:World) (U:Nat→Option aI) (S:Nat→Nat→Prop) (a:Act),jq F rl J→(∀ l a w,¬ Q (.goto l) a w) →
      cv B N U J S w s a→(∀ aM w',Step B N U J S w aF aM w'→Q (toExit e) aM w')→c.wpIn F 0 P Q a w:=by
 intro c
 induction c with
 | skip =>
   intro a0 s e aF h _ F Q B N J w U S a bE aO aK bo;simp only [exec,Option.some.injEq,Prod.mk.injEq] at h;obtain ⟨rfl,rfl⟩:=h;exact wpIn_skip (bo a w (Step.here aK))
 | label l =>
   intro a0 s e aF h _ F Q B N J w U S a bE aO aK bo;simp only [exec,Option.some.injEq,Prod.mk.injEq] at h;obtain ⟨rfl,rfl⟩:=h;exact wpIn_label (bo a w (Step.here aK))
 | ret =>
   intro a0 s e aF h _ F Q B N J w U S a bE aO aK bo;simp only [exec,Option.some.injEq,Prod.mk.injEq] at h;obtain ⟨rfl,rfl⟩:=h;exact wpIn_ret (bo a w (Step.here aK))
 | exit id =>
   intro a0 s e aF h _ F Q B N J w U S a bE aO aK bo;simp only [exec,Option.some.injEq,Prod.mk.injEq] at h;obtain ⟨rfl,rfl⟩:=h;exact wpIn_exit (bo a w (Step.here aK))
 | goto l=>intro a0 s e aF h;simp [exec] at h
 | refuse y=>intro a0 s e aF h;simp [exec] at h
 | region id ops draw =>
   intro a0 s e aF h bQ F Q B N J w U S a bE aO aK bo;simp only [exec] at h;split at h
   ·cases h
   rename_i kM;simp only [sr,Prod.mk.injEq] at h;obtain ⟨s1,h,rfl,rfl⟩:=h;refine z8 bE.lN dM bx (fun a1=>?_) h (aK.cG _ _) bo;simp only [codeOk,xu,kM] at bQ;simpa [a1] using bQ
 | seq x y nK pY =>
   intro a0 s e aF h bQ F Q B N J w U S a bE aO aK bo;simp only [codeOk,sM] at bQ;simp only [exec] at h;split at h
   ·rename_i s1 ad;refine wpIn_seq (nK _ _ _ _ ad bQ.1 F _ B N J w U S a bE (fun l a w=>aO l a w) aK fun aM w' ai=>?_);obtain ⟨b4,cT,a6,aJ,aP,cb⟩:=ai;exact pY _ _ _ _ h bQ.2 F Q B N cT w' b4 a6 aM (bE.ext aJ) aO cb fun gW hs dR=>bo gW hs (dR.trans aJ aP)
   ·rename_i ga;refine wpIn_seq (nK _ _ _ _ h bQ.1 F _ B N J w U S a bE (fun l a w=>aO l a w) aK fun aM w' ai=>?_);cases e with
    | normal=>exact absurd h (ga aF)
    | ret=>exact bo aM w' ai
    | exit id=>exact bo aM w' ai
 | cond x t f nJ nI =>
   intro a0 s e aF h bQ F Q B N J w U S a bE aO aK bo;simp only [codeOk,sM] at bQ;simp only [exec] at h;have aj:=aK.aA x;split at h
   ·rename_i ag;rw [ag] at aj;exact wpIn_cond_true aj.h3 (nJ _ _ _ _ h bQ.1 F Q B N J w U S a bE aO aK bo)
   ·rename_i ag;rw [ag] at aj;exact wpIn_cond_false aj.h3 (nI _ _ _ _ h bQ.2 F Q B N J w U S a bE aO aK bo)
   ·simp at h
 | block id c bb =>
   intro a0 s e aF h bQ F Q B N J w U S a bE aO aK bo;simp only [exec] at h;refine wpIn_block ?_;split at h
   ·rename_i bB s1 ad;refine bb _ _ _ _ ad bQ F _ B N J w U S a bE (fun l a w=>aO l a w) aK fun aM w' ai=>?_;by_cases aE:bB=id
    ·simp only [aE,if_true,Option.some.injEq,Prod.mk.injEq] at h;obtain ⟨rfl,rfl⟩:=h;simp only [toExit,Exit.inBlock,aE,if_true];exact bo aM w' ai
    ·simp only [aE,if_false,Option.some.injEq,Prod.mk.injEq] at h;obtain ⟨rfl,rfl⟩:=h;simp only [toExit,Exit.inBlock,aE,if_false];exact bo aM w' ai
   ·rename_i ga;refine bb _ _ _ _ h bQ F _ B N J w U S a bE (fun l a w=>aO l a w) aK fun aM w' ai=>?_;cases e with
    | normal=>exact bo aM w' ai
    | ret=>exact bo aM w' ai
    | exit bB=>exact absurd h (ga bB aF)
 | scope c bb =>
   intro a0 s e aF h bQ F Q B N J w U S a bE aO aK bo;simp only [exec] at h;exact Bh (bb _ _ _ _ h bQ F Q B N J w U S a bE aO aK bo) aO
 | loop c bb =>
   intro a0 s e aF h bQ F Q B N J w U S a bE aO aK bo;simp only [exec] at h;refine Dx h aK bo fun s1 e1 s2 ad cJ aB bF CY gH o6=>?_;obtain ⟨b4,cT,a6,aJ,aP,cb⟩:=gH;exact bb _ _ _ _ ad bQ F cJ B N cT bF b4 a6 aB (bE.ext aJ) (fun l a w a5=>aO l a w (CY l a w a5)) (cb.cG _ _) fun aM w' dR=>o6 aM w' (dR.trans aJ aP)
 | rangeFunc g bl as b0 fh fv =>
   intro a0 s e aF h bQ F Q B N J w U S a bE aO aK bo;simp only [codeOk,sM] at bQ;simp only [exec] at h;split at h
   ·(rename_i k first cap g6 l1);have y2:=aK.aA g;rw [l1] at y2;split at h
    ·rename_i r H' ao;split at h
     ·rename_i st cI fZ dV gN gC gD gA ak;split at h
      ·simp at h
      ·rename_i cM;have o6:∀ aM w',Step B N U J S w ⟨s.T.map I.settle,H'.set s.H.length .dead⟩ aM w'→pZ F P Q cI aM w':=fun aM w' ai=>by
        split at h
        ·simp only [Option.some.injEq,Prod.mk.injEq] at h;obtain ⟨rfl,rfl⟩:=h;exact bo aM w' ai
        ·simp only [Option.some.injEq,Prod.mk.injEq] at h;obtain ⟨rfl,rfl⟩:=h;exact wpIn_ret (bo aM w' ai)
        ·simp only [Option.some.injEq,Prod.mk.injEq] at h;obtain ⟨rfl,rfl⟩:=h;exact wpIn_exit (bo aM w' ai)
        ·simp at h
       obtain ⟨a6,dx,dq,bY,ky,o9⟩:=AS s.T a.tmps.toList .slot S (fun i j h=>by cases h;rfl) (fun i id=>by simp) (fun i id j=>by simp) aK.T aK.H;have de:bk U S w U a6 w:=bk.settle dx fun b o h=>(dq b o h).imp id fun ⟨i,h⟩=>⟨_,h⟩;have cb:cv B N U J a6 w ⟨s.T.map I.settle,s.H⟩ a:=⟨ky,bY,aK.M.aA de⟩;have kN:(s.T.map I.settle).map I.view=s.T.map I.view:=by
        rw [List.map_map];apply tY;intro u _;exact x1 u
       (have mi:a' .slot U J a6 w ((s.T.map I.settle).map I.view) a.tmps.toList:=by rw [kN];exact o9);rw [←kN] at ao;have yD:∀ aM w',Step B N U J a6 w ⟨s.T.map I.settle,H'.set s.H.length .dead⟩ aM w'→pZ F P Q cI aM w':=fun aM w' ai=>o6 aM w' (Step.trans (Ext.refl J) de ai);have dv:=y2.mono (Ext.refl J) (S':=a6) (w':=w) (fun b o h=>⟨dx b o h,rfl⟩);obtain ⟨⟨f0,Cq,iO,CQ⟩,_⟩:=bx.ok ao;have yF:U w.heap.size=none:=by
        cases al:U w.heap.size with
        | none=>rfl
        | some l=>have:=(aK.H.base _ l al).2;omega
       generalize CA:a.eval g=Gb at dv;cases dv with
       | func _ _ _ vs ws aJ aP bT b6 r1 r2 =>
         refine wpIn_rangeFunc fun fn' _=>?_;have kK:∀ (l:Nat) (w0:World),(resolve a.eval (rangeCall g l) 0).run P w0=.ok { target:=.fn (.func k) ws,args:=vs++#[Value.func (.yield l) #[] #[]] } w0:=fun l w0=>by
          have:(#[Operand.const (Value.func (.yield l) #[] #[])]:Array Operand).map a.eval=#[Value.func (.yield l) #[] #[]]:=by simp [Act.eval]
          simp only [resolve,rangeCall,CA,Deferred.ofValue,this,Sem.run_pure]
         have hinv:∀ (l:Nat) (w0:World),(invoke (.fn (.func k) ws) (vs++#[Value.func (.yield l) #[] #[]])).run P w0=.ok (.enter k (vs++#[Value.func (.yield l) #[] #[]]++ws)) w0:=fun l w0=>by
          simp only [invoke,AE Cq iO CQ]
         (have pn:Rel J a6 w (.func k first cap) (.func (.func k) vs ws):=.func k first cap vs ws aJ aP bT b6 r1 r2);(have yI:F.depth.isSome=true→1≤0:=fun iR=>by rw [bE.lN.depth] at iR;cases iR);rcases bE with ⟨rfl,rfl⟩ | ⟨cx,dC,rfl,ag,rfl⟩
         ·have cr:=mg cb.H;have fc:=z0 (.inl rfl) bx cb mi pn bQ.1 bQ.2 ao ak cM (yq cr (.deferred (some []))) (C3 cr (.deferred (some []))) (fn':=fn') (dfr:=w.heap.size)
           (mark:=[{ target:=.collected w.heap.size,args:=#[] }]) ⟨by have:=aK.M.1;simp;omega,fun d a1=>by
            simp only [sQ] at a1;subst a1;exact ⟨w.heap.size,rfl,aK.M.1,nv yF,World.alloc_heap_new w _⟩,List.pairwise_singleton _ _⟩ (fun d a1 hK nB=>by
            simp only [sQ] at a1;subst a1
            cases nB;exact ⟨yF,sx _⟩) yD
          (have bR:(w.alloc (.deferred (some []))).heap.size=w.heap.size+1:=by simp);rw [bR] at fc;exact ⟨_,_,_,_,_,k,_,_,run_enterLoop_outer fn' a.tmps bl as b0,kK _ _,fun _ _=>trivial,hinv _ _,yI,fc⟩
         ·have cr:=mg cb.H;simp only [inLoop] at g6;split at g6
          ·rename_i bG;obtain ⟨_,_,ar,oA,aB,aH,aR,_⟩:=aK.H.obj cx _ bG;rw [ag] at aB;cases aB;have fc:=z0 (.inr ⟨dC,rfl⟩) bx cb mi pn bQ.1 bQ.2 ao ak cM (bk.refl _ _ _) cr (fn':=fn') (dfr:=oA.defers)
            (mark:=[]) ⟨aK.M.1,fun d a1=>by simp at a1,List.Pairwise.nil⟩ (fun d a1=>by simp at a1) yD
           exact ⟨_,_,_,_,_,k,_,_,run_enterLoop_inner aR fn' a.tmps bl as b0,kK _ _,fun _ _=>trivial,hinv _ _,yI,fc⟩
          ·simp at g6
     ·simp at h
    ·simp at h
   ·simp at h
end
end Go.Proofs.YtfakoboiahbhaaaGreat.Ab


namespace Go.Proofs.YtfakoboiahbhaaaGreat.Ab
open Go
def hR (U:Nat→Option aI):Nat→Option aI:=fun b=>match U b with
 | some (.arg i)=>some (.slot i)
 | some (.obj id)=>some (.obj id)
 | some (.cell id j)=>some (.cell id j)
 | _=>none
def k6 (t:Nat) (U:Nat→Option aI):Nat→Option aI:=fun b=>match U b with
 | some (.slot i)=>if i=t then some .res else none
 | some (.obj id)=>some (.obj id)
 | some (.cell id j)=>some (.cell id j)
 | _=>none
section
variable {P:Program} {B N:Nat} {J:List Nat} {w:World} {H:List au} {U:Nat→Option aI} {S:Nat→Nat→Prop}
theorem relabel {az:Nat→Option aI} (ah:aL B U J S w H) (ad:∀ b,U b=none→az b=none) (af:∀ b l,U b=some l→((∃ id,l=.obj id)∨∃ id j,l=.cell id j)→az b=some l) :
  bk U S w az S w∧aL B az J S w H:=by
 have aN:∀ b,az b≠none→U b≠none:=fun b h aS=>h (ad b aS);refine ⟨⟨rfl,rfl,rfl,sx _,fun _ _ _=>rfl,fun _ _ h=>⟨h,rfl⟩,fun _ _ h=>.inl h,fun b h=>.inl (aN b h)⟩,⟨ah.cH,fun id o aq=>?_,ah.ch,fun b l ag=>?_,ah.c1⟩⟩
 ·refine (ah.obj id o aq).frame (Ext.refl J) (fun _ _ h=>⟨h,rfl⟩) fun b l ag ak=>⟨af b l ag ?_,rfl,fun _ h=>h⟩;rcases ak with rfl | ⟨j,rfl⟩
  ·exact .inl ⟨id,rfl⟩
  ·exact .inr ⟨id,j,rfl⟩
 ·cases h:U b with
  | none=>rw [ad b h] at ag;cases ag
  | some l'=>exact ah.base b l' h
theorem oq (ah:aL B U J S w H):bk U S w (hR U) S w∧aL B (hR U) J S w H :=
 relabel ah (fun b h=>by simp [hR,h]) fun b l h ak=>by
  rcases ak with ⟨id,rfl⟩ | ⟨id,j,rfl⟩ <;> simp [hR,h]
theorem D8 (t:Nat) (ah:aL B U J S w H):bk U S w (k6 t U) S w∧aL B (k6 t U) J S w H :=
 relabel ah (fun b h=>by simp [k6,h]) fun b l h ak=>by
  rcases ak with ⟨id,rfl⟩ | ⟨id,j,rfl⟩ <;> simp [k6,h]
theorem xU (ah:aL B U J S w H) {args:List I} {vs:List Value} (ae:a' (fun i=>.arg i) U J S w args vs) (n:Nat) :
  cv B w.heap.size (hR U) J S w ⟨args++List.replicate (n-args.length) .junk,H⟩ { tmps:=vs.toArray++Array.replicate (n-vs.toArray.size) undef,defers:=[] }:=by
 have ak:=ae.len;refine ⟨?_,(oq ah).2,sx _,fun d a1=>by simp at a1,List.Pairwise.nil⟩;have mh:(vs.toArray++Array.replicate (n-vs.toArray.size) undef).toList=vs++List.replicate (n-vs.length) undef:=by simp
 simp only [mh];have key:∀ (i:Nat) (u:I) (v:Value),(args++List.replicate (n-args.length) .junk)[i]?=some u→(vs++List.replicate (n-vs.length) undef)[i]?=some v →
   Rel J S w u v∧aW (hR U) J S w (.slot i) u v:=fun i u v hu al=>by
  rcases tg i args.length with ad | ad
  ·rw [sR ad] at hu;rw [sR (by omega)] at al;exact ⟨ae.rel i u v hu al,(ae.own i u v hu al).mono (Ext.refl J) (fun _ _ h=>⟨h,rfl⟩) fun b ag=>⟨by simp [hR,ag],rfl,fun _ h=>h⟩⟩
  ·rw [sZ ad] at hu;rw [List.getElem?_replicate] at hu;split at hu
   ·cases hu;exact ⟨.junk v,aW.b5 rfl⟩
   ·simp at hu
 exact ⟨by simp [ak],fun i u v hu al=>(key i u v hu al).1,fun i u v hu al=>(key i u v hu al).2⟩
theorem nN {fn:Func} {tmps:Array Value} {R:Ending→World→Prop} {lu:Nat→Option aI} {S0:Nat→Nat→Prop} {w0:World} :
  ∀ (ds:List Deferred) (w:World),(∀ d∈ds,∃ r,d.target=.collected r∧w0.heap.size≤r∧U r=none∧w.heap[r]?=some (.deferred (some [])))→ds.Pairwise (fun a b=>a.target≠b.target)→bk lu S0 w0 U S w→aL B U J S w H →
    (∀ w',(∀ b l,U b=some l→w'.heap[b]?=w.heap[b]?)→(∀ b o,S b o→w'.cell? ⟨b,o,none⟩=w.cell? ⟨b,o,none⟩)→bk lu S0 w0 U S w'→aL B U J S w' H→∃ v,(results fn tmps).run P w'=.ok v w'∧R (.returned v) w')→LeavesInM Fence.wide 0 P fn tmps R ds .returning w
 | [],w,_,_,aA,ah,jG=>jG w (fun _ _ _=>rfl) (fun _ _ _=>rfl) aA ah
 | d::ds,w,a1,aC,aA,ah,jG=>by
   obtain ⟨r,ad,af,aG,a8⟩:=a1 d (by simp);have aj:r<w.heap.size:=(tp.1 a8).1;(have bR:(w.putObj r (.deferred none)).heap.size=w.heap.size:=by simp [World.putObj]);have h':∀ b,b≠r→(w.putObj r (.deferred none)).heap[b]?=w.heap[b]?:=fun b h=>World.putObj_heap_other h;have bO:∀ b o,S b o→b≠r:=fun b o ai e=>by
    subst e;obtain ⟨v,ae⟩:=ah.ch b o ai;simp [World.cell?,a8] at ae
   have bz:∀ b o,b≠r→(w.putObj r (.deferred none)).cell? ⟨b,o,none⟩=w.cell? ⟨b,o,none⟩:=fun b o h=>by
    simp only [World.cell?,h' b h]
   (have kE:∀ b l,U b=some l→b≠r:=fun b l h e=>by subst e;rw [aG] at h;cases h);have de:bk lu S0 w0 U S (w.putObj r (.deferred none)):=by
    refine ⟨aA.os,aA.tape,aA.output,by rw [bR];exact aA.size,fun b ag aN=>?_,fun b o ai=>?_,aA.fresh,aA.own⟩
    ·rw [h' b (by omega)];exact aA.cG b ag aN
    ·obtain ⟨aJ,aP⟩:=aA.set b o ai;exact ⟨aJ,(bz b o (bO b o aJ)).trans aP⟩
   have cp:∀ b o,S b o→S b o∧(w.putObj r (.deferred none)).cell? ⟨b,o,none⟩=w.cell? ⟨b,o,none⟩:=fun b o ai=>⟨ai,bz b o (bO b o ai)⟩;have fI:aL B U J S (w.putObj r (.deferred none)) H :=
    ⟨ah.cH,fun id o aq=>(ah.obj id o aq).frame (Ext.refl J) cp fun b l ag _=>⟨ag,h' b (kE b l ag),fun _ h=>h⟩,fun b o ai=>by
     obtain ⟨v,ae⟩:=ah.ch b o ai
     exact ⟨v,(bz b o (bO b o ai)).trans ae⟩,fun b l ag=>by rw [bR];exact ah.base b l ag,by rw [bR];exact ah.c1⟩
   refine ⟨by simp,.inl ⟨r,_,ad,run_takeDeferred a8,?_⟩⟩;have yX:=tD.1 aC;refine nN ds _ (fun gZ nr=>?_) yX.2 de fI (fun w' dg aJ aP cl=>jG w' (fun b l h=>(dg b l h).trans (h' b (kE b l h))) (fun b o h=>(aJ b o h).trans (bz b o (bO b o h))) aP cl)
   ·obtain ⟨r',aV,aX,cB,dU⟩:=a1 gZ (by simp [nr])
    have:r'≠r:=fun e=>yX.1 gZ nr (by rw [ad,aV,e])
    exact ⟨r',aV,aX,cB,(h' r' this).trans dU⟩
end
end Go.Proofs.YtfakoboiahbhaaaGreat.Ab


namespace Go.Proofs.YtfakoboiahbhaaaGreat.Ab
open Go
section
variable {P:Program} {B N:Nat} {J:List Nat} {w:World} {H:List au} {U:Nat→Option aI} {S:Nat→Nat→Prop}
theorem o1 {bC:Nat→aI} {T:List I} {bh:Array Value} (bZ:a' bC U J S w T bh.toList) (t:Nat):Rel J S w (c8 T t) (bh.getD t undef)∧aW U J S w (bC t) (c8 T t) (bh.getD t undef):=by
 rw [f_,sV];cases h:T[t]? with
 | none=>exact ⟨.junk _,aW.b5 rfl⟩
 | some u =>
   have ak:=bZ.len;have aU:t<T.length:=(ss.1 h).1;(have l9:t<bh.size:=by rw [←Array.length_toList,←ak];exact aU);(have al:bh.toList[t]?=some (bh.getD t undef):=by simp [sO,l9]);exact ⟨bZ.rel t u _ h al,bZ.own t u _ h al⟩
theorem mP (ah:aL B U J S w H) {T:List I} {bh:Array Value} (bZ:a' .slot U J S w T bh.toList) {g:ResultVar→Sem Value} (cd:∀ t,g (.tmp t)=pure (bh.getD t undef))
  (b_:∀ a t,g (.cell a t)=do loadVar t (←asAddr (bh.getD a undef))):∀ (rs:List ResultVar) (vs:List I),fl P H T rs=some vs →
  ∃ xs,(rs.mapM g).run P w=.ok xs w∧vs.length=xs.length∧∀ (j:Nat) (u:I) (x:Value),vs[j]?=some u→xs[j]?=some x→Rel J S w u x∧((u.plain=true∧True)∨∃ t,(u=c8 T t∧x=bh.getD t undef)∧aW U J S w (.slot t) u x)
 | [],vs,h=>by
   simp only [fl,Option.some.injEq] at h;subst h;exact ⟨[],by simp,rfl,by simp⟩
 | .tmp t::r,vs,h=>by
   simp only [fl,sr] at h;obtain ⟨dz,h,rfl⟩:=h;obtain ⟨xs,aV,aX,cB⟩:=mP ah bZ cd b_ r dz h;obtain ⟨r1,r2⟩:=o1 bZ t;refine ⟨bh.getD t undef::xs,by rw [wi];simp [cd,aV],by simp [aX],fun j u x hu al=>?_⟩;cases j with
   | zero=>simp only [uS,Option.some.injEq] at hu al;subst hu al;exact ⟨r1,.inr ⟨t,⟨rfl,rfl⟩,r2⟩⟩
   | succ j=>exact cB j u x (by simpa using hu) (by simpa using al)
 | .cell a t::r,vs,h=>by
   simp only [fl] at h;split at h
   ·rename_i v dz ae ie;simp only [Option.some.injEq] at h;subst h;obtain ⟨xs,aV,aX,cB⟩:=mP ah bZ cd b_ r dz ie;have aj:=(o1 bZ a).1;obtain ⟨x,aJ,aP,cl⟩:=lb ah ae aj;have aC:∃ lD,bh.getD a undef=.pointer (some lD):=by
     unfold dW at ae;generalize bh.getD a undef=GK at aj ⊢;split at ae
     ·rename_i heq;rw [heq] at aj;cases aj;exact ⟨_,rfl⟩
     ·rename_i heq;rw [heq] at aj;cases aj;exact ⟨_,rfl⟩
     ·simp at ae
    obtain ⟨lD,aC⟩:=aC;rw [aC] at aJ;(have Dj:(loadVar t lD).run P w=.ok x w:=by simpa [Instr.loadAt,Instr.sureAddr] using aJ);refine ⟨x::xs,by rw [wi];simp [b_,aC,asAddr,Dj,aV],by simp [aX],fun j u y hu al=>?_⟩;cases j with
    | zero=>simp only [uS,Option.some.injEq] at hu al;subst hu al;exact ⟨aP,.inl ⟨cl,trivial⟩⟩
    | succ j=>exact cB j u y (by simpa using hu) (by simpa using al)
   ·simp at h
theorem xy (ah:aL B U J S w H) {T:List I} {bh:Array Value} (bZ:a' .slot U J S w T bh.toList) {fn:Func} {vs:List I} (h:fl P H T fn.results.toList=some vs) :
  ∃ v,(results fn bh).run P w=.ok v w∧a3 B U J S w H (hk vs) v w:=by
 have run:∀ xs,(fn.results.toList.mapM (fun (x:ResultVar)=>match x with | .tmp t=>(pure (bh.getD t undef):Sem Value) | .cell a t=>do loadVar t (←asAddr (bh.getD a undef)))).run P w=.ok xs w →
   (results fn bh).run P w=.ok (if h:xs.toArray.size=1 then xs.toArray[0] else .tuple xs.toArray) w:=fun xs al=>by
  have aO:results fn bh=(do
    let vs ←fn.results.mapM (fun (x:ResultVar)=>match x with | .tmp t=>(pure (bh.getD t undef):Sem Value) | .cell a t=>do loadVar t (←asAddr (bh.getD a undef)))
    pure (if h:vs.size=1 then vs[0] else .tuple vs)):=by
   unfold results;congr 1
  rw [aO,Array.mapM_eq_mapM_toList];simp only [Sem.run_bind,Sem.run_map,al,Result.andThen_ok,Sem.run_pure]
 match vs,h with
 | [u],h =>
   obtain ⟨xs,aV,aX,cB⟩:=mP ah bZ (g:=fun x=>match x with | .tmp t=>pure (bh.getD t undef) | .cell a t=>do loadVar t (←asAddr (bh.getD a undef))) (fun _=>rfl) (fun _ _=>rfl) _ _ h
   match xs,aX with
   | [x],_ =>
     obtain ⟨r1,r2⟩:=cB 0 u x rfl rfl;refine ⟨x,by rw [run _ aV];rfl,?_⟩;rcases r2 with ⟨aC,_⟩ | ⟨t,_,aq⟩
     ·exact a3.same ah r1 aC
     ·obtain ⟨aA,cf⟩:=D8 t ah;exact ⟨k6 t U,J,S,Ext.refl J,aA,cf,r1,aq.mono (Ext.refl J) (fun _ _ h=>⟨h,rfl⟩) fun b ag=>⟨by simp [k6,ag],rfl,fun _ h=>h⟩⟩
 | [],h =>
   obtain ⟨xs,aV,aX,cB⟩:=mP ah bZ (g:=fun x=>match x with | .tmp t=>pure (bh.getD t undef) | .cell a t=>do loadVar t (←asAddr (bh.getD a undef))) (fun _=>rfl) (fun _ _=>rfl) _ _ h
   match xs,aX with
   | [],_=>exact ⟨.tuple #[],by rw [run _ aV];rfl,a3.same ah (.tuple [] #[] rfl (by simp) (by simp)) rfl⟩
 | fy::gn::us,h =>
   obtain ⟨a6,dx,dq,bY,ky,o9⟩:=AS T bh.toList .slot S (fun i j h=>by cases h;rfl) (fun i id=>by simp) (fun i id j=>by simp) bZ ah;have de:bk U S w U a6 w:=bk.settle dx fun b o h=>(dq b o h).imp id fun ⟨i,h⟩=>⟨_,h⟩;obtain ⟨xs,aV,aX,cB⟩:=mP ah bZ (g:=fun x=>match x with | .tmp t=>pure (bh.getD t undef) | .cell a t=>do loadVar t (←asAddr (bh.getD a undef))) (fun _=>rfl) (fun _ _=>rfl) _ _ h
   refine ⟨.tuple xs.toArray,by
    rw [run _ aV]
    have:¬ xs.toArray.size=1:=by simp at aX ⊢;omega
    rw [dif_neg this],a3.after (Ext.refl J) de (a3.same bY (.tuple _ _ (by simp at aX ⊢;omega) ?_ ?_) rfl)⟩
   ·intro y a2;obtain ⟨x,_,rfl⟩:=sJ.1 a2;exact I.dk x
   ·intro j y x a2 al;simp only [sN,sr] at a2;obtain ⟨u,hu,rfl⟩:=a2;obtain ⟨r1,r2⟩:=cB j u x hu (by simpa using al);rcases r2 with ⟨aC,_⟩ | ⟨t,⟨rfl,rfl⟩,_⟩
    ·rw [I.kl aC];exact r1.mono (Ext.refl J) fun b o h=>⟨dx b o h,rfl⟩
    ·have:=(o1 o9 t).1;have ae:c8 (T.map I.view) t=(c8 T t).view:=by
      rw [f_,f_,sV,sV,sN];cases T[t]? <;> rfl
     rw [ae] at this;exact this
end
end Go.Proofs.YtfakoboiahbhaaaGreat.Ab


namespace Go.Proofs.YtfakoboiahbhaaaGreat.Ab
open Go
def gT (bl:List Nat) (U:Nat→Option aI):Nat→Option aI:=fun b=>match U b with
 | some (.arg i)=>(bl[i]?).map .slot
 | some (.obj id)=>some (.obj id)
 | some (.cell id j)=>some (.cell id j)
 | _=>none
section
variable {P:Program} {B N:Nat} {J:List Nat} {w:World} {H:List au} {U:Nat→Option aI} {S:Nat→Nat→Prop}
theorem Ba (bl:List Nat) (ah:aL B U J S w H):bk U S w (gT bl U) S w∧aL B (gT bl U) J S w H :=
 relabel ah (fun b h=>by simp [gT,h]) fun b l h ak=>by
  rcases ak with ⟨id,rfl⟩ | ⟨id,j,rfl⟩ <;> simp [gT,h]
theorem xQ:∀ (bl:List Nat) (us:List I) (T a9:List I) (xs bh:List Value),hq bl us T=some a9→us.length=xs.length→T.length=bh.length →
  bl.length=us.length∧a9.length=T.length∧((bl.zip xs).foldl (fun (l:List Value) (p:Nat×Value)=>l.set p.1 p.2) bh).length=bh.length ∧
  ∀ (i:Nat) (u:I) (x:Value),a9[i]?=some u→((bl.zip xs).foldl (fun (l:List Value) (p:Nat×Value)=>l.set p.1 p.2) bh)[i]?=some x →
    (T[i]?=some u∧bh[i]?=some x)∨∃ (j:Nat),bl[j]?=some i∧us[j]?=some u∧xs[j]?=some x
 | [],[],T,a9,xs,bh,h,ak,ax=>by
   simp only [hq,Option.some.injEq] at h;subst h;exact ⟨rfl,rfl,by simp,fun i u x hu al=>.inl ⟨hu,by simpa using al⟩⟩
 | p::bl,x0::us,T,a9,jn::xs,bh,h,ak,ax=>by
   simp only [hq,gS] at h;obtain ⟨ad,af,aG,a8⟩:=xQ bl us (T.set p x0) a9 xs (bh.set p jn) h (by simpa using ak) (by simpa using ax);refine ⟨by simp [ad],by simpa using af,by simpa using aG,fun i u x hu al=>?_⟩;rcases a8 i u x hu (by simpa using al) with ⟨aJ,aP⟩ | ⟨j,aJ,aP,cl⟩
   ·by_cases yW:p=i
    ·subst yW;(have dO:p<T.length:=by have:=(ss.1 aJ).1;simpa using this);(have kS:p<bh.length:=by omega);rw [sE dO] at aJ;rw [sE kS] at aP;exact .inr ⟨0,rfl,by simpa using aJ,by simpa using aP⟩
    ·rw [sG yW] at aJ aP;exact .inl ⟨aJ,aP⟩
   ·exact .inr ⟨j+1,by simpa using aJ,by simpa using aP,by simpa using cl⟩
 | [],_::_,T,a9,xs,bh,h,ak,ax=>by simp [hq] at h
 | _::_,[],T,a9,xs,bh,h,ak,ax=>by simp [hq] at h
 | _::_,_::_,T,a9,[],bh,h,ak,ax=>by simp at ak
theorem Aw (L:Loop) (vs:List Value):(hM L vs).toList=(L.params.toList.zip vs).foldl (fun (l:List Value) (p:Nat×Value)=>l.set p.1 p.2) L.tmps.toList:=by
 unfold hM;rw [←Array.foldl_toList,Array.toList_zip];generalize L.params.toList.zip vs=gp;generalize L.tmps=bh
 induction gp generalizing bh with
 | nil=>rfl
 | cons z gp bb=>simp only [List.foldl_cons];rw [bb];simp
theorem cv.loop {s:a7} {a:Act} (aK:cv B N U J S w s a) {id b:Nat} {L:Loop} {st:LoopState} {cI:Option Code} {fn:FuncId} {T:List I} {bl:List Nat} {as b0:Code} {an:c'}
  (aE:s.H[id]?=some (.loop st cI fn T bl as b0 an)) (ag:J[id]?=some b) (fr:w.heap[b]?=some (.loop L)) (hr:LoopState) (hl:Option Code) :
  bk U S w U S (w.putObj b (.loop { L with state:=hr,pending:=hl }))∧cv B N U J S (w.putObj b (.loop { L with state:=hr,pending:=hl })) ⟨s.T,s.H.set id (.loop hr hl fn T bl as b0 an)⟩ a:=by
 obtain ⟨aA,ah,_⟩:=Dy aK.H aE ag fr hr hl;obtain ⟨_,_,ar,oA,aB,aH,_⟩:=aK.H.obj id _ aE;rw [ag] at aB;cases aB;refine ⟨aA,⟨⟨aK.T.len,fun i u v hu ae=>(aK.T.rel i u v hu ae).mono (Ext.refl J) aA.set,fun i u v hu ae=>?_⟩,ah,aK.M.aA aA⟩⟩;refine (aK.T.own i u v hu ae).mono (Ext.refl J) aA.set fun ar bt=>⟨bt,World.putObj_heap_other (fun e=>?_),fun _ h=>h⟩;subst e;rw [aH] at bt;cases bt
theorem BN (dM:P.follows .mixedOrders=true) {C:b8} (bx:dc P C) {k:Nat} {f:Func} {c:Code} (aQ:P.funcs[k]?=some f) (ag:f.body=some c) {A:c'} (bQ:codeOk A c=true)
  {lo d:Nat} {args:List I} {e:cE} {s:a7} (h:exec P A C k lo d none c 0 ⟨args++List.replicate (f.ntmps-args.length) .junk,H⟩=some (e,s)) (he:e=.normal∨e=.ret) {vs:List I}
  (aj:fl P s.H s.T f.results.toList=some vs) {xs:List Value} (ah:aL B U J S w H) (ae:a' (fun i=>.arg i) U J S w args xs) :
  CallsIn Fence.wide 0 P k xs.toArray w (fA B U J S w s.H (hk vs)):=by
 refine callsIn_of_wp_marks aQ ag trivial ?_;have aK:=xU ah ae f.ntmps;have de:=(oq ah).1;refine nj bx dM c 0 _ _ _ h bQ Fence.wide _ B w.heap.size J w (hR U) S _ (.inl ⟨rfl,rfl⟩) (fun l a w aO=>aO.elim) aK fun aM w' ai=>?_;obtain ⟨b4,cT,a6,aJ,aP,cb⟩:=ai;have iS:LeavesInM Fence.wide 0 P f aM.tmps (fA B U J S w s.H (hk vs)) aM.defers .returning w':=by
  refine nN (U:=b4) (S:=a6) (J:=cT) (B:=B) (H:=s.H) (lu:=U) (S0:=S) (w0:=w) aM.defers w' cb.M.2.1 cb.M.2.2 (de.trans aP) cb.H fun bV dx dq mu mv=>?_
  have bZ:a' .slot b4 cT a6 bV s.T aM.tmps.toList:=⟨cb.T.len,fun i u v hu ae=>(cb.T.rel i u v hu ae).mono (Ext.refl _) (fun b o h=>⟨h,dq b o h⟩),fun i u v hu ae =>
   (cb.T.own i u v hu ae).mono (Ext.refl _) (fun b o h=>⟨h,dq b o h⟩) fun b ag=>⟨ag,dx b _ ag,fun _ h=>h⟩⟩
  obtain ⟨v,aV,aX⟩:=xy mv bZ aj;exact ⟨v,aV,a3.after aJ mu aX⟩
 rcases he with rfl | rfl
 ·exact iS
 ·exact iS
end
end Go.Proofs.YtfakoboiahbhaaaGreat.Ab


namespace Go.Proofs.YtfakoboiahbhaaaGreat.Ab
open Go
section
variable {P:Program} {B N:Nat} {J:List Nat} {w:World} {H:List au} {U:Nat→Option aI} {S:Nat→Nat→Prop}
def la (l:Nat) (H:List au) (fn:FuncId) (T:List I) (bl:List Nat) (as b0:Code) (an:c'):cE→I×List au
 | .normal=>(.bool true,H.set l (.loop .ready none fn T bl as b0 an))
 | .ret=>(.bool false,H.set l (.loop .done (some .ret) fn T bl as b0 an))
 | .exit id=>(.bool false,H.set l (.loop .done (some (.exit id)) fn T bl as b0 an))
theorem BO (dM:P.follows .mixedOrders=true) {C:b8} (bx:dc P C) {l lo d:Nat} {fn fn':FuncId} {j5 cI:Option Code} {T a9 dV dH:List I} {bl gN fS:List Nat} {as b0 gC gD fE fF:Code} {an gA fD:c'} {fZ fH:FuncId} {args:List I}
  (ak:H[l]?=some (.loop .ready j5 fn T bl as b0 an)) (eo:hq bl args T=some a9) {s1 s2:a7} {e:cE} {j6:Option Code}
  (ad:exec P an C fn lo d (some l) as 0 ⟨a9,H⟩=some (.normal,s1)) (hG:s1.H[l]?=some (.loop .ready cI fZ dV gN gC gD gA))
  (af:exec P an C fn' lo d (some l) b0 0 ⟨s1.T,s1.H.set l (.loop .busy cI fZ dV gN gC gD gA)⟩=some (e,s2)) (fg:s2.H[l]?=some (.loop .busy j6 fH dH fS fE fF fD))
  {xs:List Value} {b:Nat} (ah:aL B U J S w H) (ae:a' (fun i=>.arg i) U J S w args xs) (ag:J[l]?=some b) :
  ∃ L,w.heap[b]?=some (.loop L)∧xs.length=L.params.size ∧
    RoundIn Fence.wide 0 P b L.fn (hM L xs) L.assign L.body w (fA B U J S w (la l s2.H fH dH fS fE fF fD e).2 (la l s2.H fH dH fS fE fF fD e).1):=by
 obtain ⟨bc,bn,ar,L,aB,aH,aR,bm,bf,bj,c4,dd,dI,fC,oD⟩:=ah.obj l _ ak;rw [ag] at aB;cases aB;have cM:=xQ bl args T a9 xs L.tmps.toList eo ae.len (by simpa using c4.symm);obtain ⟨cd,b_,eb,hy⟩:=cM;refine ⟨L,aR,by rw [←ae.len,←cd,←dI];simp,?_⟩;refine roundIn_of_wpIn trivial ?_;have mh:(hM L xs).toList=(bl.zip xs).foldl (fun (l:List Value) (p:Nat×Value)=>l.set p.1 p.2) L.tmps.toList:=by rw [Aw,dI]
 obtain ⟨de,fI⟩:=Ba bl ah;have aK:cv B w.heap.size (gT bl U) J S w ⟨a9,H⟩ { tmps:=hM L xs,defers:=[] }:=by
  refine ⟨?_,fI,sx _,fun d a1=>by simp at a1,List.Pairwise.nil⟩;simp only [mh];have key:∀ (i:Nat) (u:I) (x:Value),a9[i]?=some u→((bl.zip xs).foldl (fun (l:List Value) (p:Nat×Value)=>l.set p.1 p.2) L.tmps.toList)[i]?=some x →
    Rel J S w u x∧aW (gT bl U) J S w (.slot i) u x:=fun i u x hu al=>by
   rcases hy i u x hu al with ⟨aJ,aP⟩ | ⟨j,aJ,aP,cl⟩
   ·obtain ⟨bT,b6⟩:=dd i u x aJ (by simpa using aP);exact ⟨b6,aW.b5 bT⟩
   ·exact ⟨ae.rel j u x aP cl,(ae.own j u x aP cl).mono (Ext.refl J) (fun _ _ h=>⟨h,rfl⟩) fun b ag=>⟨by simp [gT,ag,aJ],rfl,fun _ h=>h⟩⟩
  exact ⟨by rw [b_,eb,←c4];simp,fun i u x hu al=>(key i u x hu al).1,fun i u x hu al=>(key i u x hu al).2⟩
 rw [fC,oD];refine nj bx dM as 0 _ _ _ ad bc _ _ B w.heap.size J w (gT bl U) S _ (.inr ⟨l,b,rfl,ag,rfl⟩) (fun l a w aO=>aO) aK fun aB bF ai=>?_;obtain ⟨b4,cT,a6,aJ,aP,cb⟩:=ai;have e0:cT[l]?=some b:=aJ _ _ ag;obtain ⟨_,_,ar,js,d1,d2,d3,d4,d5,_⟩:=cb.H.obj l _ hG;rw [e0] at d1;cases d1;obtain ⟨ea,o4⟩:=cb.loop hG e0 d3 .busy cI;have pa:(Instr.beginRound b).run P bF=.ok () (bF.putObj b (.loop { js with state:=.busy,pending:=cI })):=by
  rw [run_beginRound d3 d4]
  have:({ js with state:=.busy,pending:=cI }:Loop)={ js with state:=.busy }:=by rw [←d5]
  rw [this]
 refine ⟨_,pa,?_⟩;refine wpIn_mono (Q:=fun cP aM w'=>(∀ t,cP≠Exit.goto t)∧roundPost P b (fA B U J S w (la l s2.H fH dH fS fE fF fD e).2 (la l s2.H fH dH fS fE fF fD e).1) cP aM w') ?_ (fun e a w h=>h.2);refine nj bx dM b0 0 _ _ _ af bn _ _ B w.heap.size cT _ b4 a6 _ (.inr ⟨l,b,rfl,e0,rfl⟩) (fun l a w aO=>aO.1 l rfl) o4 fun aH bV ai=>?_;obtain ⟨bq,cj,bJ,cl,jW,lS⟩:=ai;have fs:cj[l]?=some b:=cl _ _ e0;obtain ⟨_,_,ar,iD,f1,f2,f3,f4,f5,_⟩:=lS.H.obj l _ fg;rw [fs] at f1;cases f1;have jE:bk U S w bq bJ bV:=((de.trans aP).trans ea).trans jW;have fin:∀ (st:LoopState) (jump:Option Code),a3 B U J S w (s2.H.set l (.loop st jump fH dH fS fE fF fD)) (.bool jump.isNone) (.bool jump.isNone) (bV.putObj b (.loop { iD with state:=st,pending:=jump })):=fun st jump=>by
  obtain ⟨oU,o5⟩:=lS.loop fg fs f3 st jump;exact ⟨bq,cj,bJ,aJ.trans cl,jE.trans oU,o5.H,.bool _,aW.b5 rfl⟩
 refine ⟨fun t ax=>(by cases e <;> cases ax),?_⟩;cases e with
 | normal=>exact ⟨_,_,run_endRound none f3,fin .ready none⟩
 | ret=>exact ⟨_,_,run_endRound (some .ret) f3,fin .done (some .ret)⟩
 | exit id=>exact ⟨_,_,run_endRound (some (.exit id)) f3,fin .done (some (.exit id))⟩
theorem BP (dM:P.follows .mixedOrders=true) (A:FuncId→c') {tab:b8} (ax:dc P tab)
  (bQ : ∀ k f c, (A k).bad = false → P.funcs[k]? = some f → f.body = some c → codeOk (A k) c = true ∧ f.name ≠ "runtime.NumGoroutine") : ∀ d, dc P (fX P A tab d)
 | 0=>⟨fun h=>by simp [fX] at h,fun h=>by simp [fX] at h⟩
 | d+1=>by
   have bx:=BP dM A ax bQ d;have yy:∀ {k:FuncId} {args:List I} {H:List au} {lo:Nat} {r:I} {H':List au},fX P A tab (d+1) (.fn k) args H lo=some (r,H')→tab (.fn k) args H lo=some (r,H') ∨
     ∃ f c e s vs,(A k).bad=false∧P.funcs[k]?=some f∧f.body=some c∧exec P (A k) (fX P A tab d) k lo d none c 0 ⟨args++List.replicate (f.ntmps-args.length) .junk,H⟩=some (e,s)∧(e=.normal∨e=.ret) ∧
       fl P s.H s.T f.results.toList=some vs∧r=hk vs∧H'=s.H:=fun {k args H lo r H'} h=>by
    simp only [fX] at h;split at h
    ·rename_i x al;cases h;exact .inl al
    ·right;split at h
     ·simp at h
     rename_i nn;split at h
     ·rename_i f aQ;split at h
      ·rename_i c ag;split at h
       ·rename_i s ai;simp only [sr,Prod.mk.injEq] at h;obtain ⟨vs,aj,rfl,rfl⟩:=h;exact ⟨f,c,_,s,vs,nn,aQ,ag,ai,.inl rfl,aj,rfl,rfl⟩
       ·rename_i s ai;simp only [sr,Prod.mk.injEq] at h;obtain ⟨vs,aj,rfl,rfl⟩:=h;exact ⟨f,c,_,s,vs,nn,aQ,ag,ai,.inr rfl,aj,rfl,rfl⟩
       ·simp at h
      ·simp at h
     ·simp at h
   have Bm:∀ {l:Nat} {args:List I} {H:List au} {lo:Nat} {r:I} {H':List au},fX P A tab (d+1) (.yield l) args H lo=some (r,H') →
     ∃ j5 fn T bl as b0 an a9 s1 cI fZ dV gN gC gD gA e s2 j6 fH dH fS fE fF fD,lo≤l∧H[l]?=some (.loop .ready j5 fn T bl as b0 an)∧hq bl args T=some a9 ∧
       exec P an (fX P A tab d) fn lo d (some l) as 0 ⟨a9,H⟩=some (.normal,s1)∧s1.H[l]?=some (.loop .ready cI fZ dV gN gC gD gA) ∧
       exec P an (fX P A tab d) fZ lo d (some l) b0 0 ⟨s1.T,s1.H.set l (.loop .busy cI fZ dV gN gC gD gA)⟩=some (e,s2)∧s2.H[l]?=some (.loop .busy j6 fH dH fS fE fF fD) ∧
       (r,H')=la l s2.H fH dH fS fE fF fD e:=fun {l args H lo r H'} h=>by
    simp only [fX] at h;split at h
    ·simp at h
    ·rename_i bG;split at h
     ·rename_i j5 fn T bl as b0 an ak;split at h
      ·rename_i a9 eo;split at h
       ·rename_i s1 ad;split at h
        ·rename_i cI fZ dV gN gC gD gA hG;split at h
         ·rename_i e s2 af;split at h
          ·rename_i j6 fH dH fS fE fF fD fg;refine ⟨j5,fn,T,bl,as,b0,an,a9,s1,cI,fZ,dV,gN,gC,gD,gA,e,s2,j6,fH,dH,fS,fE,fF,fD,by omega,ak,eo,ad,hG,af,fg,?_⟩;cases e <;> simp only [Option.some.injEq] at h <;> exact h.symm
          ·simp at h
         ·simp at h
        ·simp at h
       ·simp at h
      ·simp at h
     ·simp at h
   refine ⟨fun {b2 args H lo r H'} h=>?_,fun {b2 args H lo r H'} h=>?_⟩
   ·cases b2 with
    | fn k =>
      rcases yy h with h | ⟨f,c,e,s,vs,_,_,_,aG,_,_,_,rfl⟩
      ·exact ax.low h
      ·exact oX bx c 0 _ e s aG
    | yield l =>
      obtain ⟨j5,fn,T,bl,as,b0,an,a9,s1,cI,fZ,dV,gN,gC,gD,gA,e,s2,j6,fH,dH,fS,fE,fF,fD,bG,ak,eo,ad,hG,af,fg,aj⟩:=Bm h;have dh:=oX bx as 0 _ _ s1 ad;have di:=oX bx b0 0 _ e s2 af;(have jX:bd lo s2.H (la l s2.H fH dH fS fE fF fD e).2:=by cases e <;> exact bd.set _ _ bG);rw [←aj] at jX;exact (dh.trans ((bd.set s1.H _ bG).trans di)).trans jX
   ·cases b2 with
    | fn k =>
      rcases yy h with h | ⟨f,c,e,s,vs,nn,aQ,ag,aG,he,aj,rfl,rfl⟩
      ·exact ax.ok h
      obtain ⟨bD,bS⟩:=bQ k f c nn aQ ag;exact ⟨⟨f,aQ,by simp [ag],bS⟩,fun B U J S w xs ah _ ae=>BN dM bx aQ ag bD aG he aj ah ae⟩
    | yield l =>
      obtain ⟨j5,fn,T,bl,as,b0,an,a9,s1,cI,fZ,dV,gN,gC,gD,gA,e,s2,j6,fH,dH,fS,fE,fF,fD,bG,ak,eo,ad,hG,af,fg,aj⟩:=Bm h;intro B U J S w xs b ah _ ae ag;have:=BO dM bx ak eo ad hG af fg ah ae ag;rw [←aj] at this;exact this
end
end Go.Proofs.YtfakoboiahbhaaaGreat.Ab


namespace Go.Proofs.YtfakoboiahbhaaaGreat.Ab
open Go
def Sem (P:Program) (b2:e') (args:List I) (H:List au) (lo:Nat) (r:I) (H':List au):Prop:=bd lo H H'∧jv P b2 args H H' r
def lv (P:Program) (k:FuncId) (args:List I) (v:I):Prop:=Sem P (.fn k) args [] 0 v []∧ct 8 v=true
abbrev dm:=List (FuncId×List I×I)
def ht (P:Program) (acc:dm):Prop:=(∀ p∈acc,lv P p.1 p.2.1 p.2.2)∧∀ p∈acc,∀ q∈acc,p.1=q.1→p.2.1=q.2.1→p.2.2=q.2.2
def hV (C:b8) (acc:dm):Prop:=∀ p∈acc,∃ r a4,C (.fn p.1) p.2.1 [] 0=some (r,a4)∧bL a4 0 a4.length 0 8 r=some p.2.2
section
variable {P:Program}
theorem oN {C:b8} (h:∀ b2 args H lo r H',C b2 args H lo=some (r,H')→Sem P b2 args H lo r H'):dc P C :=
 ⟨fun ao=>(h _ _ _ _ _ _ ao).1,fun ao=>(h _ _ _ _ _ _ ao).2⟩
theorem dc.GF {C:b8} (bx:dc P C) {b2:e'} {args:List I} {H:List au} {lo:Nat} {r:I} {H':List au} (h:C b2 args H lo=some (r,H')):Sem P b2 args H lo r H':=⟨bx.low h,bx.ok h⟩
theorem yl:dc P (fun _ _ _ _=>none):=oN fun _ _ _ _ _ _ h=>by cases h
noncomputable def kZ (b2:e') (args:List I) (H:List au) (lo:Nat) (r:I) (H':List au):b8:=fun t a h l =>
 open Classical in if t=b2∧a=args∧h=H∧l=lo then some (r,H') else none
theorem D5 (b2:e') (args:List I) (H:List au) (lo:Nat) (r:I) (H':List au):kZ b2 args H lo r H' b2 args H lo=some (r,H'):=by simp [kZ]
theorem D6 {b2:e'} {args:List I} {H:List au} {lo:Nat} {r:I} {H':List au} (h:Sem P b2 args H lo r H'):dc P (kZ b2 args H lo r H') :=
 oN fun t a aY l r' a4 ao=>by
  unfold kZ at ao;split at ao
  ·rename_i he;obtain ⟨rfl,rfl,rfl,rfl⟩:=he;cases ao;exact h
  ·cases ao
theorem zz {f:I→Option I}:∀ {l:List I},(∀ u∈l,f u=some u)→eh f l=some l
 | [],_=>rfl
 | u::l,h=>by
   simp only [eh,h u (by simp),zz (l:=l) fun v ae=>h v (by simp [ae]),sB]
theorem o0 {H:List au} {lo id0 n:Nat}:∀ {d:Nat} {v:I},ct d v=true→bL H lo id0 n d v=some v
 | 0,v,h=>by simp [ct] at h
 | d+1,v,h=>by
   have key:∀ {l:List I},l.all (ct d)=true→eh (bL H lo id0 n d) l=some l:=fun h=>zz fun u hu=>o0 (by rw [sS] at h;exact h u hu);cases v <;> simp only [ct,ub] at h <;> try rfl
   case ay cells len c=>simp only [bL,key h,sB]
   case bW cells=>simp only [bL,key h,sB]
   case agg cs=>simp only [bL,key h,sB]
   case tuple cs=>simp only [bL,key h,sB]
   case func f a b =>
    simp only [sM] at h;simp only [bL,key h.1,key h.2]
theorem oG {acc:dm} (h:ht P acc):∃ C,dc P C∧hV C acc:=by
 classical
 obtain ⟨ad,af⟩:=h;have key:∀ x:e'×List I×List au×Nat,∃ o:Option (I×List au),(∀ r H',o=some (r,H')→Sem P x.1 x.2.1 x.2.2.1 x.2.2.2 r H') ∧
   ∀ p∈acc,x=(.fn p.1,p.2.1,[],0)→∃ r a4,o=some (r,a4)∧bL a4 0 a4.length 0 8 r=some p.2.2:=fun x=>by
  by_cases al:∃ p∈acc,x=(.fn p.1,p.2.1,[],0)
  ·obtain ⟨p,aC,rfl⟩:=al;obtain ⟨aV,aX⟩:=ad p aC;refine ⟨some (p.2.2,[]),fun r' H' e=>by cases e;exact aV,fun q a5 e=>?_⟩;simp only [Prod.mk.injEq,e'.fn.injEq] at e;exact ⟨p.2.2,[],rfl,by rw [o0 aX,af p aC q a5 e.1 e.2.1]⟩
  ·exact ⟨none,(fun r H' e=>nomatch e),fun p aC e=>absurd ⟨p,aC,e⟩ al⟩
 let C:b8:=fun t a H l=>Classical.choose (key (t,a,H,l))
 have bx:∀ t a H l,_:=fun t a H l=>vS (key (t,a,H,l));exact ⟨C,oN fun t a H l r H' ao=>(bx t a H l).1 r H' ao,fun p aC=>(bx _ _ _ _).2 p aC rfl⟩
def x8 (o:Oper) (s:a7) (K:a7→Prop):Prop :=
 ∃ it r m since seen es clock,o.op=.next it false∧o.guard=none∧Ab.aA s.T it=.ptr r 0∧s.H[r]?=some (.iter m since seen clock)∧s.H[m]?=some (.map es clock)∧since≤clock∧(∀ e∈es,e.1<since) ∧
   ((∀ e∈es,e.1∈seen)→K ⟨put s.T o.dst (.tuple [.bool false]),s.H⟩) ∧
   ∀ e∈es,e.1 ∉ seen→K ⟨put s.T o.dst (.tuple [.bool true,e.2.1,e.2.2]),s.H.set r (.iter m since (seen++[e.1]) clock)⟩
section
variable {B N:Nat} {J:List Nat} {w:World} {H:List au} {U:Nat→Option aI} {S:Nat→Nat→Prop}
theorem Di (ah:aL B U J S w H) {id m since since' kg stepped':Nat} {seen seen':List Nat} (aE:H[id]?=some (.iter m since seen kg)) {b ei:Nat}
  (aB:J[id]?=some b) (aH:U b=some (.obj id)) (aR:J[m]?=some ei) (bf:∀ o,¬ S b o) :
  bk U S w U S (w.putObj b (.mapIter (some ei) since' seen'.toArray stepped'))∧aL B U J S (w.putObj b (.mapIter (some ei) since' seen'.toArray stepped')) (H.set id (.iter m since' seen' stepped')):=by
 have hA:∀ ar o,S ar o→ar≠b:=fun ar o ai e=>bf o (e ▸ ai);have ag:=(ah.base b _ aH).2;have aA:bk U S w U S (w.putObj b (.mapIter (some ei) since' seen'.toArray stepped')) :=
  ⟨rfl,rfl,rfl,by simp,fun ar _ aN=>World.putObj_heap_other (fun e=>by subst e;rw [aH] at aN;cases aN),fun ar o ai=>⟨ai,n2 (hA ar o ai)⟩,fun ar o ai=>.inl ai,fun ar h=>.inl h⟩
 refine ⟨aA,by simpa using ah.cH,fun bB o aq=>?_,fun ar o ai=>?_,fun ar l h=>by simpa using ah.base ar l h,by simpa using ah.c1⟩
 ·by_cases g4:bB=id
  ·subst g4;rw [sE (ss.1 aE).1] at aq;cases aq;exact ⟨b,ei,aB,aH,aR,World.putObj_heap_same ag,bf⟩
  ·rw [sG (fun e=>g4 e.symm)] at aq;refine (ah.obj bB o aq).frame (Ext.refl J) aA.set fun ar cx bt jO=>?_;have bO:ar≠b:=fun e=>by
    subst e;rw [aH] at bt;cases bt;rcases jO with h | ⟨j,h⟩
    ·cases h;exact g4 rfl
    ·cases h
   exact ⟨bt,World.putObj_heap_other bO,fun o ai=>ai⟩
 ·obtain ⟨v,ae⟩:=ah.ch ar o ai;exact ⟨v,(n2 (hA ar o ai)).trans ae⟩
theorem DZ {F:Fence} (bE:er F) {o:Oper} {s:a7} {K':a7→Prop} (h:x8 o s K') {a:Act} (aK:cv B N U J S w s a)
  {K:Act→World→Prop} {Q:Exit→Act→World→Prop} (fJ:∀ aF,K' aF→∀ aM w',Step B N U J S w aF aM w'→K aM w'):o.wpIn F 0 P a w K Q:=by
 obtain ⟨it,r,m,since,seen,es,clock,aD,aO,CF,aj,hm,pM,hold,dg,aJ⟩:=h;have jQ:∀ c,o.op≠.defer c:=fun c ao=>by rw [aD] at ao;cases ao
 refine ⟨fun f _=>bE.fn f,?_⟩;rw [Oper.semAt_eq _ _ _ jQ];have l1:=aK.aA it;rw [CF] at l1;have fI:=mg aK.H;obtain ⟨b,ei,aB,aH,aR,bm,bf⟩:=fI.obj r _ aj;obtain ⟨F6,bA,bc,bn,bu,b9,d',fW⟩:=fI.obj m _ hm;rw [aR] at bc;cases bc;generalize ae:a.eval it=v at l1;cases l1 with
 | ptr _ _ ar e2 =>
   rw [aB] at e2;cases e2;have Cg:∀ x∈bA.toList,x.born<since:=fun x al=>by
    obtain ⟨j,aw⟩:=tV.1 al;(have ej:bA[j]?=some x:=by simpa using aw);(have aU:j<es.length:=by have:=(tp.1 ej).1;omega);rcases bK:es[j] with ⟨i,k,v⟩;(have he:es[j]?=some (i,k,v):=by rw [sI aU,bK]);rw [(fW j i k v x he ej).1];exact hold (i,k,v) (sY he)
   have done:∀ {r':I} {H':List au} {v:Value} {w':World},a3 B (dp U) J S w H' r' v w'→K' ⟨put s.T o.dst r',H'⟩→K (a.put o.dst v) w':=fun {r' H' v w'} aC av=>by
    obtain ⟨az,b1,S',aV,aX,f',_⟩:=n1 o.dst aK aC .junk (fun _ _ _ _ _=>.junk _);exact fJ _ av _ _ ⟨az,b1,S',aV,aX,f'⟩
   rcases run_next_at (P:=P) w o.type b ei since clock seen.toArray bA clock bm bu Cg pM with ⟨aN,dQ⟩ | ⟨x,al,bF,y8,dQ⟩
   ·(have pL:(Go.execOp a.eval o).run P w=.ok (.value (.tuple #[.bool false])) w:=by simp [Go.execOp,aD,ae,dQ]);rw [pL];refine done (a3.same fI (.tuple _ _ rfl (by simp [I.plain]) fun j u bw hu bg=>?_) rfl) (dg fun e he=>?_)
    ·match j with
     | 0=>simp at hu bg;subst hu;subst bg;exact .bool _
     | j+1=>simp at hu
    ·obtain ⟨j,aw⟩:=tV.1 he;have aU:j<es.length:=(ss.1 aw).1;have al:bA[j]?=some bA[j]:=sT (by omega);have ag:=(fW j e.1 e.2.1 e.2.2 _ aw al).1;have l0:leftOf bA seen.toArray=#[]:=Array.eq_empty_of_size_eq_zero aN;unfold leftOf at l0;rw [Array.filter_eq_empty_iff] at l0;have:=l0 bA[j] (by simp);simpa [ag] using this
   ·have pL:(Go.execOp a.eval o).run P w=.ok (.value (.tuple #[.bool true,x.key,x.val])) (bF.putObj b (.mapIter (some ei) since (seen++[x.born]).toArray clock)):=by
     simp [Go.execOp,aD,ae,dQ,Go.ChangeMaps.setBlock,World.putObj]
    rw [pL];have nG:x∈bA.toList∧x.born ∉ seen:=by
     unfold leftOf at al;simpa using al
    obtain ⟨j,aw⟩:=tV.1 nG.1;(have ej:bA[j]?=some x:=by simpa using aw);(have aU:j<es.length:=by have:=(tp.1 ej).1;omega);rcases bK:es[j] with ⟨i,k,v⟩;(have he:es[j]?=some (i,k,v):=by rw [sI aU,bK]);obtain ⟨d1,d2,d3,d4,d5⟩:=fW j i k v x he ej;have kF:(i,k,v)∈es:=sY he;refine done (r':=.tuple [.bool true,k,v]) (H':=s.H.set r (.iter m since (seen++[i]) clock)) ?_ (aJ _ kF (by rw [←d1];exact nG.2));(have hw:aL B (dp U) J S bF s.H:=by rcases y8 with rfl | rfl;exact fI;exact mf fI);(have pj:bk (dp U) S w (dp U) S bF:=by rcases y8 with rfl | rfl;exact bk.refl _ _ _;exact kq _ _ _);refine a3.after (Ext.refl J) pj ?_;obtain ⟨aA,cf⟩:=Di hw (since':=since) (stepped':=clock) (seen':=seen++[i]) aj aB aH aR bf;rw [d1];refine ⟨dp U,J,S,Ext.refl J,aA,cf,.tuple _ _ rfl (fun u hu=>?_) (fun j u bw hu bg=>?_),aW.b5 rfl⟩
    ·simp only [sH,List.not_mem_nil,or_false] at hu;rcases hu with rfl | rfl | rfl
     ·rfl
     ·exact d2
     ·exact d4
    ·match j with
     | 0=>simp at hu bg;subst hu;subst bg;exact .bool _
     | 1=>simp at hu bg;subst hu;subst bg;exact (d3.mono (Ext.refl J) pj.set).mono (Ext.refl J) aA.set
     | 2=>simp at hu bg;subst hu;subst bg;exact (d5.mono (Ext.refl J) pj.set).mono (Ext.refl J) aA.set
     | j+3=>simp at hu
end
end
end Go.Proofs.YtfakoboiahbhaaaGreat.Ab


namespace Go.Proofs.YtfakoboiahbhaaaGreat.Ab
open Go
section
variable {P:Program} {B N:Nat} {J:List Nat} {w:World} {U:Nat→Option aI} {S:Nat→Nat→Prop}
theorem xP {C:b8} {lo:Nat} {ops:Array Oper} {an:List b7} {i:Nat} {cR:Oper} (hi:ops[i]?=some cR) {R:Nat→Nat→Prop} {aF:a7}:∀ (l:List Nat) (s:a7),l.Pairwise R→i∈l →
  (∀ j∈l,R j i→∀ c5,ops[j]?=some c5→indep ops c5 (an.getD j {}) cR (an.getD i {})=true)→cy P C lo ops an l s=some aF →
  ∃ s1,dy P C lo ops cR (an.getD i {}) s=some s1∧cy P C lo ops an (l.erase i) s1=some aF
 | [],s,_,h,_,_=>by simp at h
 | j::r,s,aC,hm,jN,h=>by
   by_cases g7:j=i
   ·subst g7;simp only [cy,hi,sC] at h;obtain ⟨s1,ad,af⟩:=h;exact ⟨s1,ad,by simpa using af⟩
   ·have aj:i∈r:=by
     rcases sH.1 hm with h | h
     ·exact absurd h.symm g7
     ·exact h
    have aU:R j i:=(tD.1 aC).1 i aj;have he:(j::r).erase i=j::r.erase i:=by
     rw [List.erase_cons];simp [g7]
    rw [he];simp only [cy] at h ⊢;cases aw:ops[j]? with
    | none =>
      simp only [aw] at h;exact xP hi r s (tD.1 aC).2 aj (fun k av=>jN k (by simp [av])) h
    | some c5 =>
      simp only [aw,sC] at h;obtain ⟨s1,ad,af⟩:=h;obtain ⟨s2,aJ,aP⟩:=xP hi r s1 (tD.1 aC).2 aj (fun k av=>jN k (by simp [av])) af;obtain ⟨dj,aV,aX⟩:=A5 (jN j (by simp) aU c5 aw) ad aJ;exact ⟨dj,aV,by dsimp only;rw [aX];exact aP⟩
def c_ (O:List Nat) (aZ:Array Bool):List Nat:=O.filter fun i=>!aZ.getD i true
theorem Ac {O:List Nat} (lU:O.Nodup) {i:Nat} {aZ:Array Bool}:c_ O (aZ.setIfInBounds i true)=(c_ O aZ).erase i:=by
 have jQ:(c_ O aZ).Nodup:=lU.filter _;rw [jQ.erase_eq_filter];simp only [c_,List.filter_filter];congr 1;funext j;by_cases g5:j=i
 ·subst g5;rcases tg j aZ.size with h | h
  ·simp [sO,h]
  ·simp [sO,h]
 ·have:(aZ.setIfInBounds i true).getD j true=aZ.getD j true:=by
   simp only [sO];rw [vO (Ne.symm g5)]
  rw [this];simp [g5]
def fm (n p q:Nat):List Nat:=(List.range n).map fun i=>if i=p then q else if i=q then p else i
def ly (p q j i:Nat):Prop:=(j<i∧¬ (j=p∧i=q))∨(j=q∧i=p)
theorem xX {n p:Nat} (a5:p+1<n):(fm n p (p+1)).Pairwise (ly p (p+1)):=by
 unfold fm;rw [vd];refine List.Pairwise.imp (fun {a b} h=>?_) vb;unfold ly;split <;> split <;> (try split) <;> (try split) <;> omega
theorem xW {n p:Nat} (a5:p+1<n):(fm n p (p+1)).Nodup:=by
 unfold fm List.Nodup;rw [vd];refine List.Pairwise.imp (fun {a b} h=>?_) uC;split <;> split <;> (try split) <;> (try split) <;> omega
theorem mW {n p:Nat} (a5:p+1<n) (i:Nat):i∈fm n p (p+1)↔i<n:=by
 unfold fm;rw [sJ];constructor
 ·rintro ⟨a,cg,rfl⟩;have:=sX.1 cg;split <;> (try split) <;> omega
 ·intro h;refine ⟨if i=p then p+1 else if i=p+1 then p else i,sX.2 ?_,?_⟩
  ·split <;> (try split) <;> omega
  ·by_cases ad:i=p
   ·subst ad;simp
   ·by_cases af:i=p+1
    ·subst af;simp
    ·simp [ad,af]
theorem Bz {F:Fence} (bE:er F) {C:b8} (bx:dc P C) {lo:Nat} {ops:Array Oper} {an:List b7} {p:Nat} (a5:p+1<ops.size) (a1:ng ops an p (p+1)=true) {Q:Exit→Act→World→Prop} {s1 s2:a7} :
  ∀ (fuel:Nat) (aZ:Array Bool) (s:a7) (a:Act) (w:World) (U:Nat→Option aI) (J:List Nat) (S:Nat→Nat→Prop),(c_ (List.range ops.size) aZ).length≤fuel→lK ops aZ →
    ((cy P C lo ops an (c_ (List.range ops.size) aZ) s=some s1∧cy P C lo ops an (c_ (fm ops.size p (p+1)) aZ) s=some s2∧aZ.getD p true=false∧aZ.getD (p+1) true=false) ∨
      (cy P C lo ops an (c_ (List.range ops.size) aZ) s=some s1∧aZ.getD p true=true)∨(cy P C lo ops an (c_ (fm ops.size p (p+1)) aZ) s=some s2∧aZ.getD (p+1) true=true)) →
    cv B N U J S w s a→(∀ aF,aF=s1∨aF=s2→∀ aM w',Step B N U J S w aF aM w'→Q .normal aM w')→wpAnyIn F 0 P .any ops Q fuel aZ a w:=by
 have db:∀ j c5,ops[j]?=some c5→((hc ops.toList []).getD j 0=mD (hc ops.toList []) c5)∧(∀ e∈c5.after,Region.binds .any e=true→e.on<j) ∧
   ∀ i cR,i<j→ops[i]?=some cR→((hc ops.toList []).getD j 0).testBit i=true∨indep ops cR (an.getD i {}) c5 (an.getD j {})=true∨(i=p∧j=p+1):=fun j c5 aw=>by
  have aU:j<ops.size:=(tp.1 aw).1;simp only [ng,zO,sS,sX] at a1;have h:=a1 j aU;rw [aw] at h;simp only [sM,beq_iff_eq,sS,sX] at h;obtain ⟨⟨ad,af⟩,aG⟩:=h;refine ⟨ad,fun e he ag=>?_,fun i cR g5 hi=>?_⟩
  ·have:=af e (by simpa using he);simp only [ag,Bool.not_true,Bool.false_or] at this;simpa [tR] using this
  ·have a8:=aG i g5;rw [hi] at a8;simp only [tX,sM] at a8;rcases a8 with (a8 | a8) | a8
   ·exact .inl a8
   ·exact .inr (.inl a8)
   ·exact .inr (.inr ⟨tw a8.1,tw a8.2⟩)
 have xx:∀ (aZ:Array Bool),lK ops aZ→∀ (n k:Nat) ok,k≤n→ops[k]?=some ok→(∀ e∈ok.after,Region.binds .any e=true→aZ.getD e.on false=true) →
   ∀ j,((hc ops.toList []).getD k 0).testBit j=true→aZ.getD j false=true:=by
  intro aZ cF n
  induction n with
  | zero =>
    intro k ok av aq eP j aw;rw [(db k ok aq).1] at aw;rcases mE _ j _ _ aw with h | ⟨e,he,ag,h⟩
    ·simp at h
    ·have:=(db k ok aq).2.1 e (by simpa using he) ag;omega
  | succ n bb =>
    intro k ok av aq eP j aw;rw [(db k ok aq).1] at aw;rcases mE _ j _ _ aw with h | ⟨e,he,ag,h⟩
    ·simp at h
    ·(have jL:e∈ok.after:=by simpa using he);have aU:=(db k ok aq).2.1 e jL ag;have h_:=eP e jL ag;rcases h with h | rfl
     ·have kD:=(tp.1 aq).1;have ma:ops[e.on]?=some ops[e.on]:=sT (by omega);have pK:aZ.getD e.on true=true:=by
       rcases tg e.on aZ.size with aY | aY
       ·simp [sO,aY] at h_ ⊢;exact h_
       ·simp [sO,aY] at h_
      exact bb e.on _ (by omega) ma (cF e.on _ ma pK) j h
     ·exact h_
 have iT:∀ (O:List Nat) (aZ:Array Bool) (i:Nat),i∈c_ O aZ↔i∈O∧aZ.getD i true=false:=fun O aZ i=>by
  simp [c_]
 have l0:∀ (O:List Nat) (aZ:Array Bool),(∀ i,i∈O↔i<ops.size)→c_ (List.range ops.size) aZ=[]→c_ O aZ=[]:=fun O aZ lU h=>by
  rw [u_];intro i hi;have:=(iT _ _ _).1 hi;have af:i∈c_ (List.range ops.size) aZ:=(iT _ _ _).2 ⟨sX.2 ((lU i).1 this.1),this.2⟩;rw [h] at af;simp at af
 have yK:∀ (aZ:Array Bool) (s:a7),c_ (List.range ops.size) aZ=[] →
   ((cy P C lo ops an (c_ (List.range ops.size) aZ) s=some s1∧cy P C lo ops an (c_ (fm ops.size p (p+1)) aZ) s=some s2∧aZ.getD p true=false∧aZ.getD (p+1) true=false) ∨
     (cy P C lo ops an (c_ (List.range ops.size) aZ) s=some s1∧aZ.getD p true=true)∨(cy P C lo ops an (c_ (fm ops.size p (p+1)) aZ) s=some s2∧aZ.getD (p+1) true=true))→s=s1∨s=s2:=fun aZ s h hinv=>by
  have af:=l0 _ aZ (mW a5) h;rw [h,af] at hinv;simp only [cy,Option.some.injEq] at hinv;rcases hinv with h | h | h
  ·exact .inl h.1
  ·exact .inl h.1
  ·exact .inr h.1
 have front:∀ (O:List Nat) (R:Nat→Nat→Prop),O.Pairwise R→O.Nodup→(∀ i,i∈O↔i<ops.size)→∀ (aZ:Array Bool) (s aF:a7) (i:Nat) (cR:Oper),lK ops aZ→ops[i]?=some cR→aZ.getD i true=false →
   (∀ e∈cR.after,Region.binds .any e=true→aZ.getD e.on false=true)→(∀ j,R j i→aZ.getD j true=false→j<i∧¬ (j=p∧i=p+1))→cy P C lo ops an (c_ O aZ) s=some aF →
   ∃ dj,dy P C lo ops cR (an.getD i {}) s=some dj∧cy P C lo ops an (c_ O (aZ.setIfInBounds i true)) dj=some aF:=by
  intro O R Cb Ca B' aZ s aF i cR cF ek ad eP jG dQ;have aU:=(tp.1 ek).1
  obtain ⟨dj,aV,aX⟩:=xP ek (R:=R) (c_ O aZ) s (Cb.filter _) ((iT _ _ _).2 ⟨(B' i).2 aU,ad⟩) (fun j aw g7 c5 pJ=>by
   have dw:=((iT _ _ _).1 aw).2;obtain ⟨l4,bO⟩:=jG j g7 dw;rcases (db i cR ek).2.2 j c5 l4 pJ with h | h | h
   ·have:=xx aZ cF i i cR (sx _) ek eP j h;rcases tg j aZ.size with aY | aY
    ·simp [sO,aY] at dw this;rw [this] at dw;simp at dw
    ·simp [sO,aY] at dw
   ·exact h
   ·exact absurd h bO) dQ
  exact ⟨dj,aV,by rw [Ac Ca];exact aX⟩
 intro fuel
 induction fuel with
 | zero =>
   intro aZ s a w U J S pq cF hinv aK bo;have h9:c_ (List.range ops.size) aZ=[]:=List.length_eq_zero_iff.1 (by omega);refine ⟨?_,bo s (yK aZ s h9 hinv) a w (Step.here aK)⟩;rw [u_];intro i hi;obtain ⟨ad,o,aq,_⟩:=mem_ready.1 hi
   have:i∈c_ (List.range ops.size) aZ:=(iT _ _ _).2 ⟨sX.2 (tp.1 aq).1,by simp [ad]⟩
   rw [h9] at this;simp at this
 | succ fuel bb =>
   intro aZ s a w U J S pq cF hinv aK bo;refine ⟨fun aj=>?_,fun i hi=>?_⟩
   ·have h9:c_ (List.range ops.size) aZ=[]:=by
     rw [u_];intro i
     induction i using Nat.strongRecOn with
     | _ i pX =>
       intro hi;obtain ⟨aU,dw⟩:=(iT _ _ _).1 hi;have aU:=sX.1 aU;have aq:ops[i]?=some ops[i]:=sT aU
       have:i∈Region.ready .any ops aZ:=mem_ready.2 ⟨by simpa using dw,_,aq,fun e he ag=>by
        have h8:=(db i _ aq).2.1 e he ag;have kH:=pX e.on h8;have ak:aZ.getD e.on true=true:=by
         cases al:aZ.getD e.on true with
         | true=>rfl
         | false=>exact absurd ((iT _ _ _).2 ⟨sX.2 (by omega),al⟩) kH
        rcases tg e.on aZ.size with aY | aY
        ·simp [sO,aY] at ak ⊢;exact ak
        ·rcases tg i aZ.size with lR | lR
         ·omega
         ·simp [sO,lR] at dw⟩
       rw [aj] at this;simp at this
    exact bo s (yK aZ s h9 hinv) a w (Step.here aK)
   ·obtain ⟨ad,cR,ek,eP⟩:=mem_ready.1 hi;have aU:=(tp.1 ek).1;(have iN:aZ.getD i true=false:=by simpa using ad);have kF:i∈c_ (List.range ops.size) aZ:=(iT _ _ _).2 ⟨sX.2 aU,iN⟩;have kx:∀ i,i∈List.range ops.size↔i<ops.size:=fun i=>sX;have bR:i<aZ.size:=by
     rcases tg i aZ.size with aY | aY
     ·exact aY
     ·simp [sO,aY] at iN
    have nE:(aZ.setIfInBounds i true).getD i true=true:=by
     simp [sO,bR]
    have bO:∀ k,k≠i→(aZ.setIfInBounds i true).getD k true=aZ.getD k true:=fun k av=>by
     simp only [sO];rw [vO (Ne.symm av)]
    obtain ⟨dj,aV,CE⟩:∃ dj,dy P C lo ops cR (an.getD i {}) s=some dj ∧
      ((cy P C lo ops an (c_ (List.range ops.size) (aZ.setIfInBounds i true)) dj=some s1∧cy P C lo ops an (c_ (fm ops.size p (p+1)) (aZ.setIfInBounds i true)) dj=some s2∧(aZ.setIfInBounds i true).getD p true=false∧(aZ.setIfInBounds i true).getD (p+1) true=false) ∨
        (cy P C lo ops an (c_ (List.range ops.size) (aZ.setIfInBounds i true)) dj=some s1∧(aZ.setIfInBounds i true).getD p true=true)∨(cy P C lo ops an (c_ (fm ops.size p (p+1)) (aZ.setIfInBounds i true)) dj=some s2∧(aZ.setIfInBounds i true).getD (p+1) true=true)):=by
     rcases hinv with ⟨cd,b_,eb,hy⟩ | ⟨cd,b_⟩ | ⟨cd,b_⟩
     ·by_cases l2:i=p
      ·obtain ⟨dj,aJ,aP⟩:=front _ _ vb uC kx aZ s s1 i cR cF ek iN eP (fun j aw _=>⟨aw,by omega⟩) cd;exact ⟨dj,aJ,.inr (.inl ⟨aP,by rw [←l2];exact nE⟩)⟩
      ·by_cases l3:i=p+1
       ·obtain ⟨dj,aJ,aP⟩:=front _ _ (xX a5) (xW a5) (mW a5) aZ s s2 i cR cF ek iN eP (fun j aw _=>by unfold ly at aw;omega) b_;exact ⟨dj,aJ,.inr (.inr ⟨aP,by rw [←l3];exact nE⟩)⟩
       ·obtain ⟨dj,aJ,aP⟩:=front _ _ vb uC kx aZ s s1 i cR cF ek iN eP (fun j aw _=>⟨aw,by omega⟩) cd;obtain ⟨GC,cl,jW⟩:=front _ _ (xX a5) (xW a5) (mW a5) aZ s s2 i cR cF ek iN eP (fun j aw _=>by unfold ly at aw;omega) b_;rw [aJ] at cl;cases cl;exact ⟨dj,aJ,.inl ⟨aP,jW,by rw [bO _ (Ne.symm l2)];exact eb,by rw [bO _ (Ne.symm l3)];exact hy⟩⟩
     ·obtain ⟨dj,aJ,aP⟩:=front _ _ vb uC kx aZ s s1 i cR cF ek iN eP (fun j aw dw=>⟨aw,fun e=>by rw [e.1,b_] at dw;simp at dw⟩) cd;refine ⟨dj,aJ,.inr (.inl ⟨aP,?_⟩)⟩;by_cases l2:p=i
      ·rw [l2];exact nE
      ·rw [bO _ l2];exact b_
     ·obtain ⟨dj,aJ,aP⟩:=front _ _ (xX a5) (xW a5) (mW a5) aZ s s2 i cR cF ek iN eP (fun j aw dw=>by
       unfold ly at aw;rcases aw with aw | ⟨rfl,_⟩
       ·exact aw
       ·rw [b_] at dw;simp at dw) cd
      refine ⟨dj,aJ,.inr (.inr ⟨aP,?_⟩)⟩;by_cases l3:p+1=i
      ·rw [l3];exact nE
      ·rw [bO _ l3];exact b_
    refine A8 bE bx ek aV aK fun aM w' ai=>?_;obtain ⟨b4,cT,a6,aJ,aP,cb⟩:=ai;refine bb (aZ.setIfInBounds i true) dj aM w' b4 cT a6 ?_ ?_ CE cb fun aF g8 gW hs dR=>bo aF g8 gW hs (dR.trans aJ aP)
    ·rw [Ac uC,List.length_erase_of_mem kF];omega
    ·intro k ok av ak e he ag;by_cases l8:k=i
     ·subst l8;rw [ek] at av;cases av;exact getD_set_true (eP e he ag)
     ·have:aZ.getD k true=true:=by rw [getD_set_ne true (Ne.symm l8)] at ak;exact ak
      exact getD_set_true (cF k ok av this e he ag)
theorem El {F:Fence} (bE:er F) (hm:P.follows .mixedOrders=true) {C:b8} (bx:dc P C) {lo id:Nat} {ops:Array Oper} {an:List b7} {p:Nat} (a5:p+1<ops.size) (a1:ng ops an p (p+1)=true) {Q:Exit→Act→World→Prop} {s s1 s2:a7} {a:Act}
  (ad:cy P C lo ops an (List.range ops.size) s=some s1) (af:cy P C lo ops an (fm ops.size p (p+1)) s=some s2) (aK:cv B N U J S w s a) (bo:∀ aF,aF=s1∨aF=s2→∀ aM w',Step B N U J S w aF aM w'→Q .normal aM w'):(Code.region id ops true).wpIn F 0 P Q a w:=by
 refine wpIn_region_any hm ?_;have hw:aL B U J S w.drew s.H:=mf aK.H;have aA:=kq U S w;have f':cv B N U J S w.drew s a:=⟨⟨aK.T.len,fun i u v hu ae=>(aK.T.rel i u v hu ae).mono (Ext.refl J) aA.set,fun i u v hu ae=>(aK.T.own i u v hu ae).mono (Ext.refl J) aA.set fun b ag=>⟨ag,rfl,fun _ h=>h⟩⟩,hw,aK.M.aA aA⟩;have dw:∀ i,i<ops.size→(Array.replicate ops.size false).getD i true=false:=fun i hi=>by simp [sO,hi]
 have kJ:∀ O:List Nat,(∀ i,i∈O↔i<ops.size)→c_ O (Array.replicate ops.size false)=O:=fun O lU=>by
  simp only [c_];rw [List.filter_eq_self];intro i hi;rw [dw i ((lU i).1 hi)];rfl
 have kx:∀ i,i∈List.range ops.size↔i<ops.size:=fun i=>sX;refine Bz bE bx a5 a1 (s1:=s1) (s2:=s2) (lo:=lo) ops.size (Array.replicate ops.size false) s a w.drew U J S (by rw [kJ _ kx];simp) ?_ (.inl ⟨by rw [kJ _ kx];exact ad,by rw [kJ _ (mW a5)];exact af,dw _ (by omega),dw _ a5⟩) f' fun aF g8 aM w' ai=>bo aF g8 aM w' (ai.trans (Ext.refl J) aA);intro k o aq ak;have aU:=(tp.1 aq).1;rw [dw k aU] at ak;cases ak
end
end Go.Proofs.YtfakoboiahbhaaaGreat.Ab


namespace Go.Proofs.YtfakoboiahbhaaaGreat.Ab
open Go
section
variable (P:Program)
def iF (lo:Nat) (ops:Array Oper) (o:Oper) (an:b7) (s:a7) (K:a7→Prop):Prop :=
 (∃ C aF,dc P C∧dy P C lo ops o an s=some aF∧K aF)∨x8 o s K
def runN (lo:Nat) (ops:Array Oper):List Oper→List b7→a7→(a7→Prop)→Prop
 | [],_,s,K=>K s
 | o::r,as,s,K=>iF P lo ops o (as.headD {}) s fun aF=>runN lo ops r as.tail aF K
def EE (lo:Nat) (ops:Array Oper) (as:List b7) (s:a7) (K:a7→Prop):Prop :=
 ∃ acc aF,ht P acc∧(∀ C,dc P C→hV C acc→eN P C lo ops ops.toList as s=some aF)∧K aF
def EF (lo:Nat) (ops:Array Oper) (as:List b7) (p:Nat) (s:a7) (K:a7→Prop):Prop :=
 ∃ acc s1 s2,ht P acc∧(∀ C,dc P C→hV C acc→cy P C lo ops as (List.range ops.size) s=some s1∧cy P C lo ops as (fm ops.size p (p+1)) s=some s2)∧K s1∧K s2
def fB (f:a7→(cE→a7→Prop)→Prop):Nat→a7→(cE→a7→Prop)→Prop
 | 0,_,_=>False
 | n+1,s,Q=>f s fun e aF=>match e with
   | .normal=>fB f n aF Q
   | e=>Q e aF
def c6 (A:c') (fn:FuncId) (lo:Nat) (rl:Option Nat):Code→Nat→a7→(cE→a7→Prop)→Prop
 | .skip,_,s,Q=>Q .normal s
 | .region id ops draw,_,s,Q=>match kh A id draw with
   | some p=>EF P lo ops (A.ops.getD id []) p (e3 A.ih id s) (Q .normal)
   | none=>match draw with
     | true=>EE P lo ops (A.ops.getD id []) (e3 A.ih id s) (Q .normal)
     | false=>runN P lo ops ops.toList (A.ops.getD id []) (e3 A.ih id s) (Q .normal)
 | .seq a b,a0,s,Q=>c6 A fn lo rl a a0 s fun e aF=>match e with
   | .normal=>c6 A fn lo rl b a0 aF Q
   | e=>Q e aF
 | .cond c a b,a0,s,Q=>(∃ t,aA s.T c=.bool t∧match t with
   | true=>c6 A fn lo rl a a0 s Q
   | false=>c6 A fn lo rl b a0 s Q)∨(aA s.T c=.du∧c6 A fn lo rl a a0 s Q∧c6 A fn lo rl b a0 s Q)
 | .block id body,_,s,Q=>c6 A fn lo rl body id s fun e aF=>match e with
   | .exit bB=>if bB=id then Q .normal aF else Q (.exit bB) aF
   | e=>Q e aF
 | .loop body,a0,s,Q=>∃ n,fB (fun aF=>c6 A fn lo rl body a0 (e3 A.ig a0 aF)) n s Q
 | .exit id,_,s,Q=>Q (.exit id) s
 | .ret,_,s,Q=>Q .ret s
 | .scope body,a0,s,Q=>c6 A fn lo rl body a0 s Q
 | .label _,_,s,Q=>Q .normal s
 | .rangeFunc f params assign body,a0,s,Q=>∃ C e aF,dc P C∧exec P A C fn lo 0 rl (.rangeFunc f params assign body) a0 s=some (e,aF)∧Q e aF
 | _,_,_,_=>False
end
section
variable {P:Program} {B N:Nat} {J:List Nat} {w:World} {H:List au} {U:Nat→Option aI} {S:Nat→Nat→Prop}
theorem FF {F:Fence} (bE:er F) {lo:Nat} {ops:Array Oper} {o:Oper} {an:b7} {s:a7} {K':a7→Prop} (h:iF P lo ops o an s K') {a:Act} (aK:cv B N U J S w s a)
  {rest:List Oper} {Q:Exit→Act→World→Prop} (fJ:∀ aF,K' aF→∀ aM w',Step B N U J S w aF aM w'→wpListIn F 0 P ops Q rest aM w'):wpListIn F 0 P ops Q (o::rest) a w:=by
 rcases h with ⟨C,aF,bx,h,av⟩ | h
 ·unfold dy at h;unfold wpListIn;split at h
  ·rename_i hw;rw [lj aK hw];simp only [if_true];exact xV bE bx h aK fun aM w' ai=>fJ aF av aM w' ai
  ·rename_i hw;rw [lj aK hw];simp only [ub,if_false];simp only [Option.some.injEq] at h;subst h;exact ⟨fun f _=>bE.fn f,fJ _ av _ _ (Step.here (aK.skip o.dst))⟩
  ·simp at h
 ·have aO:o.guard=none:=by obtain ⟨_,_,_,_,_,_,_,_,aO,_⟩:=h;exact aO
  unfold wpListIn;have hw:Region.wanted o (yielded ops a.tmps)=true:=by unfold Region.wanted;rw [aO]
  rw [hw];simp only [if_true];exact DZ bE h aK fun aF av aM w' ai=>fJ aF av aM w' ai
theorem AA {F:Fence} (bE:er F) {lo:Nat} {ops:Array Oper} {K':a7→Prop} {Q:Exit→Act→World→Prop} :
  ∀ (rest:List Oper) (as:List b7) (s:a7) (a:Act) (w:World) (U:Nat→Option aI) (J:List Nat) (S:Nat→Nat→Prop),runN P lo ops rest as s K'→cv B N U J S w s a →
    (∀ aF,K' aF→∀ aM w',Step B N U J S w aF aM w'→Q .normal aM w')→wpListIn F 0 P ops Q rest a w
 | [],as,s,a,w,U,J,S,h,aK,bo=>bo s h a w (Step.here aK)
 | o::rest,as,s,a,w,U,J,S,h,aK,bo=>by
   refine FF bE h aK fun aF av aM w' ai=>?_;obtain ⟨b4,cT,a6,aJ,aP,cb⟩:=ai;exact AA bE rest as.tail aF aM w' b4 cT a6 av cb fun ER CG gW hs dR=>bo ER CG gW hs (dR.trans aJ aP)
theorem Dw {F:Fence} {c:Code} {f:a7→(cE→a7→Prop)→Prop} {cJ:cE→a7→Prop} {Q:Exit→Act→World→Prop} {s:a7} {a:Act} {n:Nat}
  (h:fB f n s cJ) (aK:cv B N U J S w s a) (bo:∀ e aF,cJ e aF→∀ aM w',Step B N U J S w aF aM w'→Q (toExit e) aM w')
  (kz:∀ (s1:a7) (oB:cE→a7→Prop),f s1 oB→∀ (lx:Exit→Act→World→Prop) (aB:Act) (bF:World),(∀ l a w,lx (.goto l) a w→Q (.goto l) a w)→Step B N U J S w s1 aB bF →
   (∀ e s2,oB e s2→∀ aM w',Step B N U J S w s2 aM w'→lx (toExit e) aM w')→c.wpIn F 0 P lx aB bF):(Code.loop c).wpIn F 0 P Q a w:=by
 classical
 let Inv:Nat→Act→World→Prop:=fun n aM w'=>∃ s1,fB f n s1 cJ∧Step B N U J S w s1 aM w'
 let gu:Act→World→Nat:=fun aM w'=>if h:∃ n,Inv n aM w' then Classical.choose (ks h) else 0
 have mo:∀ aM w',(∃ n,Inv n aM w')→Inv (gu aM w') aM w'∧∀ m,Inv m aM w'→gu aM w'≤m:=fun aM w' h=>by
  have:gu aM w'=Classical.choose (ks h):=by simp only [gu,dif_pos h]
  rw [this];exact vS (ks h)
 refine wpIn_loop (fun aM w'=>∃ n,Inv n aM w') gu ⟨n,s,h,Step.here aK⟩ fun aB bF kv=>?_;obtain ⟨⟨s1,ad,gH⟩,_⟩:=mo aB bF kv;cases aN:gu aB bF with
 | zero=>rw [aN] at ad;exact ad.elim
 | succ m =>
   rw [aN] at ad;simp only [fB] at ad;refine kz s1 _ ad _ aB bF (fun l a w h=>h) gH fun e s2 av aM w' dR=>?_;cases e with
   | normal =>
     have hinv:Inv m aM w':=⟨s2,av,dR⟩;exact ⟨⟨m,hinv⟩,Nat.lt_succ_of_le ((mo aM w' ⟨m,hinv⟩).2 m hinv)⟩
   | ret=>exact bo .ret s2 av aM w' dR
   | exit id=>exact bo (.exit id) s2 av aM w' dR
theorem ov (dM:P.follows .mixedOrders=true) {A:c'} {fn:FuncId} {lo:Nat} {rl:Option Nat} :
  ∀ (c:Code) (a0:Nat) (s:a7) (K:cE→a7→Prop),c6 P A fn lo rl c a0 s K→codeOk A c=true →
    ∀ (F:Fence) (Q:Exit→Act→World→Prop) (B N:Nat) (J:List Nat) (w:World) (U:Nat→Option aI) (S:Nat→Nat→Prop) (a:Act),jq F rl J→(∀ l a w,¬ Q (.goto l) a w) →
      cv B N U J S w s a→(∀ e aF,K e aF→∀ aM w',Step B N U J S w aF aM w'→Q (toExit e) aM w')→c.wpIn F 0 P Q a w:=by
 intro c
 induction c with
 | skip=>intro a0 s K h _ F Q B N J w U S a bE aO aK bo;exact wpIn_skip (bo _ _ h a w (Step.here aK))
 | label l=>intro a0 s K h _ F Q B N J w U S a bE aO aK bo;exact wpIn_label (bo _ _ h a w (Step.here aK))
 | ret=>intro a0 s K h _ F Q B N J w U S a bE aO aK bo;exact wpIn_ret (bo _ _ h a w (Step.here aK))
 | exit id=>intro a0 s K h _ F Q B N J w U S a bE aO aK bo;exact wpIn_exit (bo _ _ h a w (Step.here aK))
 | goto l=>intro a0 s K h;exact h.elim
 | refuse y=>intro a0 s K h;exact h.elim
 | region id ops draw =>
   intro a0 s K h bQ F Q B N J w U S a bE aO aK bo;simp only [c6] at h;simp only [codeOk,xu] at bQ;split at h
   ·rename_i p kM;rw [kM] at bQ;simp only [sM,tR] at bQ;cases draw with
    | false=>simp [kh] at kM
    | true =>
      obtain ⟨acc,s1,s2,hB,al,CH,px⟩:=h;obtain ⟨C,bx,ck⟩:=oG hB;obtain ⟨lp,lq⟩:=al C bx ck;exact El bE.lN dM bx bQ.1 bQ.2 lp lq (aK.cG _ _) fun aF g8 aM w' ai=>by
       rcases g8 with rfl | rfl
       ·exact bo _ _ CH aM w' ai
       ·exact bo _ _ px aM w' ai
   rename_i kM;rw [kM] at bQ;cases draw with
   | true =>
     obtain ⟨acc,aF,hB,al,av⟩:=h;obtain ⟨C,bx,ck⟩:=oG hB;exact z8 bE.lN dM bx (fun _=>by simpa using bQ) (al C bx ck) (aK.cG _ _) fun aM w' ai=>bo _ _ av aM w' ai
   | false=>exact wpIn_region_list (AA bE.lN ops.toList _ _ a w U J S h (aK.cG _ _) fun aF av aM w' ai=>bo _ _ av aM w' ai)
 | seq x y nK pY =>
   intro a0 s K h bQ F Q B N J w U S a bE aO aK bo;simp only [codeOk,sM] at bQ;refine wpIn_seq (nK _ _ _ h bQ.1 F _ B N J w U S a bE (fun l a w=>aO l a w) aK fun e s1 av aM w' ai=>?_);cases e with
   | normal =>
     obtain ⟨b4,cT,a6,aJ,aP,cb⟩:=ai;exact pY _ _ _ av bQ.2 F Q B N cT w' b4 a6 aM (bE.ext aJ) aO cb fun e s2 px gW hs dR=>bo e s2 px gW hs (dR.trans aJ aP)
   | ret=>exact bo _ _ av aM w' ai
   | exit id=>exact bo _ _ av aM w' ai
 | cond x t f nJ nI =>
   intro a0 s K h bQ F Q B N J w U S a bE aO aK bo;simp only [codeOk,sM] at bQ;rcases h with ⟨b,ag,h⟩ | ⟨ag,ad,af⟩
   ·have aj:=aK.aA x;rw [ag] at aj;cases b with
    | true=>exact wpIn_cond_true aj.h3 (nJ _ _ _ h bQ.1 F Q B N J w U S a bE aO aK bo)
    | false=>exact wpIn_cond_false aj.h3 (nI _ _ _ h bQ.2 F Q B N J w U S a bE aO aK bo)
   ·have aj:=aK.aA x;rw [ag] at aj;obtain ⟨b,aj⟩:=aj.BA;cases b with
    | true=>exact wpIn_cond_true aj (nJ _ _ _ ad bQ.1 F Q B N J w U S a bE aO aK bo)
    | false=>exact wpIn_cond_false aj (nI _ _ _ af bQ.2 F Q B N J w U S a bE aO aK bo)
 | block id c bb =>
   intro a0 s K h bQ F Q B N J w U S a bE aO aK bo;refine wpIn_block ?_;refine bb _ _ _ h bQ F _ B N J w U S a bE (fun l a w=>aO l a w) aK fun e s1 av aM w' ai=>?_;cases e with
   | normal=>exact bo _ _ av aM w' ai
   | ret=>exact bo _ _ av aM w' ai
   | exit bB =>
     simp only at av;by_cases aE:bB=id
     ·simp only [aE,if_true] at av;simp only [toExit,Exit.inBlock,aE,if_true];exact bo _ _ av aM w' ai
     ·simp only [aE,if_false] at av;simp only [toExit,Exit.inBlock,aE,if_false];exact bo _ _ av aM w' ai
 | loop c bb =>
   intro a0 s K h bQ F Q B N J w U S a bE aO aK bo;obtain ⟨n,h⟩:=h;refine Dw h aK bo fun s1 oB ad lx aB bF CZ ai fJ=>?_;obtain ⟨b4,cT,a6,aJ,aP,cb⟩:=ai;exact bb _ _ _ ad bQ F lx B N cT bF b4 a6 aB (bE.ext aJ) (fun l a w h=>aO l a w (CZ l a w h)) (cb.cG _ _) fun e s2 av aM w' dR=>fJ e s2 av aM w' (dR.trans aJ aP)
 | scope c bb =>
   intro a0 s K h bQ F Q B N J w U S a bE aO aK bo;exact Bh (bb _ _ _ h bQ F Q B N J w U S a bE aO aK bo) aO
 | rangeFunc f params assign body _ _ =>
   intro a0 s K h bQ F Q B N J w U S a bE aO aK bo;obtain ⟨C,e,aF,bx,al,av⟩:=h;exact nj bx dM _ _ _ _ _ al bQ F Q B N J w U S a bE aO aK fun aM w' ai=>bo _ _ av aM w' ai
def jr (H H':List au):Prop:=H'.length=H.length∧∀ (id:Nat) (o:au),H'[id]?=some o→o=.dead∨H[id]?=some o
theorem jr.refl (H:List au):jr H H:=⟨rfl,fun _ _ h=>.inr h⟩
theorem aL.nk {H':List au} (ah:aL B U J S w H) (h:jr H H'):aL B U J S w H' :=
 ⟨by rw [h.1];exact ah.cH,fun id o aq=>by
  rcases h.2 id o aq with rfl | aY
  ·trivial
  ·exact ah.obj id o aY,ah.ch,ah.base,ah.c1⟩
theorem a3.nk {H1 H':List au} {r:I} {v:Value} {w':World} (h:jr H1 H') (aC:a3 B U J S w H1 r v w'):a3 B U J S w H' r v w':=by
 obtain ⟨bq,cj,bJ,a,b,c,d⟩:=aC;exact ⟨bq,cj,bJ,a,b,c.nk h,d⟩
theorem Eg (dM : P.follows .mixedOrders = true) {k : Nat} {f : Func} {c : Code} (aQ : P.funcs[k]? = some f) (ag : f.body = some c) (aN : f.name ≠ "runtime.NumGoroutine") {A : c'} (bQ : codeOk A c = true)
  {args:List I} {v:I} (aC:ct 8 v=true)
  (h:c6 P A k 0 none c 0 ⟨args++List.replicate (f.ntmps-args.length) .junk,[]⟩ fun e s=>(e=.normal∨e=.ret)∧∃ vs r,fl P s.H s.T f.results.toList=some vs∧bL s.H 0 s.H.length 0 8 (hk vs)=some r∧(r=v∨r.settle=v)):lv P k args v:=by
 refine ⟨⟨bd.refl _ _,⟨f,aQ,by simp [ag],aN⟩,fun B U J S w xs ah _ ae=>?_⟩,aC⟩;refine callsIn_of_wp_marks aQ ag trivial ?_;have aK:=xU ah ae f.ntmps;have de:=(oq ah).1;refine ov dM c 0 _ _ h bQ Fence.wide _ B w.heap.size J w (hR U) S _ (.inl ⟨rfl,rfl⟩) (fun l a w aO=>aO.elim) aK fun e s av aM w' ai=>?_;obtain ⟨he,vs,r,aj,Cx,eo⟩:=av;obtain ⟨b4,cT,a6,aJ,aP,cb⟩:=ai;have iS:LeavesInM Fence.wide 0 P f aM.tmps (fA B U J S w [] v) aM.defers .returning w':=by
  refine nN (U:=b4) (S:=a6) (J:=cT) (B:=B) (H:=s.H) (lu:=U) (S0:=S) (w0:=w) aM.defers w' cb.M.2.1 cb.M.2.2 (de.trans aP) cb.H fun bV dx dq mu mv=>?_
  have bZ:a' .slot b4 cT a6 bV s.T aM.tmps.toList:=⟨cb.T.len,fun i u v hu ae=>(cb.T.rel i u v hu ae).mono (Ext.refl _) (fun b o h=>⟨h,dq b o h⟩),fun i u v hu ae =>
   (cb.T.own i u v hu ae).mono (Ext.refl _) (fun b o h=>⟨h,dq b o h⟩) fun b ag=>⟨ag,dx b _ ag,fun _ h=>h⟩⟩
  obtain ⟨x,aV,aX⟩:=xy mv bZ aj;have nA:=xo ah (fun id aE=>by simp at aE) Cx (a3.after aJ mu aX);refine ⟨x,aV,?_⟩;rcases eo with rfl | eo
  ·exact nA
  ·cases r with
   | ay cells len gE =>
     cases gE with
     | uniq z=>simp only [I.settle] at eo;subst eo;exact nA.settle
     | _=>simp only [I.settle] at eo;subst eo;exact nA
   | _=>simp only [I.settle] at eo;subst eo;exact nA
 rcases he with rfl | rfl
 ·exact iS
 ·exact iS
theorem GG (dM : P.follows .mixedOrders = true) {k : Nat} {f : Func} {c : Code} (aQ : P.funcs[k]? = some f) (ag : f.body = some c) (aN : f.name ≠ "runtime.NumGoroutine") {A : c'} (bQ : codeOk A c = true)
  {lo:Nat} {args:List I} {H H':List au} {r:I} (ak:bd lo H H')
  (h:c6 P A k lo none c 0 ⟨args++List.replicate (f.ntmps-args.length) .junk,H⟩ fun e s=>(e=.normal∨e=.ret)∧jr s.H H'∧∃ vs,fl P s.H s.T f.results.toList=some vs∧hk vs=r):Sem P (.fn k) args H lo r H':=by
 refine ⟨ak,⟨f,aQ,by simp [ag],aN⟩,fun B U J S w xs ah _ ae=>?_⟩;refine callsIn_of_wp_marks aQ ag trivial ?_;have aK:=xU ah ae f.ntmps;have de:=(oq ah).1;refine ov dM c 0 _ _ h bQ Fence.wide _ B w.heap.size J w (hR U) S _ (.inl ⟨rfl,rfl⟩) (fun l a w aO=>aO.elim) aK fun e s av aM w' ai=>?_;obtain ⟨he,kB,vs,aj,rfl⟩:=av;obtain ⟨b4,cT,a6,aJ,aP,cb⟩:=ai;have iS:LeavesInM Fence.wide 0 P f aM.tmps (fA B U J S w H' (hk vs)) aM.defers .returning w':=by
  refine nN (U:=b4) (S:=a6) (J:=cT) (B:=B) (H:=s.H) (lu:=U) (S0:=S) (w0:=w) aM.defers w' cb.M.2.1 cb.M.2.2 (de.trans aP) cb.H fun bV dx dq mu mv=>?_
  have bZ:a' .slot b4 cT a6 bV s.T aM.tmps.toList:=⟨cb.T.len,fun i u v hu ae=>(cb.T.rel i u v hu ae).mono (Ext.refl _) (fun b o h=>⟨h,dq b o h⟩),fun i u v hu ae =>
   (cb.T.own i u v hu ae).mono (Ext.refl _) (fun b o h=>⟨h,dq b o h⟩) fun b ag=>⟨ag,dx b _ ag,fun _ h=>h⟩⟩
  obtain ⟨v,aV,aX⟩:=xy mv bZ aj;exact ⟨v,aV,(a3.after aJ mu aX).nk kB⟩
 rcases he with rfl | rfl
 ·exact iS
 ·exact iS
end
end Go.Proofs.YtfakoboiahbhaaaGreat.Ab


namespace Go.Proofs.YtfakoboiahbhaaaGreat.Ab
open Go
inductive iE where
 | sl (t:Nat) | hP (t:Nat) | hS (t:Nat) | iK (v:I)
inductive e8 where
 | one | str (s:Nat) | arr (s:Nat)
inductive hZ where
 | int (k:IntKind) | str (n:Nat)
inductive h0 where
 | i_ | nil (z:Nat) | A'
 | p2 (a:e8) | zi (a:e8) | take | A_ | A4 | st (s:Nat) | box | ye | alloc (z:List I)
 | zF (z:List I) (s bytes:Nat)
 | zE (z:List I) (s bytes:Nat)
 | xe | zk (n:Nat) | min | max
 | app (s bytes:Nat)
 | x_ (s bytes:Nat)
 | call (mode:Nat)
 | pick | build (z:List I) (bl:List (Nat×Nat)) | yg (len s:Nat) (z:List I) (ix:List Nat) | yf (len s:Nat) (z:List I) (ix:List Nat)
 | zI | bin (op:BinOp) | oK (neq:Bool) | un (op:UnOp) | conv (k:IntKind)
 | zC (f:FuncId) (n m:Nat)
 | A2 (s:Nat) (l h m:Bool)
 | zD | zw (fi:hZ) | zv (fi:hZ) (ok:Bool) (zero:Option I) | zu (fi:hZ) | Av | yo | zl
 | oY (off:Nat) | yx (off:Nat) (a:e8) | pV (s:Nat) | y_ (len s:Nat) | ext (i:Nat)
 | other (o:Oper) (mode:Nat)
structure cz where
 dst:Option Nat
 FE:List iE
 guard:Option (Nat×Bool)
 ip:Option Nat
 k:h0
inductive eE where
 | skip
 | j_ (draw:Bool) (l:List cz)
 | seq (a b:eE)
 | cond (c:iE) (a b:eE)
 | block (id:Nat) (c:eE)
 | loop (cG:Option (List Bool)) (c:eE)
 | exit (id:Nat)
 | ret
 | Au (f:iE) (params:List Nat) (assign body:Code)
 | zJ (it:Nat) (dst:Option Nat) (l:List cz)
 | two (pre:List cz) (a b:cz) (post:List cz)
noncomputable section
def lZ (v:I) (K:I→Prop):Prop:=match v with
 | .int k n=>K (.int k n)
 | .bool b=>K (.bool b)
 | .ay c n .shared=>K (.ay c n .shared)
 | .ay c n .full=>K (.ay c n .full)
 | .ay c n (.own z)=>K (.ay c n (.own z))
 | .ay c n (.uniq z)=>K (.ay c n (.uniq z))
 | .agg cs=>K (.agg cs)
 | .ptr id off=>K (.ptr id off)
 | .bW cs=>K (.bW cs)
 | .ref id off n cap sz=>K (.ref id off n cap sz)
 | .func f a b=>K (.func f a b)
 | .yield id=>K (.yield id)
 | .map id=>K (.map id)
 | .tuple vs=>K (.tuple vs)
 | .junk=>K .junk
 | .eH=>K .eH
 | .str s=>K (.str s)
 | .raw c n z=>K (.raw c n z)
 | .cn i g n z=>K (.cn i g n z)
 | .du=>K .du
theorem ns (v:I) (K:I→Prop):lZ v K=K v:=by
 unfold lZ;split <;> rfl
def hz:List I→Nat→(I→Prop)→Prop
 | [],_,K=>K .junk
 | h::_,0,K=>K h
 | _::t,n+1,K=>hz t n K
theorem iM:∀ (T:List I) (t:Nat) (K:I→Prop),hz T t K=K (c8 T t)
 | [],t,K=>rfl
 | h::T,0,K=>rfl
 | h::T,n+1,K=>by rw [hz,iM T n K];rfl
def jh:List I→Nat→I→(List I→Prop)→Prop
 | [],_,_,K=>K []
 | _::t,0,v,K=>K (v::t)
 | h::t,n+1,v,K=>jh t n v fun jk=>K (h::jk)
theorem kc:∀ (T:List I) (t:Nat) (v:I) (K:List I→Prop),jh T t v K=K (gR T t v)
 | [],t,v,K=>rfl
 | h::T,0,v,K=>rfl
 | h::T,n+1,v,K=>by rw [jh,kc T n v];rfl
def mN (T:List I) (d:Option Nat) (v:I) (K:List I→Prop):Prop:=match d with
 | some d=>jh T d v K
 | none=>K T
theorem xp (T:List I) (d:Option Nat) (v:I) (K:List I→Prop):mN T d v K=K (put T d v):=by
 cases d with
 | none=>rfl
 | some d=>exact kc T d v K
def kP:List Bool→List I→(List I→Prop)→Prop
 | b::bs,v::vs,K=>kP bs vs fun dz=>match b with
   | true=>K (v::dz)
   | false=>K (.junk::dz)
 | [],vs,K=>K vs
 | _::_,[],K=>K []
theorem ze:∀ (bs:List Bool) (vs:List I) (K:List I→Prop),kP bs vs K=K (eX bs vs)
 | [],vs,K=>by simp [kP,eX]
 | b::bs,[],K=>by simp [kP,eX]
 | b::bs,v::vs,K=>by rw [kP,ze bs vs];cases b <;> simp [eX]
def kj (v:I) (K:I→Prop):Prop:=match v with
 | .ay c n (.own _)=>K (.ay c n .shared)
 | .ay c n (.uniq _)=>K (.ay c n .shared)
 | .raw _ _ _=>K .junk
 | .cn id _ n z=>K (.ref id 0 n none z)
 | v=>K v
theorem kk (v:I) (K:I→Prop):kj v K=K v.view:=by
 cases v with
 | ay c n k=>cases k <;> rfl
 | _=>rfl
def A3 (T:List I) (t:Nat) (v:I) (K:I→List I→Prop):Prop:=match v with
 | .ay c n (.uniq z)=>jh T t (.ay c n (.own z)) fun fo=>K (.ay c n .shared) fo
 | .ay c n (.own _)=>K (.ay c n .shared) T
 | .raw _ _ _=>K .junk T
 | .cn id _ n z=>K (.ref id 0 n none z) T
 | v=>K v T
theorem FD (T:List I) (t:Nat) (v:I) (K:I→List I→Prop):A3 T t v K=K v.view (fU T t v):=by
 cases v with
 | ay c n k =>
   cases k with
   | uniq z=>exact kc _ _ _ _
   | _=>rfl
 | _=>rfl
def gk:List iE→List I→(List I→List I→Prop)→Prop
 | [],T,K=>K [] T
 | .iK v::r,T,K=>gk r T fun vs a9=>K (v::vs) a9
 | .hP t::r,T,K=>hz T t fun v=>jh T t .junk fun fo=>gk r fo fun vs a9=>K (v::vs) a9
 | .hS t::r,T,K=>hz T t fun v=>kj v fun v=>jh T t .junk fun fo=>gk r fo fun vs a9=>K (v::vs) a9
 | .sl t::r,T,K=>hz T t fun v=>A3 T t v fun v fo=>gk r fo fun vs a9=>K (v::vs) a9
def hL (eg:Bool):List Bool→List Operand→List iE
 | _,[]=>[]
 | ts,.tmp t::rest=>(match ts.headD false,eg with | true,true=>.hP t | true,false=>.hS t | false,_=>.sl t)::hL eg ts.tail rest
 | ts,x::rest=>.iK (match eg with | true=>aA [] x | false=>(aA [] x).view)::hL eg ts.tail rest
theorem jf (eg:Bool):∀ (xs:List Operand) (ts:List Bool) (T:List I) (K:List I→List I→Prop),gk (hL eg ts xs) T K=K (fw eg (rd T ts xs).1) (rd T ts xs).2
 | [],ts,T,K=>by cases eg <;> simp [hL,gk,rd,fw]
 | .tmp t::rest,ts,T,K=>by
   simp only [hL];cases bK:ts.headD false with
   | true =>
     cases eg with
     | true =>
       simp only [gk,iM,kc,rd,bK,jf true rest];rfl
     | false =>
       simp only [gk,iM,kc,kk,rd,bK,jf false rest];rfl
   | false =>
     simp only [gk,iM,FD,rd,bK,jf eg rest];cases eg
     ·simp only [fw,sy,I.kl (I.dk _)]
     ·rfl
 | .const v::rest,ts,T,K=>by
   simp only [hL,gk,rd,jf eg rest];cases eg <;> rfl
 | .func v::rest,ts,T,K=>by
   simp only [hL,gk,rd,jf eg rest];cases eg <;> rfl
 | .global v::rest,ts,T,K=>by
   simp only [hL,gk,rd,jf eg rest];cases eg <;> rfl
end
end Go.Proofs.YtfakoboiahbhaaaGreat.Ab


namespace Go.Proofs.YtfakoboiahbhaaaGreat.Ab
open Go
noncomputable section
def eV {α:Type}:List α→Nat→(α→Prop)→Prop
 | [],_,_=>False
 | h::_,0,K=>K h
 | _::t,n+1,K=>eV t n K
theorem fk {α:Type}:∀ {l:List α} {n:Nat} {K:α→Prop},eV l n K→∃ x,l[n]?=some x∧K x
 | [],_,_,h=>h.elim
 | h::_,0,_,k=>⟨h,rfl,k⟩
 | _::t,n+1,K,k=>by simpa using fk (l:=t) (n:=n) (K:=K) k
theorem D1 {α:Type}:∀ {l:List α} {n:Nat} {x:α} {K:α→Prop},l[n]?=some x→K x→eV l n K
 | [],_,_,_,h,_=>by simp at h
 | h::_,0,_,_,e,k=>by simp at e;subst e;exact k
 | _::t,n+1,_,K,e,k=>D1 (l:=t) (n:=n) (by simpa using e) k
def jm:List I→Nat→I→(List I→Prop)→Prop
 | [],_,_,_=>False
 | _::t,0,v,K=>K (v::t)
 | h::t,n+1,v,K=>jm t n v fun jk=>K (h::jk)
theorem lg:∀ {l:List I} {n:Nat} {v:I} {K:List I→Prop},jm l n v K→n<l.length∧K (l.set n v)
 | [],_,_,_,h=>h.elim
 | _::_,0,_,_,k=>⟨by simp,k⟩
 | h::t,n+1,v,K,k=>by
   obtain ⟨ad,af⟩:=lg (l:=t) (n:=n) k;exact ⟨by simpa using ad,af⟩
theorem FO:∀ {l:List I} {n:Nat} {v:I} {K:List I→Prop},n<l.length→K (l.set n v)→jm l n v K
 | [],_,_,_,h,_=>by simp at h
 | _::_,0,_,_,_,k=>k
 | h::t,n+1,v,K,e,k=>FO (l:=t) (n:=n) (by simpa using e) k
def mY:List I→Nat→List I→(List I→Prop)→Prop
 | l,_,[],K=>K l
 | l,n,v::vs,K=>jm l n v fun l'=>mY l' (n+1) vs K
theorem ou:∀ {vs l:List I} {n:Nat} {K:List I→Prop},mY l n vs K→(n+vs.length≤l.length∨vs=[])∧K (setCells n vs l)
 | [],_,_,_,h=>⟨.inr rfl,h⟩
 | v::vs,l,n,K,h=>by
   obtain ⟨ad,af⟩:=lg h;obtain ⟨aG,a8⟩:=ou af;refine ⟨.inl ?_,a8⟩;rcases aG with aG | rfl
   ·simp only [tC] at aG;simp only [sP];omega
   ·simp only [sP,uU];omega
def n4:Nat→List I→Nat→(List I→Prop)→Prop
 | 0,_,_,K=>K []
 | s+1,l,off,K=>eV l off fun v=>kj v fun v=>lZ v fun v=>n4 s l (off+1) fun vs=>K (v::vs)
theorem z3:∀ {s:Nat} {l:List I} {off:Nat} {K:List I→Prop},n4 s l off K→(off+s≤l.length∨s=0)∧K (((l.drop off).take s).map I.view)
 | 0,l,off,K,h=>⟨.inr rfl,by simpa [n4] using h⟩
 | s+1,l,off,K,h=>by
   obtain ⟨v,ae,h⟩:=fk h;rw [kk,ns] at h;obtain ⟨ad,af⟩:=z3 h;have aU:=(ss.1 ae).1;refine ⟨.inl (by rcases ad with ad | rfl <;> omega),?_⟩;have a1:l.drop off=v::l.drop (off+1):=by
    rw [tf aU,(ss.1 ae).2]
   rw [a1];simpa using af
def n5:Nat→List I→Nat→(List I→Prop)→Prop
 | 0,_,_,K=>K []
 | s+1,l,off,K=>eV l off fun v=>lZ v fun v=>n5 s l (off+1) fun vs=>K (v::vs)
theorem z4:∀ {s:Nat} {l:List I} {off:Nat} {K:List I→Prop},n5 s l off K→(off+s≤l.length∨s=0)∧K ((l.drop off).take s)
 | 0,l,off,K,h=>⟨.inr rfl,by simpa [n5] using h⟩
 | s+1,l,off,K,h=>by
   obtain ⟨v,ae,h⟩:=fk h;rw [ns] at h;obtain ⟨ad,af⟩:=z4 h;have aU:=(ss.1 ae).1;refine ⟨.inl (by rcases ad with ad | rfl <;> omega),?_⟩;have a1:l.drop off=v::l.drop (off+1):=by
    rw [tf aU,(ss.1 ae).2]
   rw [a1];simpa using af
def my (a:e8) (l:List I) (off:Nat) (K:I→Prop):Prop:=match a with
 | .one=>eV l off fun v=>kj v K
 | .str s=>n4 s l off fun vs=>K (.agg vs)
 | .arr s=>off+s≤l.length∧K (.agg (((l.drop off).take s).map I.view))
def zV (a:e8) (l:List I) (off:Nat) (K:I→Prop):Prop:=match a with
 | .one=>eV l off fun v=>kj v K
 | .str s=>n5 s l off fun vs=>K (.agg vs)
 | .arr s=>off+s≤l.length∧K (.agg ((l.drop off).take s))
def gX (P:Program) (t:TypeId):Option e8:=match dN P t,P.underlying t with
 | true,some (.struct _)=>(match bU P t with | some (s+1)=>some (.str (s+1)) | _=>none)
 | true,_=>(bU P t).map .arr
 | false,some _=>some .one
 | false,none=>none
section
variable {P:Program}
theorem oH {t:TypeId} {a:e8} (h:gX P t=some a):(a=.one∧dN P t=false∧∃ d,P.underlying t=some d)∨(∃ s,(a=.str (s+1)∧bU P t=some (s+1)∨a=.arr s∧bU P t=some s)∧dN P t=true):=by
 unfold gX at h;split at h
 ·rename_i ad _;split at h
  ·rename_i s ai;cases h;exact .inr ⟨_,.inl ⟨rfl,ai⟩,ad⟩
  ·cases h
 ·rename_i ad _;simp only [sr] at h;obtain ⟨s,ai,rfl⟩:=h;exact .inr ⟨s,.inr ⟨rfl,ai⟩,ad⟩
 ·rename_i d ad af;cases h;exact .inl ⟨rfl,ad,d,af⟩
 ·cases h
theorem nM {t:TypeId} {a:e8} (cg:gX P t=some a) {l:List I} {off:Nat} {K:I→Prop} (h:my a l off K):∃ v,ez P t l off=some v∧K v:=by
 rcases oH cg with ⟨rfl,ad,d,af⟩ | ⟨s,af,ad⟩
 ·obtain ⟨v,ae,h⟩:=fk h;rw [kk] at h;exact ⟨v.view,by simp [ez,ad,af,ae],h⟩
 ·rcases af with ⟨rfl,af⟩ | ⟨rfl,af⟩
  ·obtain ⟨aJ,aP⟩:=z3 h;exact ⟨_,by simp only [ez,ad,af,sq];rw [if_pos (by omega)],aP⟩
  ·exact ⟨_,by simp only [ez,ad,af,sq];rw [if_pos h.1],h.2⟩
theorem Ee {t:TypeId} {a:e8} (cg:gX P t=some a) {l:List I} {off:Nat} {K:I→Prop} (h:zV a l off K):∃ v,iH P t l off=some v∧K v.view:=by
 rcases oH cg with ⟨rfl,ad,d,af⟩ | ⟨s,af,ad⟩
 ·obtain ⟨v,ae,h⟩:=fk h;rw [kk] at h;exact ⟨v,by simp [iH,ad,af,ae],h⟩
 ·rcases af with ⟨rfl,af⟩ | ⟨rfl,af⟩
  ·obtain ⟨aJ,aP⟩:=z4 h;exact ⟨_,by simp only [iH,ad,af,sq];rw [if_pos (by omega)],show K (I.view (.agg _)) from aP⟩
  ·exact ⟨_,by simp only [iH,ad,af,sq];rw [if_pos h.1],show K (I.view (.agg _)) from h.2⟩
end
def og (v:I) (K:I→Prop):Prop:=match v with
 | .ay c n (.uniq z)=>K (.ay c n (.own z))
 | v=>K v
theorem xR (v:I) (K:I→Prop):og v K=K v.settle:=by
 cases v with
 | ay c n k=>cases k <;> rfl
 | _=>rfl
def ko (v:I) (m2:I→Prop) (m3:List I→Prop):Prop:=match v with
 | .agg vc=>m3 vc
 | .junk=>False
 | .tuple _=>False
 | .raw _ _ _=>False
 | v=>m2 v
theorem lI {v:I} {m2:I→Prop} {m3:List I→Prop} (h:ko v m2 m3):(v.cells=some [v]∧m2 v)∨∃ vc,v.cells=some vc∧v=.agg vc∧m3 vc:=by
 cases v <;> first | exact .inl ⟨rfl,h⟩ | exact h.elim | exact .inr ⟨_,rfl,rfl,h⟩
def jF:List (Nat×Nat)→List I→List I→(List I→Prop)→Prop
 | [],[],cs,K=>K cs
 | (off,size)::bl,v::vs,cs,K=>ko v (fun v=>match Nat.beq size 1 with | true=>jm cs off v fun cs=>jF bl vs cs K | false=>False) (fun vc=>match Nat.beq vc.length size,Nat.blt 0 size with | true,true=>mY cs off vc fun cs=>jF bl vs cs K | _,_=>False)
 | _,_,_,_=>False
theorem kt {place:Nat→Option (Nat×Nat)}:∀ {ix:List Nat} {bl:List (Nat×Nat)} {vs cs:List I} {K:List I→Prop},jF bl vs cs K→ix.map place=bl.map some →
  ∃ da,gy place cs (ix.zip vs)=some da∧K da
 | [],[],[],cs,K,h,_=>⟨cs,rfl,h⟩
 | i::ix,(off,size)::bl,v::vs,cs,K,h,aC=>by
   simp only [sy,List.cons.injEq] at aC;obtain ⟨jT,nz⟩:=aC;simp only [jF] at h;simp only [List.zip_cons_cons,gy,jT];rcases lI h with ⟨ad,h⟩ | ⟨vc,ad,_,h⟩
   ·split at h
    ·rename_i af;have af:=tw af;obtain ⟨aG,h⟩:=lg h;obtain ⟨da,aV,aX⟩:=kt h nz;subst af;exact ⟨da,by simp only [ad];rw [if_pos ⟨rfl,by omega⟩];exact aV,aX⟩
    ·exact h.elim
   ·split at h
    ·rename_i af a8;have af:=tw af;(have a8:0<size:=by simpa [tR] using a8);obtain ⟨aG,h⟩:=ou h;obtain ⟨da,aV,aX⟩:=kt h nz;have bN:off+size≤cs.length:=by
      rcases aG with aG | aG
      ·omega
      ·rw [aG] at af;simp only [uU] at af;omega
     refine ⟨da,?_,aX⟩;simp only [ad];rw [if_pos ⟨af,bN⟩];exact aV
    ·exact h.elim
 | [],_::_,_,_,_,_,aC=>by simp at aC
 | _::_,[],_,_,_,_,aC=>by simp at aC
 | [],[],_::_,_,_,h,_=>h.elim
 | _::_,_::_,[],_,_,h,_=>h.elim
def AT:BinOp→Bool
 | .shl=>true
 | .shr=>true
 | _=>false
theorem E3 {op:BinOp} {k k':IntKind} (h:(decide (k=k') || AT op)=true):k=k'∨op=.shl∨op=.shr:=by
 rw [tX] at h;rcases h with h | h
 ·exact .inl (of_decide_eq_true h)
 ·cases op <;> first | exact .inr (.inl rfl) | exact .inr (.inr rfl) | cases h
def oI (op:BinOp) (k:IntKind) (a b:Int) (K:I→Prop):Prop:=match op with
 | .add=>K (.int k (k.wrap (a+b)))
 | .sub=>K (.int k (k.wrap (a-b)))
 | .mul=>K (.int k (k.wrap (a*b)))
 | .quo=>b≠0∧K (.int k (k.wrap (a.tdiv b)))
 | .rem=>b≠0∧K (.int k (a.tmod b))
 | .eql=>K (.bool (decide (a=b)))
 | .neq=>K (.bool (decide (a≠b)))
 | .lss=>K (.bool (decide (a<b)))
 | .leq=>K (.bool (decide (a≤b)))
 | .gtr=>K (.bool (decide (b<a)))
 | .geq=>K (.bool (decide (b≤a)))
 | .and=>K (.int k (k.wrap (BitVec.ofInt k.bits a &&& BitVec.ofInt k.bits b).toNat))
 | .or=>K (.int k (k.wrap (BitVec.ofInt k.bits a ||| BitVec.ofInt k.bits b).toNat))
 | .xor=>K (.int k (k.wrap (BitVec.ofInt k.bits a ^^^ BitVec.ofInt k.bits b).toNat))
 | .shl=>0≤b∧K (.int k (k.wrap (a*2 ^ (Nat.min b.toNat k.bits))))
 | .shr=>0≤b∧K (.int k (a.fdiv (2 ^ (Nat.min b.toNat k.bits))))
 | _=>False
section
variable {P:Program}
theorem Bs (op:BinOp) (t:TypeId) (k k':IntKind) (a b:Int):fp P op t (.int k a) (.int k' b)=match op with
  | .shl=>hv .shl k a b
  | .shr=>hv .shr k a b
  | op=>if k=k' then jx op k a b else none:=by cases op <;> rfl
theorem BF {op:BinOp} {t:TypeId} {k k':IntKind} {a b:Int} {K:I→Prop} (av:k=k'∨op=.shl∨op=.shr) (h:oI op k a b K):∃ v,fp P op t (.int k a) (.int k' b)=some v∧K v:=by
 rw [Bs];cases op <;> simp only [oI] at h <;> try exact h.elim
 case shl=>exact ⟨_,by simp only [hv];rw [if_neg (by omega)],h.2⟩
 case shr=>exact ⟨_,by simp only [hv];rw [if_neg (by omega)],h.2⟩
 all_goals (obtain rfl:k=k':=by rcases av with av | av | av <;> first | exact av | cases av)
 all_goals simp only [if_true,jx]
 case quo=>exact ⟨_,by rw [if_neg h.1],h.2⟩
 case rem=>exact ⟨_,by rw [if_neg h.1],h.2⟩
 case neq =>
  have e:(a != b)=decide (a≠b):=by by_cases jI:a=b <;> simp [jI]
  exact ⟨_,rfl,by rw [e];exact h⟩
 case eql=>exact ⟨_,rfl,h⟩
 all_goals exact ⟨_,rfl,h⟩
end
end
end Go.Proofs.YtfakoboiahbhaaaGreat.Ab


namespace Go.Proofs.YtfakoboiahbhaaaGreat.Ab
open Go
noncomputable section
def xK (v:I) (H:List au) (K:I→List au→Prop):Prop:=match v with
 | .ay cells len (.uniq z)=>(len≠0∧K (.ref H.length 0 len none z) (H++[.cells cells]))∨(len=0∧K (.ay cells len (.uniq z)) H)
 | .ay [] 0 .full=>K (.ay [] 0 .full) H
 | .ref id off len cap sz=>K (.ref id off len cap sz) H
 | _=>False
def xE (a:e8) (v:I) (H:List au) (K:I→List au→Prop):Prop:=match v with
 | .ptr id off=>eV H id fun o=>match o with | .cells l=>my a l off fun v=>K v H | .grow l _ _=>my a l off fun v=>K v H | _=>False
 | .bW cells=>my a cells 0 fun v=>K v H
 | _=>False
def xI (lo:Nat) (v:I) (H:List au) (K:I→List au→Prop):Prop:=match v with
 | .ptr id off=>match Nat.ble lo id with
   | true=>eV H id fun o=>match o with
     | .cells l=>(eV l off fun v=>match v with | .ay c n (.own z)=>K (.ay c n (.own z)) (H.set id (.cells (l.set off (.ay c n .shared)))) | .ay c n .full=>K (.ay c n .full) H | .raw c n z=>K (.ay c n (.uniq z)) (H.set id (.cells (l.set off .junk))) | _=>False)
     | .grow l g cX=>(eV l off fun v=>match v with | .ay c n (.own z)=>K (.ay c n (.own z)) (H.set id (.grow (l.set off (.ay c n .shared)) g cX)) | .ay c n .full=>K (.ay c n .full) H | _=>False)
     | _=>False
   | false=>False
 | _=>False
def xJ (lo:Nat) (v:I) (H:List au) (K:I→List au→Prop):Prop:=match v with
 | .ptr id off=>match Nat.ble lo id with
   | true=>eV H id fun o=>match o with | .cells l=>(eV l off fun v=>match v with | .raw c n z=>n≠0∧K (.ref H.length 0 n none z) (H.set id (.cells (l.set off (.ref H.length 0 n none z)))++[.cells c]) | .ay c n .full=>K (.ay c n .full) H | _=>False) | _=>False
   | false=>False
 | _=>False
def xH (lo:Nat) (p v:I) (H:List au) (K:I→List au→Prop):Prop:=match p with
 | .ptr id off=>match Nat.ble lo id with
   | true=>eV H id fun o=>match o with
     | .cells l=>(match v with | .ay c n (.uniq z)=>c.all gQ=true∧n≠0∧jm l off (.raw c n z) fun l'=>K .junk (H.set id (.cells l')) | _=>False)
     | _=>False
   | false=>False
 | _=>False
def xG (lo s:Nat) (p v:I) (H:List au) (K:I→List au→Prop):Prop:=match p with
 | .ptr id off=>match Nat.ble lo id with
   | true=>eV H id fun o=>match o with
     | .cells l=>ko v (fun v=>match Nat.beq s 1 with | true=>og v fun v=>jm l off v fun l'=>K .junk (H.set id (.cells l')) | false=>False) (fun vc=>match Nat.beq vc.length s,Nat.blt 0 s with | true,true=>mY l off (vc.map I.settle) fun l'=>K .junk (H.set id (.cells l')) | _,_=>False)
     | .grow l g z=>ko v (fun v=>match Nat.beq s 1 with | true=>og v fun v=>jm l off v fun l'=>K .junk (H.set id (.grow l' g z)) | false=>False) (fun vc=>match Nat.beq vc.length s,Nat.blt 0 s with | true,true=>mY l off (vc.map I.settle) fun l'=>K .junk (H.set id (.grow l' g z)) | _,_=>False)
     | _=>False
   | false=>False
 | _=>False
def xC (v:I) (H:List au) (K:I→List au→Prop):Prop :=
 ko v (fun v=>og v fun v=>K (.ptr H.length 0) (H++[.cells [v]])) (fun vc=>K (.ptr H.length 0) (H++[.cells (vc.map I.settle)]))
def xD (v:I) (H:List au) (K:I→List au→Prop):Prop :=
 ko v (fun v=>v.plain=true∧K (.bW [v]) H) (fun vc=>vc.all I.plain=true∧K (.bW vc) H)
def xk:List I→Int→(Int→Prop)→Prop
 | [],a,K=>K a
 | .int _ b::r,a,K=>xk r (min a b) K
 | _::_,_,_=>False
def xj:List I→Int→(Int→Prop)→Prop
 | [],a,K=>K a
 | .int _ b::r,a,K=>xj r (max a b) K
 | _::_,_,_=>False
def xB (lo s bytes:Nat) (x y:I) (H:List au) (K:I→List au→Prop):Prop:=match y with
 | .ay new m _=>(new.length=m*s∧m*bytes≤140737488355328)∧match x with
   | .ay cells n .full=>(m≠0∧(n+m)*bytes≤140737488355328∧cells.length=n*s)∧K (.cn H.length (H.length+1) (n+m) s) (H++[.grow (cells++new) (H.length+1) s,.dead])
   | .ay cells n (.uniq z)=>(z=s∧m≠0∧(n+m)*bytes≤140737488355328)∧K (.cn H.length (H.length+1) (n+m) z) (H++[.grow (cells++new) (H.length+1) z,.dead])
   | .cn id gid n z=>match Nat.ble lo id with
     | true=>eV H id fun o=>match o with
       | .grow l g cX=>((g=gid∧cX=z∧z=s∧l.length=n*z∧0<m∧(n+m)*bytes≤140737488355328)∧K (.cn H.length (H.length+1) (n+m) z) (H.set id .dead++[.grow (l++new) (H.length+1) z,.dead])) ∨
         ((g=gid∧cX=z∧z=s∧n*z<l.length∧0<m∧(n+m)*bytes≤140737488355328)∧K (.cn H.length (H.length+1) (n+m) z) (H.set id .dead++[.grow (l.take (n*z)++new) (H.length+1) z,.dead]))
       | _=>False
     | false=>False
   | _=>False
 | _=>False
def As (z:List I) (s bytes:Nat) (a b:I) (H:List au) (K:I→List au→Prop):Prop:=match a,b with
 | .int _ n,.int _ c=>0≤n∧n≤c∧c.toNat*bytes≤140737488355328∧K (.ref H.length 0 n.toNat (some c.toNat) s) (H++[.cells (e5 c.toNat z)])
 | _,_=>False
def Ar (z:List I) (s bytes:Nat) (a b:I) (H:List au) (K:I→List au→Prop):Prop:=match a,b with
 | .int _ n,.int _ c=>n=c∧0≤n∧c.toNat*bytes≤140737488355328∧K (.ay (e5 c.toNat z) n.toNat (.uniq s)) H
 | _,_=>False
def An (v:I) (H:List au) (K:I→List au→Prop):Prop:=match v with
 | .ay _ n _=>K (.int .i64 n) H
 | .ref _ _ n _ _=>K (.int .i64 n) H
 | _=>False
def n_ (s bytes:Nat) (x:I) (new:List I) (m:Nat) (H:List au) (K:I→List au→Prop):Prop:=new.length=m*s∧m*bytes≤140737488355328∧match x with
    | .ay cells n .shared=>m=0∧K (.ay cells n .shared) H
    | .ay cells n .full=>m≠0∧(n+m)*bytes≤140737488355328∧cells.length=n*s∧K (.ay (cells++new) (n+m) (.uniq s)) H
    | .ay cells n (.own z)=>z=s∧(n+m)*bytes≤140737488355328∧K (.ay (cells++new) (n+m) (.own z)) H
    | .ay cells n (.uniq z)=>z=s∧(n+m)*bytes≤140737488355328∧K (.ay (cells++new) (n+m) (.uniq z)) H
    | _=>False
def xA (s bytes:Nat) (x y:I) (H:List au) (K:I→List au→Prop):Prop:=match y with
 | .ay new m _=>n_ s bytes x new m H K
 | .ref id off m _ z=>eV H id fun o=>match o with
   | .cells l=>off+m*z≤l.length∧n_ s bytes x (((l.drop off).take (m*z)).map I.view) m H K
   | _=>False
 | _=>False
def xF (s:Nat) (l h m:Bool) (x:I) (vs:List I) (H:List au) (K:I→List au→Prop):Prop:=match x with
 | .ay cells n c=>match l,h,m,vs with
   | false,false,false,[]=>match c with
     | .uniq z=>K (.ay (cells.take (n*z)) n (.uniq z)) H
     | .shared=>K (.ay (cells.take (n*s)) n .shared) H
     | _=>False
   | true,false,false,[.int _ i]=>match c with
     | .own z=>(s=z∧0≤i∧i≤n)∧K (.ay (cells.drop (i.toNat*z)) (n-i.toNat) (.own z)) H
     | .shared | .uniq _=>(0≤i∧i≤n)∧K (.ay ((cells.drop (i.toNat*s)).take ((n-i.toNat)*s)) (n-i.toNat) .shared) H
     | _=>False
   | false,true,false,[.int _ j]=>match c with
     | .uniq z=>(0≤j∧j≤n)∧K (.ay (cells.take (j.toNat*z)) j.toNat (.uniq z)) H
     | .shared | .own _=>(0≤j∧j≤n)∧K (.ay (cells.take (j.toNat*s)) j.toNat .shared) H
     | _=>False
   | true,true,false,[.int _ i,.int _ j]=>match c with
     | .shared | .own _ | .uniq _=>(0≤i∧i≤j∧j≤n)∧K (.ay ((cells.drop (i.toNat*s)).take ((j.toNat-i.toNat)*s)) (j.toNat-i.toNat) .shared) H
     | _=>False
   | false,true,true,[.int _ j,.int _ k]=>(j=k∧0≤j∧j≤n)∧K (.ay (cells.take (j.toNat*s)) j.toNat .full) H
   | true,true,true,[.int _ i,.int _ j,.int _ k]=>(j=k∧0≤i∧i≤j∧j≤n)∧K (.ay ((cells.drop (i.toNat*s)).take ((j.toNat-i.toNat)*s)) (j.toNat-i.toNat) .full) H
   | _,_,_,_=>False
 | .ref id off n cap sz=>match l,h,m,vs with
   | true,false,false,[.int _ i]=>sz=s∧(0≤i∧i≤n)∧(i<n→K (.ref id (off+i.toNat*s) (n-i.toNat) (cap.map (·-i.toNat)) sz) H)∧(i=n→K (.ay [] 0 .shared) H)
   | false,true,false,[.int _ j]=>sz=s∧(0≤j∧j≤n∧0<n)∧K (.ref id off j.toNat cap sz) H
   | _,_,_,_=>False
 | .cn id gid n z=>match l,h,m,vs with
   | false,true,false,[.int _ j]=>(0≤j∧j≤n)∧K (.cn id gid j.toNat z) H
   | _,_,_,_=>False
 | _=>False
def Aj (off:Nat) (v:I) (H:List au) (K:I→List au→Prop):Prop:=match v with
 | .ptr id o=>K (.ptr id (o+off)) H
 | .bW cells=>K (.bW (cells.drop off)) H
 | _=>False
def Ak (s:Nat) (x i:I) (H:List au) (K:I→List au→Prop):Prop:=match i with
 | .int _ n=>match x with
   | .ay cells len _=>(0≤n∧n<len)∧K (.bW (cells.drop (n.toNat*s))) H
   | .ref id off len _ _=>(0≤n∧n<len)∧K (.ptr id (off+n.toNat*s)) H
   | _=>False
 | _=>False
def Al (len s:Nat) (x i:I) (H:List au) (K:I→List au→Prop):Prop:=match i with
 | .int _ n=>match x with
   | .ptr id off=>(0≤n∧n<len)∧K (.ptr id (off+n.toNat*s)) H
   | .bW cells=>(0≤n∧n<len)∧K (.bW (cells.drop (n.toNat*s))) H
   | _=>False
 | _=>False
def kQ (fi:hZ) (k:I):Prop:=match fi,k with
 | .int q,.int fT _=>q=fT
 | .str n,.agg cs=>cs.length=n
 | _,_=>False
def Aq (lo:Nat) (fi:hZ) (m k v:I) (H:List au) (K:I→List au→Prop):Prop:=match m with
 | .map id=>match Nat.ble lo id with
   | true=>kQ fi k∧∃ es clock,H[id]?=some (.map es clock)∧∃ r,fG k es 0=some r∧(match r with
     | some i=>K .junk (H.set id (.map (es.modify i fun e=>(e.1,k,v)) clock))
     | none=>K .junk (H.set id (.map (es++[(clock,k,v)]) (clock+1))))
   | false=>False
 | _=>False
def Ap (fi:hZ) (ok:Bool) (zero:Option I) (m k:I) (H:List au) (K:I→List au→Prop):Prop:=match m with
 | .map id=>kQ fi k∧∃ es clock,H[id]?=some (.map es clock)∧∃ r,fG k es 0=some r∧(match r with
   | some i=>∃ e,es[i]?=some e∧(match ok with | true=>K (.tuple [e.2.2,.bool true]) H | false=>K e.2.2 H)
   | none=>∃ z,zero=some z∧(match ok with | true=>K (.tuple [z,.bool false]) H | false=>K z H))
 | _=>False
def Ao (lo:Nat) (fi:hZ) (m k:I) (H:List au) (K:I→List au→Prop):Prop:=match m with
 | .map id=>match Nat.ble lo id with
   | true=>kQ fi k∧∃ es clock,H[id]?=some (.map es clock)∧∃ r,fG k es 0=some r∧(match r with
     | some i=>K (.tuple []) (H.set id (.map (es.eraseIdx i) clock))
     | none=>K (.tuple []) H)
   | false=>False
 | _=>False
def At (m:I) (H:List au) (K:I→List au→Prop):Prop:=match m with
 | .map id=>∃ es clock,H[id]?=some (.map es clock)∧K (.ptr H.length 0) (H++[.iter id clock [] clock])
 | _=>False
def Ai (p:I) (H:List au) (K:I→List au→Prop):Prop:=match p with
 | .ptr r 0=>∃ m since seen clock gm es e,H[r]?=some (.iter m since seen clock)∧seen.getLast?=some gm∧H[m]?=some (.map es clock)∧es.find? (fun e=>e.1 == gm)=some e∧K (.tuple [e.2.1,e.2.2]) H
 | _=>False
def Am (m:I) (H:List au) (K:I→List au→Prop):Prop:=match m with
 | .map id=>∃ es clock,H[id]?=some (.map es clock)∧K (.int .i64 es.length) H
 | _=>False
def bP (P:Program) (lo:Nat) (k:h0) (vs:List I) (H:List au) (K:I→List au→Prop):Prop:=match k with
 | .i_=>match vs with | [v]=>K v H | _=>False
 | .nil z=>match vs with | [_]=>K (.ay [] 0 (.uniq z)) H | _=>False
 | .A'=>match vs with | [v]=>xK v H K | _=>False
 | .p2 a=>match vs with | [v]=>xE a v H K | _=>False
 | .zi a=>match vs with | [.bW cells]=>my a cells 0 fun v=>K v H | _=>False
 | .take=>match vs with | [v]=>xI lo v H K | _=>False
 | .A_=>match vs with | [v]=>xJ lo v H K | _=>False
 | .A4=>match vs with | [p,v]=>xH lo p v H K | _=>False
 | .st s=>match vs with | [p,v]=>xG lo s p v H K | _=>False
 | .box=>match vs with | [v]=>xC v H K | _=>False
 | .ye=>match vs with | [v]=>xD v H K | _=>False
 | .alloc z=>K (.ptr H.length 0) (H++[.cells z])
 | .zF z s bytes=>match vs with | [a,b]=>As z s bytes a b H K | _=>False
 | .zE z s bytes=>match vs with | [a,b]=>Ar z s bytes a b H K | _=>False
 | .xe=>match vs with | [v]=>An v H K | _=>False
 | .zk n=>match vs with | [.ay _ _ _] | [.ref _ _ _ _ _] | [.map _]=>False | [_]=>K (.int .i64 n) H | _=>False
 | .min=>match vs with | .int k a::r=>xk r a fun n=>K (.int k n) H | _=>False
 | .max=>match vs with | .int k a::r=>xj r a fun n=>K (.int k n) H | _=>False
 | .app s bytes=>match vs with | [x,y]=>xA s bytes x y H K | _=>False
 | .x_ s bytes=>match vs with | [x,y]=>xB lo s bytes x y H K | _=>False
 | .call _=>False
 | .pick=>match vs with | [.bool c,a,b]=>(match c with | true=>K a H | false=>K b H) | _=>False
 | .build z bl=>jF bl vs z fun cs=>K (.agg cs) H
 | .yg len s z ix=>jF (ix.map fun i=>(i*s,s)) vs (e5 len z) fun cs=>K (.ay cs len (.uniq s)) H
 | .yf len s z ix=>jF (ix.map fun i=>(i*s,s)) vs (e5 len z) fun cs=>K (.ay cs len .full) H
 | .zI=>match vs with | [.ptr id off]=>K (.ptr id off) H | [.bW cells]=>K (.bW cells) H | _=>False
 | .bin op=>match vs with | [.int k a,.int k' b]=>(match decide (k=k') || AT op with | true=>oI op k a b fun v=>K v H | false=>False) | _=>False
 | .oK neq=>match vs with | [.bool a,.bool b]=>(match neq with | true=>K (.bool (!(a == b))) H | false=>K (.bool (a == b)) H) | _=>False
 | .un op=>match vs with
   | [.bool b]=>(match op with | .not=>K (.bool !b) H | _=>False)
   | [.int k n]=>(match op with | .neg=>K (.int k (k.wrap (-n))) H | _=>False)
   | _=>False
 | .conv k=>match vs with | [.int _ n]=>K (.int k (k.wrap n)) H | _=>False
 | .zC f n m=>(match Nat.beq vs.length (n+m) with | true=>K (.func f (vs.take n) (vs.drop n)) H | false=>False)
 | .A2 s l h m=>match vs with | x::vs=>xF s l h m x vs H K | _=>False
 | .zD=>K (.map H.length) (H++[.map [] 0])
 | .zw fi=>match vs with | [m,k,v]=>Aq lo fi m k v H K | _=>False
 | .zv fi ok z=>match vs with | [m,k]=>Ap fi ok z m k H K | _=>False
 | .zu fi=>match vs with | [m,k]=>Ao lo fi m k H K | _=>False
 | .Av=>match vs with | [m]=>At m H K | _=>False
 | .yo=>match vs with | [m]=>Ai m H K | _=>False
 | .zl=>match vs with | [m]=>Am m H K | _=>False
 | .oY off=>match vs with | [v]=>Aj off v H K | _=>False
 | .yx off a=>match vs with | [.agg cs]=>zV a cs off fun v=>K v H | _=>False
 | .pV s=>match vs with | [x,i]=>Ak s x i H K | _=>False
 | .y_ len s=>match vs with | [x,i]=>Al len s x i H K | _=>False
 | .ext i=>match vs with | [.tuple ws]=>(eV ws i fun v=>kj v fun v=>K v H) | _=>False
 | .other o mode=>∃ v H',(∀ C,a_ P C lo o mode vs H=some (v,H'))∧K v H'
def n8 (P:Program) (o:Oper) (mode:Nat) (x:Operand):h0:=match mode with
 | 0=>match iY x,P.underlying o.type with
   | true,some (.slice e)=>(match bU P e with | some z=>.nil z | none=>.other o mode)
   | _,_=>.i_
 | 1=>.A'
 | _=>.other o mode
def mw (P:Program) (t:TypeId):Option (hZ×TypeId):=match jZ P t with
 | some (k,e)=>(match P.underlying k with
   | some (.int q)=>some (.int q,e)
   | some (.struct bH)=>some (.str bH.size,e)
   | _=>none)
 | none=>none
def hn (P:Program) (o:Oper) (mode:Nat):h0:=match o.op with
 | .move x | .assign x=>n8 P o mode x
 | .load t _=>match mode with
   | 0=>(match gX P t with | some a=>.p2 a | none=>.other o mode)
   | 2=>(match P.underlying t with | some (.slice _)=>.A_ | _=>.other o mode)
   | 3=>(match gX P t with | some a=>.zi a | none=>.other o mode)
   | 5=>.other o mode
   | _=>match P.underlying t with | some (.slice _)=>.take | _=>.other o mode
 | .store t _ _=>match mode,bU P t with | 0,some s=>.st s | _+1,some 1=>.A4 | _,_=>.other o mode
 | .box _ _=>match mode with | 0=>.box | _=>.ye
 | .alloc t=>match mode with
   | 0=>(match zeroCells P t with | some z=>.alloc z | none=>.other o mode)
   | _=>(match zeroCells P t,P.underlying t with
     | some [.ay [] 0 .full],some (.slice e)=>(match bU P e with | some s=>.alloc [.ay [] 0 (.own s)] | none=>.other o mode)
     | _,_=>.other o mode)
 | .makeSlice t _ _=>match mode,P.underlying t with
   | 0,some (.slice e)=>(match bU P e,zeroCells P e,(P.info? e).map (·.bytes) with
     | some s,some z,some bytes=>(match Nat.beq z.length s && Nat.blt 0 s && Nat.ble 1 bytes with | true=>.zF z s bytes | false=>.other o mode)
     | _,_,_=>.other o mode)
   | _+1,some (.slice e)=>(match bU P e,zeroCells P e,(P.info? e).map (·.bytes) with
     | some s,some z,some bytes=>(match Nat.beq z.length s && Nat.blt 0 s && Nat.ble 1 bytes with | true=>.zE z s bytes | false=>.other o mode)
     | _,_,_=>.other o mode)
   | _,_=>.other o mode
 | .call c=>match c.callee with
   | .builtin b=>match b with
     | .len=>(match iZ P c.argTypes[0]? with
       | true=>.xe
       | false=>match (c.argTypes[0]?).bind P.underlying with | some (.array n _)=>.zk n | some (.map _ _)=>.zl | _=>.other o mode)
     | .delete=>(match (c.argTypes[0]?).bind (mw P) with | some x=>.zu x.1 | none=>.other o mode)
     | .min=>.min
     | .max=>.max
     | .append=>(match c.argTypes.toList with
       | [t,dt]=>(match Nat.beq t dt,P.underlying t with
         | true,some (.slice e)=>(match bU P e,zeroCells P e,(P.info? e).map (·.bytes) with
           | some s,some z,some bytes=>(match Nat.beq z.length s && Nat.blt 0 s && Nat.ble 1 bytes,mode with | true,0=>.app s bytes | true,_=>.x_ s bytes | false,_=>.other o mode)
           | _,_,_=>.other o mode)
         | _,_=>.other o mode)
       | _=>.other o mode)
     | _=>.other o mode
   | .value _=>.call mode
   | .invoke _ _=>.other o mode
 | .makeMap t r=>match r,P.underlying t with | none,some (.map _ _)=>.zD | _,_=>.other o mode
 | .mapUpdate t _ _ _=>match mw P t with | some x=>.zw x.1 | none=>.other o mode
 | .lookup t _ _ ok=>match mw P t with | some x=>.zv x.1 ok (oy P x.2) | none=>.other o mode
 | .range t _=>match P.underlying t with | some (.map _ _)=>.Av | _=>.other o mode
 | .entry _=>.yo
 | .pick _ _ _=>.pick
 | .build t parts=>match zeroCells P t,P.underlying t with
   | some z,some (.struct bH)=>(match bH.toList.all (fun f=>(bU P f.type).isSome),mC (fun i=>(bH[i]?).bind fun f=>(bU P f.type).map fun s=>(f.offset,s)) (parts.toList.map (·.1)) with
     | true,some bl=>.build z bl
     | _,_=>.other o mode)
   | some z,some (.array _ e)=>(match bU P e with | some s=>.build z (parts.toList.map fun p=>(p.1*s,s)) | none=>.other o mode)
   | _,_=>.other o mode
 | .buildSlice t len parts=>match P.underlying t with
   | some (.slice e)=>(match bU P e,zeroCells P e with
     | some s,some z=>(match Nat.beq z.length s && Nat.blt 0 s && Nat.ble (len*s) 16777216,mode with | true,0=>.yg len s z (parts.toList.map (·.1)) | true,_=>.yf len s z (parts.toList.map (·.1)) | false,_=>.other o mode)
     | _,_=>.other o mode)
   | _=>.other o mode
 | .nilCheck _=>.zI
 | .binOp op t _ y _=>match iY y,P.underlying t with
   | false,some (.int _)=>.bin op
   | false,some .bool=>(match op with | .eql=>.oK false | .neq=>.oK true | _=>.other o mode)
   | _,_=>.other o mode
 | .unOp op _ _=>.un op
 | .convert src dst _=>match P.underlying src,P.underlying dst with
   | some _,some (.int k)=>.conv k
   | _,_=>.other o mode
 | .makeFunc fn first captured=>match fn with | .func f=>.zC f first.size captured.size | _=>.other o mode
 | .slice t _ l h m=>match P.underlying t with
   | some (.slice e)=>(match bU P e with | some s=>.A2 s l.isSome h.isSome m.isSome | none=>.other o mode)
   | _=>.other o mode
 | .fieldAddr t _ f=>match P.underlying t with
   | some (.struct bH)=>(match (bH[f]?).bind fun g=>(bU P g.type).map fun s=>(s,g.offset) with
     | some (s+1,off)=>.oY off
     | _=>.other o mode)
   | _=>.other o mode
 | .field t _ f=>match P.underlying t with
   | some (.struct bH)=>(match (bH[f]?).bind fun g=>(gX P g.type).map fun a=>(a,g.offset) with
     | some (a,off)=>.yx off a
     | _=>.other o mode)
   | _=>.other o mode
 | .indexAddr t _ _=>match P.underlying t with
   | some (.slice e)=>(match bU P e with | some s=>.pV s | none=>.other o mode)
   | some (.array len e)=>(match bU P e with | some s=>.y_ len s | none=>.other o mode)
   | _=>.other o mode
 | .extract _ i=>.ext i
 | _=>.other o mode
where
 mC {α β:Type} (f:α→Option β):List α→Option (List β)
  | []=>some []
  | x::xs=>match f x with | some y=>(mC f xs).map (y::·) | none=>none
end
end Go.Proofs.YtfakoboiahbhaaaGreat.Ab


namespace Go.Proofs.YtfakoboiahbhaaaGreat.Ab
open Go
section
variable {P:Program} {H:List au}
theorem gj {n bytes:Nat} (ad:n*bytes≤140737488355328) (af:1≤bytes):fx n bytes=true:=by
 simp only [fx,sM,uV];exact ⟨ad,af⟩
theorem Ev {lo:Nat} {t:TypeId} {a:e8} (cg:gX P t=some a) {v:I} {K:I→List au→Prop} (h:xE a v H K):∃ r H',dT P lo 0 t H [v]=some (r,H')∧K r H':=by
 unfold xE at h;split at h
 ·obtain ⟨x,ak,h⟩:=fk h;split at h
  ·obtain ⟨r,ad,af⟩:=nM cg h;exact ⟨r,H,by simp [dT,dW,ak,ad],af⟩
  ·obtain ⟨r,ad,af⟩:=nM cg h;exact ⟨r,H,by simp [dT,dW,ak,ad],af⟩
  ·exact h.elim
 ·obtain ⟨r,ad,af⟩:=nM cg h;exact ⟨r,H,by simp [dT,dW,ad],af⟩
 ·exact h.elim
theorem EA {lo mode:Nat} {t e:TypeId} (hm:mode≠0) (pA:mode≠2) (yQ:mode≠3) (yR:mode≠5) (ax:P.underlying t=some (.slice e)) {v:I} {K:I→List au→Prop} (h:xI lo v H K):∃ r H',dT P lo mode t H [v]=some (r,H')∧K r H':=by
 unfold xI at h;split at h
 ·split at h
  ·rename_i bG;obtain ⟨x,ak,h⟩:=fk h;have bG:=uB bG;split at h
   ·obtain ⟨v,ae,h⟩:=fk h;split at h
    ·refine ⟨_,_,?_,h⟩;cases mode with
     | zero=>exact absurd rfl hm
     | succ m=>simp only [dT,ax,bG,if_true,ak,ae]
    ·refine ⟨_,_,?_,h⟩;cases mode with
     | zero=>exact absurd rfl hm
     | succ m=>simp only [dT,ax,bG,if_true,ak,ae];rfl
    ·refine ⟨_,_,?_,h⟩;cases mode with
     | zero=>exact absurd rfl hm
     | succ m=>simp only [dT,ax,bG,if_true,ak,ae];rw [if_neg pA]
    ·exact h.elim
   ·obtain ⟨v,ae,h⟩:=fk h;split at h
    ·refine ⟨_,_,?_,h⟩;cases mode with
     | zero=>exact absurd rfl hm
     | succ m=>simp only [dT,ax,bG,if_true,ak,ae]
    ·refine ⟨_,_,?_,h⟩;cases mode with
     | zero=>exact absurd rfl hm
     | succ m=>simp only [dT,ax,bG,if_true,ak,ae]
    ·exact h.elim
   ·exact h.elim
  ·exact h.elim
 ·exact h.elim
theorem Ez {lo:Nat} {t e:TypeId} (ax:P.underlying t=some (.slice e)) {v:I} {K:I→List au→Prop} (h:xJ lo v H K):∃ r H',dT P lo 2 t H [v]=some (r,H')∧K r H':=by
 unfold xJ at h;split at h
 ·split at h
  ·rename_i bG;obtain ⟨x,ak,h⟩:=fk h;have bG:=uB bG;split at h
   ·obtain ⟨v,ae,h⟩:=fk h;split at h
    ·exact ⟨_,_,by simp only [dT,ax,bG,if_true,ak,ae];rw [if_neg h.1],h.2⟩
    ·exact ⟨_,_,by simp only [dT,ax,bG,if_true,ak,ae];rfl,h⟩
    ·exact h.elim
   ·exact h.elim
  ·exact h.elim
 ·exact h.elim
theorem Ex {lo mode:Nat} {t:TypeId} (hm:mode≠0) (ai:bU P t=some 1) {p v:I} {K:I→List au→Prop} (h:xH lo p v H K):∃ r H',hJ P lo mode t H [p,v]=some (r,H')∧K r H':=by
 unfold xH at h;split at h
 ·split at h
  ·rename_i bG;have bG:=uB bG;obtain ⟨x,ak,h⟩:=fk h;split at h
   ·split at h
    ·obtain ⟨ad,af,h⟩:=h;obtain ⟨aG,h⟩:=lg h;refine ⟨.junk,_,?_,h⟩;cases mode with
     | zero=>exact absurd rfl hm
     | succ m =>
       simp only [hJ,lB,ai];rw [if_pos ⟨ad,af⟩];simp only [hd,bG,if_true,ak];rw [if_pos aG];rfl
    ·exact h.elim
   ·exact h.elim
  ·exact h.elim
 ·exact h.elim
theorem Ey {lo s:Nat} {t:TypeId} (ai:bU P t=some s) {p v:I} {K:I→List au→Prop} (h:xG lo s p v H K):∃ r H',hJ P lo 0 t H [p,v]=some (r,H')∧K r H':=by
 unfold xG at h;split at h
 ·split at h
  ·rename_i bG;have bG:=uB bG;obtain ⟨x,ak,h⟩:=fk h;split at h
   ·rcases lI h with ⟨ad,av⟩ | ⟨vc,ad,_,av⟩
    ·split at av
     ·rename_i af;have af:=tw af;rw [xR] at av;obtain ⟨aG,av⟩:=lg av;clear h;subst af;exact ⟨.junk,_,by simp only [hJ,iI,ai,ad,hf,bG,if_true,ak];rw [if_pos ⟨rfl,by omega⟩];rfl,av⟩
     ·exact av.elim
    ·split at av
     ·rename_i af a8;have af:=tw af;(have a8:0<s:=by simpa [tR] using a8);obtain ⟨aG,av⟩:=ou av;(have bN:=aG.resolve_right fun aG=>by simp only [List.map_eq_nil_iff] at aG;rw [aG] at af;simp only [uU] at af;omega);simp only [tj,af] at bN;exact ⟨.junk,_,by simp only [hJ,iI,ai,ad,hf,bG,if_true,ak];rw [if_pos ⟨af,bN⟩];rfl,av⟩
     ·exact av.elim
   ·rcases lI h with ⟨ad,av⟩ | ⟨vc,ad,_,av⟩
    ·split at av
     ·rename_i af;have af:=tw af;rw [xR] at av;obtain ⟨aG,av⟩:=lg av;clear h;subst af;exact ⟨.junk,_,by simp only [hJ,iI,ai,ad,hf,bG,if_true,ak];rw [if_pos ⟨rfl,by omega⟩];rfl,av⟩
     ·exact av.elim
    ·split at av
     ·rename_i af a8;have af:=tw af;(have a8:0<s:=by simpa [tR] using a8);obtain ⟨aG,av⟩:=ou av;(have bN:=aG.resolve_right fun aG=>by simp only [List.map_eq_nil_iff] at aG;rw [aG] at af;simp only [uU] at af;omega);simp only [tj,af] at bN;exact ⟨.junk,_,by simp only [hJ,iI,ai,ad,hf,bG,if_true,ak];rw [if_pos ⟨af,bN⟩];rfl,av⟩
     ·exact av.elim
   ·exact h.elim
  ·exact h.elim
 ·exact h.elim
theorem Eu {v:I} {K:I→List au→Prop} (h:xC v H K):∃ r H',gM 0 H [v]=some (r,H')∧K r H':=by
 unfold xC at h;rcases lI h with ⟨ad,h⟩ | ⟨vc,ad,_,h⟩
 ·rw [xR] at h;exact ⟨_,_,by simp only [gM,ad,sB,sy,List.map_nil],h⟩
 ·exact ⟨_,_,by simp only [gM,ad,sB],h⟩
theorem Et {mode:Nat} (hm:mode≠0) {v:I} {K:I→List au→Prop} (h:xD v H K):∃ r H',gM mode H [v]=some (r,H')∧K r H':=by
 unfold xD at h;cases mode with
 | zero=>exact absurd rfl hm
 | succ m =>
 rcases lI h with ⟨ad,af,h⟩ | ⟨vc,ad,_,af,h⟩
 ·have aG:[v].all I.plain=true:=by simp [af]
  exact ⟨_,_,by simp only [gM,ad,aG],h⟩
 ·exact ⟨_,_,by simp only [gM,ad,af],h⟩
theorem zB:∀ (l:List I) (a:Int) {K:Int→Prop},xk l a K→∃ n,kX l a=some n∧K n
 | [],a,K,h=>⟨a,rfl,h⟩
 | .int k b::r,a,K,h=>by
   obtain ⟨n,ad,af⟩:=zB r _ h;(have e:min a b=if b<a then b else a:=by split <;> omega);rw [e] at ad;exact ⟨n,ad,af⟩
 | .junk::_,_,_,h | .bool _::_,_,_,h | .eH::_,_,_,h | .ptr _ _::_,_,_,h | .bW _::_,_,_,h | .ay _ _ _::_,_,_,h | .ref _ _ _ _ _::_,_,_,h | .func _ _ _::_,_,_,h | .yield _::_,_,_,h | .map _::_,_,_,h
 | .agg _::_,_,_,h | .tuple _::_,_,_,h | .str _::_,_,_,h | .raw _ _ _::_,_,_,h | .cn _ _ _ _::_,_,_,h=>h.elim
theorem zA:∀ (l:List I) (a:Int) {K:Int→Prop},xj l a K→∃ n,kW l a=some n∧K n
 | [],a,K,h=>⟨a,rfl,h⟩
 | .int k b::r,a,K,h=>by
   obtain ⟨n,ad,af⟩:=zA r _ h;(have e:max a b=if b > a then b else a:=by split <;> omega);rw [e] at ad;exact ⟨n,ad,af⟩
 | .junk::_,_,_,h | .bool _::_,_,_,h | .eH::_,_,_,h | .ptr _ _::_,_,_,h | .bW _::_,_,_,h | .ay _ _ _::_,_,_,h | .ref _ _ _ _ _::_,_,_,h | .func _ _ _::_,_,_,h | .yield _::_,_,_,h | .map _::_,_,_,h
 | .agg _::_,_,_,h | .tuple _::_,_,_,h | .str _::_,_,_,h | .raw _ _ _::_,_,_,h | .cn _ _ _ _::_,_,_,h=>h.elim
theorem EB {lo:Nat} {t:TypeId} {x:Operand} {v:I} {K:I→List au→Prop} (h:xK v H K):∃ r H',eW P lo 1 t x H [v]=some (r,H')∧K r H':=by
 unfold xK at h;split at h
 ·rcases h with h | h
  ·exact ⟨_,_,by simp only [eW];rw [if_neg h.1],h.2⟩
  ·exact ⟨_,_,by simp only [eW];rw [if_pos h.1],h.2⟩
 ·exact ⟨_,_,rfl,h⟩
 ·exact ⟨_,_,rfl,h⟩
 ·exact h.elim
theorem Ah {t e:TypeId} {s bytes:Nat} (ax:P.underlying t=some (.slice e)) (ai:bU P e=some s) {z:List I} (bp:zeroCells P e=some z) (ag:(P.info? e).map (·.bytes)=some bytes)
  (ew:z.length=s) (aS:0<s) (ad:1≤bytes) {x y:I} {new:List I} {m:Nat} (eO:appended H y=some (m,new)) {K:I→List au→Prop} (h:n_ s bytes x new m H K):∃ r H',jc P #[t,t] H [x,y]=some (r,H')∧K r H':=by
 unfold n_ at h;obtain ⟨aB,aH,h⟩:=h;have ao:new.length=m*s∧0<s∧z.length=s∧fx m bytes=true:=⟨aB,aS,ew,gj aH ad⟩;have key:∀ {r:I},fa P H t t x y=some r→jc P #[t,t] H [x,y]=some (r,H):=fun h=>by simp [jc,h]
 have beq:Nat.beq t t=true:=wy t;split at h
 ·obtain ⟨br,h⟩:=h;subst br;refine ⟨_,_,key ?_,h⟩;simp only [fa,ax,ai,ag,bp,beq,eO];rw [if_pos ao];rfl
 ·obtain ⟨br,cL,eF,h⟩:=h;refine ⟨_,_,key ?_,h⟩;simp only [fa,ax,ai,ag,bp,beq,eO];rw [if_pos ao];simp only [br,if_false];rw [if_pos ⟨gj cL ad,eF⟩]
 ·obtain ⟨br,cL,h⟩:=h;refine ⟨_,_,key ?_,h⟩;simp only [fa,ax,ai,ag,bp,beq,eO];rw [if_pos ao];simp only [br];rw [if_pos ⟨trivial,gj cL ad⟩]
 ·obtain ⟨br,cL,h⟩:=h;refine ⟨_,_,key ?_,h⟩;simp only [fa,ax,ai,ag,bp,beq,eO];rw [if_pos ao];simp only [br];rw [if_pos ⟨trivial,gj cL ad⟩]
 ·exact h.elim
theorem Es {t e:TypeId} {s bytes:Nat} (ax:P.underlying t=some (.slice e)) (ai:bU P e=some s) {z:List I} (bp:zeroCells P e=some z) (ag:(P.info? e).map (·.bytes)=some bytes)
  (ew:z.length=s) (aS:0<s) (ad:1≤bytes) {x y:I} {K:I→List au→Prop} (h:xA s bytes x y H K):∃ r H',jc P #[t,t] H [x,y]=some (r,H')∧K r H':=by
 unfold xA at h;split at h
 ·rename_i new m c;exact Ah ax ai bp ag ew aS ad (y:=.ay new m c) rfl h
 ·rename_i id off m c cX;obtain ⟨o,aq,h⟩:=fk h;split at h
  ·rename_i l;obtain ⟨br,h⟩:=h;refine Ah ax ai bp ag ew aS ad (y:=.ref id off m c cX) ?_ h;simp only [appended,lenOf,rowOf,aq,if_pos br]
  ·exact h.elim
 ·exact h.elim
theorem Nat.BK {a b:Nat} (h:b=a):Nat.blt a b=false:=by
 cases ag:Nat.blt a b with
 | false=>rfl
 | true=>have:=uB ag;omega
theorem Er {lo:Nat} {t e:TypeId} {s bytes:Nat} (ax:P.underlying t=some (.slice e)) (ai:bU P e=some s) {z:List I} (bp:zeroCells P e=some z) (ag:(P.info? e).map (·.bytes)=some bytes)
  (ew:z.length=s) (aS:0<s) (ad:1≤bytes) {x y:I} {K:I→List au→Prop} (h:xB lo s bytes x y H K):∃ r H',jd P lo #[t,t] H [x,y]=some (r,H')∧K r H':=by
 unfold xB at h;split at h
 ·rename_i new m c;obtain ⟨⟨aB,aH⟩,h⟩:=h;have eO:appended H (.ay new m c)=some (m,new):=rfl;have ao:new.length=m*s∧0<s∧z.length=s∧fx m bytes=true:=⟨aB,aS,ew,gj aH ad⟩;have beq:Nat.beq t t=true:=wy t;split at h
  ·rename_i cells n;obtain ⟨⟨br,cL,eF⟩,h⟩:=h;refine ⟨_,_,?_,h⟩;have q:fa P H t t (.ay cells n .full) (.ay new m c)=some (.ay (cells++new) (n+m) (.uniq s)):=by
    simp only [fa,ax,ai,ag,bp,beq,eO];rw [if_pos ao];simp only [br,if_false];rw [if_pos ⟨gj cL ad,eF⟩]
   simp only [jd,ji,il,q];rw [if_neg (by omega)]
  ·rename_i cells n cX;obtain ⟨⟨rfl,br,cL⟩,h⟩:=h;refine ⟨_,_,?_,h⟩;have q:fa P H t t (.ay cells n (.uniq cX)) (.ay new m c)=some (.ay (cells++new) (n+m) (.uniq cX)):=by
    simp only [fa,ax,ai,ag,bp,beq,eO];rw [if_pos ao];rw [if_pos ⟨trivial,gj cL ad⟩]
   simp only [jd,ji,il,q];rw [if_neg (by omega)]
  ·rename_i id gid n z;split at h
   ·rename_i bG;have bG:=uB bG;obtain ⟨o,aE,h⟩:=fk h;split at h
    ·rcases h with ⟨⟨cd,b_,eb,br,cL,eF⟩,bN⟩ | ⟨⟨cd,b_,eb,br,cL,eF⟩,bN⟩
     ·subst cd b_ eb;refine ⟨_,_,?_,bN⟩;have iO:=Nat.BK br;simp only [jd,ji,aE,iO,Bool.false_and];simp only [il,bG,if_true,ax,aE,ai,ag,bp,eO];rw [if_pos ⟨trivial,trivial,trivial,trivial,br,aB,aS,cL,ew,gj aH ad,gj eF ad⟩]
     ·rename_i l g cX;subst cd b_ eb;refine ⟨_,_,?_,bN⟩;have iO:Nat.blt (n*cX) l.length=true:=uE br;have fs:Nat.ble lo id=true:=uE bG;have CD:=(ss.1 aE).1;(have pt:(H.set id (.grow (l.take (n*cX)) g cX))[id]?=some (.grow (l.take (n*cX)) g cX):=by rw [sE CD]);simp only [jd,ji,aE,iO,fs,Bool.and_self];simp only [il,bG,if_true,ax,pt,ai,ag,bp];have Cd:appended (H.set id (.grow (l.take (n*cX)) g cX)) (.ay new m c)=some (m,new):=rfl;simp only [Cd];rw [if_pos ⟨trivial,trivial,trivial,trivial,by rw [List.length_take];omega,aB,aS,cL,ew,gj aH ad,gj eF ad⟩,List.set_set,tC]
    ·exact h.elim
   ·exact h.elim
  ·exact h.elim
 ·exact h.elim
theorem Ew {t e:TypeId} {s:Nat} (ax:P.underlying t=some (.slice e)) (ai:bU P e=some s) {l h m:Option Operand} {x:I} {vs:List I} {K:I→List au→Prop}
  (av:xF s l.isSome h.isSome m.isSome x vs H K):∃ r,ep P t l h m (x::vs)=some r∧K r H:=by
 unfold xF at av;split at av
 ·rename_i cells n c;split at av
  ·rename_i e1 cm dJ;obtain rfl:=tM.1 e1 |> tN.1;obtain rfl:=tM.1 cm |> tN.1;obtain rfl:=tM.1 dJ |> tN.1;split at av
   ·exact ⟨_,by simp [ep,ax,ai,cK,dr],av⟩
   ·exact ⟨_,by simp [ep,I.view,eY,ax,ai,cK,dr],av⟩
   ·exact av.elim
  ·rename_i k i e1 cm dJ;obtain ⟨l,rfl⟩:=tW.1 e1;obtain rfl:=tM.1 cm |> tN.1;obtain rfl:=tM.1 dJ |> tN.1;split at av
   ·obtain ⟨⟨rfl,ag⟩,av⟩:=av;exact ⟨_,by simp [ep,ax,ai,cK,dr,ag],av⟩
   ·obtain ⟨ag,av⟩:=av;exact ⟨_,by simp [ep,I.view,eY,ax,ai,cK,dr,ag],av⟩
   ·obtain ⟨ag,av⟩:=av;exact ⟨_,by simp [ep,I.view,eY,ax,ai,cK,dr,ag],av⟩
   ·exact av.elim
  ·rename_i k j e1 cm dJ;obtain rfl:=tM.1 e1 |> tN.1;obtain ⟨h,rfl⟩:=tW.1 cm;obtain rfl:=tM.1 dJ |> tN.1;split at av
   ·obtain ⟨ag,av⟩:=av;exact ⟨_,by simp [ep,ax,ai,cK,dr,ag],av⟩
   ·obtain ⟨ag,av⟩:=av;exact ⟨_,by simp [ep,I.view,eY,ax,ai,cK,dr,ag],av⟩
   ·obtain ⟨ag,av⟩:=av;exact ⟨_,by simp [ep,I.view,eY,ax,ai,cK,dr,ag],av⟩
   ·exact av.elim
  ·rename_i k i k' j e1 cm dJ;obtain ⟨l,rfl⟩:=tW.1 e1;obtain ⟨h,rfl⟩:=tW.1 cm;obtain rfl:=tM.1 dJ |> tN.1;have aw:0≤i∧i≤j∧j≤n→(0≤j∧j≤n)∧i≤max j 0:=fun ag=>⟨⟨by omega,ag.2.2⟩,by omega⟩;split at av
   ·obtain ⟨ag,av⟩:=av;obtain ⟨aV,aX⟩:=aw ag;exact ⟨_,by simp [ep,I.view,eY,ax,ai,cK,dr,aV,aX,ag.1],av⟩
   ·obtain ⟨ag,av⟩:=av;obtain ⟨aV,aX⟩:=aw ag;exact ⟨_,by simp [ep,I.view,eY,ax,ai,cK,dr,aV,aX,ag.1],av⟩
   ·obtain ⟨ag,av⟩:=av;obtain ⟨aV,aX⟩:=aw ag;exact ⟨_,by simp [ep,I.view,eY,ax,ai,cK,dr,aV,aX,ag.1],av⟩
   ·exact av.elim
  ·rename_i k j k' zc e1 cm dJ;obtain rfl:=tM.1 e1 |> tN.1;obtain ⟨h,rfl⟩:=tW.1 cm;obtain ⟨m,rfl⟩:=tW.1 dJ;obtain ⟨⟨rfl,ag⟩,av⟩:=av;(have q:j≤max j 0:=by omega);refine ⟨_,?_,av⟩;cases c <;> simp [ep,I.view,eY,ax,ai,cK,dr,ag,q]
  ·rename_i k i k' j Gn zc e1 cm dJ;obtain ⟨l,rfl⟩:=tW.1 e1;obtain ⟨h,rfl⟩:=tW.1 cm;obtain ⟨m,rfl⟩:=tW.1 dJ;obtain ⟨⟨rfl,ag⟩,av⟩:=av;(have q:j≤max j 0:=by omega);(have aX:i≤max j 0:=by omega);(have cB:0≤j:=by omega);refine ⟨_,?_,av⟩;cases c <;> simp [ep,I.view,eY,ax,ai,cK,dr,ag,q,aX,cB]
  ·exact av.elim
 ·rename_i id off n cap sz;split at av
  ·rename_i k i e1 cm dJ;obtain ⟨l,rfl⟩:=tW.1 e1;obtain rfl:=tM.1 cm |> tN.1;obtain rfl:=tM.1 dJ |> tN.1;obtain ⟨rfl,ag,aJ,aP⟩:=av;by_cases hi:i<n
   ·(have hi':i.toNat<n:=by omega);exact ⟨_,by simp [ep,I.view,eY,ax,ai,cK,dr,ag,hi'],aJ hi⟩
   ·(have hi':¬ i.toNat<n:=by omega);exact ⟨_,by simp [ep,I.view,eY,ax,ai,cK,dr,ag,hi'],aP (by omega)⟩
  ·rename_i k j e1 cm dJ;obtain rfl:=tM.1 e1 |> tN.1;obtain ⟨h,rfl⟩:=tW.1 cm;obtain rfl:=tM.1 dJ |> tN.1;obtain ⟨rfl,⟨br,cL,eF⟩,av⟩:=av;(have ao:cap.map (·-0)=cap:=by cases cap <;> rfl);exact ⟨_,by simp [ep,I.view,eY,ax,ai,cK,dr,br,cL,eF],av⟩
  ·exact av.elim
 ·rename_i id gid n z;split at av
  ·rename_i k j e1 cm dJ;obtain rfl:=tM.1 e1 |> tN.1;obtain ⟨h,rfl⟩:=tW.1 cm;obtain rfl:=tM.1 dJ |> tN.1;obtain ⟨ag,av⟩:=av;exact ⟨_,by simp [ep,ax,ai,cK,dr,ag],av⟩
  ·exact av.elim
 ·exact av.elim
end
end Go.Proofs.YtfakoboiahbhaaaGreat.Ab


namespace Go.Proofs.YtfakoboiahbhaaaGreat.Ab
open Go
section
variable {P:Program} {H:List au}
theorem zy {α β:Type} {f:α→Option β}:∀ {l:List α} {r:List β},hn.mC f l=some r→l.map f=r.map some
 | [],r,h=>by simp [hn.mC] at h;subst h;rfl
 | x::xs,r,h=>by
   simp only [hn.mC] at h;split at h
   ·rename_i y a2;simp only [sr] at h;obtain ⟨ys,h,rfl⟩:=h;simp [a2,zy h]
   ·simp at h
theorem p1 {t:TypeId} {x:hZ×TypeId} (h:mw P t=some x):∃ ef,jZ P t=some (ef,x.2)∧∀ k,kQ x.1 k→isKey P ef k=true:=by
 unfold mw at h;split at h
 ·rename_i ef e hm;split at h
  ·rename_i q a5;cases h;refine ⟨ef,hm,fun k av=>?_⟩;cases k <;> simp only [kQ] at av;subst av;simp [isKey,a5]
  ·rename_i bH ai;cases h;refine ⟨ef,hm,fun k av=>?_⟩;cases k <;> simp only [kQ] at av;simp [isKey,ai,av]
  ·cases h
 ·cases h
theorem Af {lo:Nat} {o:Oper} {mode:Nat} {vs:List I} {K:I→List au→Prop} (h:bP P lo (hn P o mode) vs H K):∃ v H',(∀ C,a_ P C lo o mode vs H=some (v,H'))∧K v H':=by
 have Gv:∀ {x:h0},x=.other o mode→bP P lo x vs H K→∃ v H',(∀ C,a_ P C lo o mode vs H=some (v,H'))∧K v H':=fun e h=>by subst e;exact h
 have pure:∀ {r:I},(∀ C,a_ P C lo o mode vs H=(cA P o vs).map (·,H))→cA P o vs=some r→K r H→∃ v H',(∀ C,a_ P C lo o mode vs H=some (v,H'))∧K v H':=fun ad af aG=>⟨_,H,fun C=>by rw [ad C,af];rfl,aG⟩;have i_:∀ x,(o.op=.move x∨o.op=.assign x)→(∀ C,a_ P C lo o mode vs H=eW P lo mode o.type x H vs)→bP P lo (n8 P o mode x) vs H K→∃ v H',(∀ C,a_ P C lo o mode vs H=some (v,H'))∧K v H':=fun x _ hm h=>by
  unfold n8 at h;split at h
  ·split at h
   ·rename_i e aN hu;split at h
    ·rename_i z bp;simp only [bP] at h;split at h
     ·exact ⟨_,_,fun C=>by rw [hm C];simp only [eW,aN,hu,bp,sB],h⟩
     ·exact h.elim
    ·exact h
   ·rename_i ga;simp only [bP] at h;split at h
    ·refine ⟨_,H,fun C=>?_,h⟩;rw [hm C];simp only [eW]
     try (split
          ·rename_i e ad af;exact absurd af (ga e ad)
          ·rfl)
    ·exact h.elim
  ·simp only [bP] at h;split at h
   ·obtain ⟨r,H',ad,af⟩:=EB (P:=P) (lo:=lo) (t:=o.type) (x:=x) h;exact ⟨r,H',fun C=>by rw [hm C];exact ad,af⟩
   ·exact h.elim
  ·exact h
 unfold hn at h;cases aD:o.op <;> simp only [aD] at h <;> (try exact h)
 case move x=>exact i_ x (.inl aD) (fun C=>by simp [a_,aD]) h
 case assign x=>exact i_ x (.inr aD) (fun C=>by simp [a_,aD]) h
 case load t a =>
  split at h
  ·split at h
   ·rename_i Bx cg;simp only [bP] at h;split at h
    ·obtain ⟨r,H',ad,af⟩:=Ev (P:=P) (lo:=lo) cg h;exact ⟨r,H',fun C=>by simp only [a_,aD];exact ad,af⟩
    ·exact h.elim
   ·exact h
  ·split at h
   ·rename_i e hu;simp only [bP] at h;split at h
    ·obtain ⟨r,H',ad,af⟩:=Ez (P:=P) (lo:=lo) hu h;exact ⟨r,H',fun C=>by simp only [a_,aD];exact ad,af⟩
    ·exact h.elim
   ·exact h
  ·split at h
   ·rename_i Bx cg;simp only [bP] at h;split at h
    ·obtain ⟨r,ad,af⟩:=nM cg h;exact ⟨r,H,fun C=>by simp only [a_,aD,dT,ad,sB],af⟩
    ·exact h.elim
   ·exact h
  ·exact h
  ·rename_i hm pA yQ yR;split at h
   ·rename_i e hu;simp only [bP] at h;split at h
    ·obtain ⟨r,H',ad,af⟩:=EA (P:=P) (lo:=lo) (mode:=mode) (fun e=>hm e) (fun e=>pA e) (fun e=>yQ e) (fun e=>yR e) hu h;exact ⟨r,H',fun C=>by simp only [a_,aD];exact ad,af⟩
    ·exact h.elim
   ·exact h
 case store t a x =>
  split at h
  ·rename_i s ai;simp only [bP] at h;split at h
   ·obtain ⟨r,H',ad,af⟩:=Ey (P:=P) (lo:=lo) ai h;exact ⟨r,H',fun C=>by simp only [a_,aD];exact ad,af⟩
   ·exact h.elim
  ·rename_i m ai;simp only [bP] at h;split at h
   ·obtain ⟨r,H',ad,af⟩:=Ex (P:=P) (lo:=lo) (mode:=m+1) (by omega) ai h;exact ⟨r,H',fun C=>by simp only [a_,aD];exact ad,af⟩
   ·exact h.elim
  ·exact h
 case box e x =>
  split at h
  ·simp only [bP] at h;split at h
   ·obtain ⟨r,H',ad,af⟩:=Eu h;exact ⟨r,H',fun C=>by simp only [a_,aD];exact ad,af⟩
   ·exact h.elim
  ·rename_i hm;simp only [bP] at h;split at h
   ·obtain ⟨r,H',ad,af⟩:=Et (mode:=mode) (fun e=>hm e) h;exact ⟨r,H',fun C=>by simp only [a_,aD];exact ad,af⟩
   ·exact h.elim
 case alloc t =>
  split at h
  ·split at h
   ·rename_i z bp;exact ⟨_,_,fun C=>by simp only [a_,aD,k0,bp,sB],h⟩
   ·exact h
  ·rename_i hm;split at h
   ·rename_i e bp hu;split at h
    ·rename_i s ai;refine ⟨_,_,fun C=>?_,h⟩;simp only [a_,aD];unfold k0;split
     ·exact absurd rfl hm
     ·simp only [bp,hu,ai,sB]
    ·exact h
   ·exact h
 case makeSlice t a b =>
  split at h
  ·rename_i D2 e hu;split at h
   ·rename_i s z bytes ai bp ag;split at h
    ·rename_i ao;simp only [sM,ve,tR,uV] at ao;obtain ⟨⟨bc,bn⟩,bu⟩:=ao;simp only [bP] at h;split at h
     ·unfold As at h;split at h
      ·obtain ⟨d1,d2,d3,h⟩:=h;refine ⟨_,_,fun C=>?_,h⟩;simp only [a_,aD,j4];rw [if_pos ⟨d1,d2⟩];simp only [jo,hu,ai,bp,ag];rw [if_pos ⟨bc,bn,gj d3 bu⟩];rfl
      ·exact h.elim
     ·exact h.elim
    ·exact h
   ·exact h
  ·rename_i D2 m e hu;split at h
   ·rename_i s z bytes ai bp ag;split at h
    ·rename_i ao;simp only [sM,ve,tR,uV] at ao;obtain ⟨⟨bc,bn⟩,bu⟩:=ao;simp only [bP] at h;split at h
     ·unfold Ar at h;split at h
      ·obtain ⟨d1,d2,d3,h⟩:=h;refine ⟨_,_,fun C=>?_,h⟩;simp only [a_,aD,j4];rw [if_pos ⟨by omega,by omega⟩,if_pos ⟨d1,d2⟩];simp only [jo,hu,ai,bp,ag];rw [if_pos ⟨bc,bn,gj d3 bu⟩];rfl
      ·exact h.elim
     ·exact h.elim
    ·exact h
   ·exact h
  ·exact h
 case call c =>
  split at h
  ·rename_i b ag;split at h
   ·split at h
    ·rename_i ai;simp only [bP] at h;split at h
     ·unfold An at h;split at h
      ·exact ⟨_,_,fun C=>by simp only [a_,aD,ag,eA,hj,ai],h⟩
      ·exact ⟨_,_,fun C=>by simp only [a_,aD,ag,eA,hj,ai],h⟩
      ·exact h.elim
     ·exact h.elim
    ·split at h
     ·rename_i n e hu;simp only [bP] at h;split at h
      ·exact h.elim
      ·exact h.elim
      ·exact h.elim
      ·rename_i x cc cq DW;refine ⟨_,_,fun C=>?_,h⟩;simp only [a_,aD,ag,eA,hj,hu]
       try (cases x <;> first | rfl | exact absurd rfl (cc _ _ _) | exact absurd rfl (cq _ _ _ _ _) | exact absurd rfl (DW _))
      ·exact h.elim
     ·rename_i _ _ hu;simp only [bP] at h;split at h
      ·unfold Am at h;split at h
       ·obtain ⟨es,clock,ad,h⟩:=h;exact ⟨_,_,fun C=>by simp only [a_,aD,ag,eA,hj,hu,ad],h⟩
       ·exact h.elim
      ·exact h.elim
     ·exact h
   ·split at h
    ·rename_i x al;simp only [sC] at al;obtain ⟨t,ax,al⟩:=al;obtain ⟨ef,hm,hF⟩:=p1 al;simp only [bP] at h;split at h
     ·unfold Ao at h;split at h
      ·split at h
       ·rename_i bG;have bG:=uB bG;obtain ⟨ad,es,clock,af,r,aG,h⟩:=h;split at h
        ·exact ⟨_,_,fun C=>by simp only [a_,aD,ag,eA,hI,ax,sq,hm,hF _ ad,bG,if_true,af,aG],h⟩
        ·exact ⟨_,_,fun C=>by simp only [a_,aD,ag,eA,hI,ax,sq,hm,hF _ ad,bG,if_true,af,aG],h⟩
       ·exact h.elim
      ·exact h.elim
     ·exact h.elim
    ·exact h
   ·simp only [bP] at h;split at h
    ·obtain ⟨n,ad,af⟩:=zB _ _ h;exact ⟨_,_,fun C=>by simp only [a_,aD,ag,eA,nU,ad,sB],af⟩
    ·exact h.elim
   ·simp only [bP] at h;split at h
    ·obtain ⟨n,ad,af⟩:=zA _ _ h;exact ⟨_,_,fun C=>by simp only [a_,aD,ag,eA,nT,ad,sB],af⟩
    ·exact h.elim
   ·split at h
    ·rename_i t dt g_;split at h
     ·rename_i e np hu;split at h
      ·rename_i s z bytes ai bp yH;split at h
       ·rename_i ao;simp only [sM,ve,tR,uV] at ao;obtain ⟨⟨bc,bn⟩,bu⟩:=ao;obtain rfl:t=dt:=tw np;(have o':c.argTypes=#[t,t]:=by rw [←uR (xs:=c.argTypes),g_]);simp only [bP] at h;split at h
        ·obtain ⟨r,H',ad,af⟩:=Es hu ai bp yH bc bn bu h;exact ⟨r,H',fun C=>by simp only [a_,aD,ag,eA,o'];exact ad,af⟩
        ·exact h.elim
       ·rename_i ao hm;simp only [sM,ve,tR,uV] at ao;obtain ⟨⟨bc,bn⟩,bu⟩:=ao;obtain rfl:t=dt:=tw np;(have o':c.argTypes=#[t,t]:=by rw [←uR (xs:=c.argTypes),g_]);simp only [bP] at h;split at h
        ·obtain ⟨r,H',ad,af⟩:=Er (lo:=lo) hu ai bp yH bc bn bu h;refine ⟨r,H',fun C=>?_,af⟩;simp only [a_,aD,ag,o']
         first
         | exact ad
         | (split
            ·exact absurd rfl hm
            ·exact ad)
        ·exact h.elim
       ·exact h
      ·exact h
     ·exact h
    ·exact h
   ·exact h
  ·exact h.elim
  ·exact h
 case makeMap t r =>
  split at h
  ·rename_i _ _ hu;simp only [bP] at h;exact ⟨_,_,fun C=>by simp only [a_,aD,k3,hu],h⟩
  ·exact h
 case mapUpdate t m k v =>
  split at h
  ·rename_i x al;obtain ⟨ef,hm,hF⟩:=p1 al;simp only [bP] at h;split at h
   ·unfold Aq at h;split at h
    ·split at h
     ·rename_i bG;have bG:=uB bG;obtain ⟨ad,es,clock,af,r,aG,h⟩:=h;split at h
      ·exact ⟨_,_,fun C=>by simp only [a_,aD,je,hm,hF _ ad,bG,if_true,af,aG],h⟩
      ·exact ⟨_,_,fun C=>by simp only [a_,aD,je,hm,hF _ ad,bG,if_true,af,aG],h⟩
     ·exact h.elim
    ·exact h.elim
   ·exact h.elim
  ·exact h
 case lookup t m k ok =>
  split at h
  ·rename_i x al;obtain ⟨ef,hm,hF⟩:=p1 al;simp only [bP] at h;split at h
   ·unfold Ap at h;split at h
    ·obtain ⟨ad,es,clock,af,r,aG,h⟩:=h;split at h
     ·obtain ⟨e,he,h⟩:=h;cases ok
      ·exact ⟨_,_,fun C=>by simp only [a_,aD,im,hm,hF _ ad,af,aG,sq,he,sB];rfl,h⟩
      ·exact ⟨_,_,fun C=>by simp only [a_,aD,im,hm,hF _ ad,af,aG,sq,he,sB];rfl,h⟩
     ·obtain ⟨z,bp,h⟩:=h;cases ok
      ·exact ⟨_,_,fun C=>by simp only [a_,aD,im,hm,hF _ ad,af,aG,Option.bind_none,bp,sB];rfl,h⟩
      ·exact ⟨_,_,fun C=>by simp only [a_,aD,im,hm,hF _ ad,af,aG,Option.bind_none,bp,sB];rfl,h⟩
    ·exact h.elim
   ·exact h.elim
  ·exact h
 case range t m =>
  split at h
  ·rename_i _ _ hu;simp only [bP] at h;split at h
   ·unfold At at h;split at h
    ·obtain ⟨es,clock,ad,h⟩:=h;exact ⟨_,_,fun C=>by simp only [a_,aD,k4,hu,ad],h⟩
    ·exact h.elim
   ·exact h.elim
  ·exact h
 case entry m =>
  simp only [bP] at h;split at h
  ·unfold Ai at h;split at h
   ·obtain ⟨m,since,seen,clock,gm,es,e,ad,af,aG,a8,h⟩:=h;exact ⟨_,_,fun C=>by simp only [a_,aD,k2,ad,af,aG,a8,if_true],h⟩
   ·exact h.elim
  ·exact h.elim
 case pick c a b =>
  simp only [bP] at h;split at h
  ·rename_i c a b;refine pure (fun C=>by simp only [a_,aD]) (r:=match c with | true=>a | false=>b) (by cases c <;> simp [cA,aD,xm]) ?_;cases c <;> exact h
  ·exact h.elim
 case build t parts =>
  have aq:∀ C,a_ P C lo o mode vs H=(cA P o vs).map (·,H):=fun C=>by simp only [a_,aD]
  split at h
  ·rename_i z bH bp hu;split at h
   ·rename_i bl db CX;simp only [bP] at h;obtain ⟨da,aV,aX⟩:=kt h (zy CX);refine pure aq (r:=.agg da) ?_ aX;simp only [cA,aD,lz,bp,hu,db,fz,aV,sB]
   ·exact h
  ·rename_i z len e bp hu;split at h
   ·rename_i s ai;simp only [bP] at h;obtain ⟨da,aV,aX⟩:=kt (place:=fun i=>some (i*s,s)) (ix:=parts.toList.map (·.1)) h (by simp);refine pure aq (r:=.agg da) ?_ aX;simp only [cA,aD,lz,bp,hu,ai,fz,sq,aV,sB]
   ·exact h
  ·exact h
 case buildSlice t len parts =>
  split at h
  ·rename_i e hu;split at h
   ·rename_i s z ai bp;split at h
    ·rename_i ao;simp only [sM,ve,tR,uV] at ao;obtain ⟨⟨bc,bn⟩,bu⟩:=ao;simp only [bP] at h;obtain ⟨da,aV,aX⟩:=kt (place:=fun i=>some (i*s,s)) (ix:=parts.toList.map (·.1)) h (by simp);refine pure (fun C=>by simp only [a_,aD]) (r:=.ay da len (.uniq s)) ?_ aX;simp only [cA,aD,iG,hu,ai,bp,fz];rw [if_pos ⟨bn,bc,bu⟩,aV];rfl
    ·rename_i ao hm;simp only [sM,ve,tR,uV] at ao;obtain ⟨⟨bc,bn⟩,bu⟩:=ao;simp only [bP] at h;obtain ⟨da,aV,aX⟩:=kt (place:=fun i=>some (i*s,s)) (ix:=parts.toList.map (·.1)) h (by simp);refine ⟨_,_,fun C=>?_,aX⟩;have q:iG P t len (fz parts.toList vs)=some (da,s):=by
      simp only [iG,hu,ai,bp,fz];rw [if_pos ⟨bn,bc,bu⟩,aV];rfl
     simp only [a_,aD]
     first
     | (rw [q];rfl)
     | (split
        ·exact absurd rfl hm
        ·rw [q];rfl)
    ·exact h
   ·exact h
  ·exact h
 case nilCheck x =>
  simp only [bP] at h;split at h
  ·exact pure (fun C=>by simp only [a_,aD]) (by simp only [cA,aD,n0]) h
  ·exact pure (fun C=>by simp only [a_,aD]) (by simp only [cA,aD,n0]) h
  ·exact h.elim
 case binOp op t x y iA =>
  have aq:∀ C,a_ P C lo o mode vs H=(cA P o vs).map (·,H):=fun C=>by simp only [a_,aD]
  split at h
  ·rename_i aN hu;simp only [bP] at h;split at h
   ·split at h
    ·rename_i av;obtain ⟨v,ad,af⟩:=BF (P:=P) (t:=t) (E3 av) h;exact pure aq (by simp only [cA,aD,aN,gg,ad]) af
    ·exact h.elim
   ·exact h.elim
  ·rename_i aN hu;split at h
   ·simp only [bP] at h;split at h
    ·exact pure aq (by simp only [cA,aD,aN,gg,fp,hu]) h
    ·exact h.elim
   ·simp only [bP] at h;split at h
    ·exact pure aq (by simp only [cA,aD,aN,gg,fp,hu]) h
    ·exact h.elim
   ·exact h
  ·exact h
 case unOp op t x =>
  have aq:∀ C,a_ P C lo o mode vs H=(cA P o vs).map (·,H):=fun C=>by simp only [a_,aD]
  simp only [bP] at h;split at h
  ·split at h
   ·exact pure aq (by simp only [cA,aD,e4,km]) h
   ·exact h.elim
  ·split at h
   ·exact pure aq (by simp only [cA,aD,e4,km]) h
   ·exact h.elim
  ·exact h.elim
 case convert s d x =>
  have aq:∀ C,a_ P C lo o mode vs H=(cA P o vs).map (·,H):=fun C=>by simp only [a_,aD]
  split at h
  ·rename_i ad af;simp only [bP] at h;split at h
   ·exact pure aq (by simp only [cA,aD,e4,lA,ad,af]) h
   ·exact h.elim
  ·exact h
 case makeFunc fn first captured =>
  have aq:∀ C,a_ P C lo o mode vs H=(cA P o vs).map (·,H):=fun C=>by simp only [a_,aD]
  split at h
  ·simp only [bP] at h;split at h
   ·rename_i ad;exact pure aq (by simp only [cA,aD,mJ];rw [if_pos (tw ad)]) h
   ·exact h.elim
  ·exact h
 case slice t x l bK m =>
  have aq:∀ C,a_ P C lo o mode vs H=(cA P o vs).map (·,H):=fun C=>by simp only [a_,aD]
  split at h
  ·rename_i e hu;split at h
   ·rename_i s ai;simp only [bP] at h;split at h
    ·obtain ⟨r,ad,af⟩:=Ew hu ai h;exact pure aq (by simp only [cA,aD,ad]) af
    ·exact h.elim
   ·exact h
  ·exact h
 case fieldAddr t x f =>
  have aq:∀ C,a_ P C lo o mode vs H=(cA P o vs).map (·,H):=fun C=>by simp only [a_,aD]
  split at h
  ·rename_i bH hu;split at h
   ·rename_i s off aQ;simp only [sC,sr,Prod.mk.injEq] at aQ;obtain ⟨g,aO,aF,ai,rfl,rfl⟩:=aQ;simp only [bP] at h;split at h
    ·unfold Aj at h;split at h
     ·exact pure aq (by simp [cA,aD,e4,jy,hu,aO,ai]) h
     ·exact pure aq (by simp [cA,aD,e4,jy,hu,aO,ai]) h
     ·exact h.elim
    ·exact h.elim
   ·exact h
  ·exact h
 case field t x f =>
  have aq:∀ C,a_ P C lo o mode vs H=(cA P o vs).map (·,H):=fun C=>by simp only [a_,aD]
  split at h
  ·rename_i bH hu;split at h
   ·rename_i a off aQ;simp only [sC,sr,Prod.mk.injEq] at aQ;obtain ⟨g,aO,aM,cg,rfl,rfl⟩:=aQ;simp only [bP] at h;split at h
    ·obtain ⟨v,ad,af⟩:=Ee cg h;exact pure aq (by simp only [cA,aD,e4,m7,hu,aO,sq,ad,sB]) af
    ·exact h.elim
   ·exact h
  ·exact h
 case indexAddr t x i =>
  have aq:∀ C,a_ P C lo o mode vs H=(cA P o vs).map (·,H):=fun C=>by simp only [a_,aD]
  split at h
  ·rename_i e hu;split at h
   ·rename_i s ai;simp only [bP] at h;split at h
    ·unfold Ak at h;split at h
     ·split at h
      ·exact pure aq (by simp [cA,aD,gg,h1,hu,ai,gY,h.1]) h.2
      ·exact pure aq (by simp [cA,aD,gg,h1,hu,ai,gY,h.1]) h.2
      ·exact h.elim
     ·exact h.elim
    ·exact h.elim
   ·exact h
  ·rename_i len e hu;split at h
   ·rename_i s ai;simp only [bP] at h;split at h
    ·unfold Al at h;split at h
     ·split at h
      ·exact pure aq (by simp [cA,aD,gg,h1,hu,ai,gY,h.1]) h.2
      ·exact pure aq (by simp [cA,aD,gg,h1,hu,ai,gY,h.1]) h.2
      ·exact h.elim
     ·exact h.elim
    ·exact h.elim
   ·exact h
  ·exact h
 case extract x i =>
  have aq:∀ C,a_ P C lo o mode vs H=(cA P o vs).map (·,H):=fun C=>by simp only [a_,aD]
  simp only [bP] at h;split at h
  ·obtain ⟨v,ae,h⟩:=fk h;rw [kk] at h;exact pure aq (by simp only [cA,aD,e4,m6,ae,sB]) h
  ·exact h.elim
end
end Go.Proofs.YtfakoboiahbhaaaGreat.Ab


namespace Go.Proofs.YtfakoboiahbhaaaGreat.Ab
open Go
noncomputable section
def oz (P:Program) (mode lo:Nat) (b2:e') (args:List I) (H:List au) (v:I) (H':List au):Prop:=∃ C,dc P C∧eZ C lo mode b2 args H=some (v,H')
def lG:List I→List I→(List I→Prop)→Prop
 | [],l,K=>K l
 | h::t,l,K=>lG t l fun r=>K (h::r)
theorem lH:∀ (a b:List I) (K:List I→Prop),lG a b K=K (a++b)
 | [],b,K=>rfl
 | h::t,b,K=>by rw [lG,lH t b];rfl
def yn (v:I) (K:I→Prop):Prop:=match v with
 | .ay c n .full=>K (.ay c n .shared)
 | .agg cs=>K (.agg (cs.map I.g0))
 | .tuple cs=>K (.tuple (cs.map I.g0))
 | v=>K v
theorem BU (v:I) (K:I→Prop):yn v K=K v.cu:=by
 cases v with
 | ay c n k=>cases k <;> rfl
 | _=>rfl
def nd:List I→(List I→Prop)→Prop
 | [],K=>K []
 | h::t,K=>yn h fun aY=>nd t fun jk=>K (aY::jk)
theorem oP:∀ (l:List I) (K:List I→Prop),nd l K=K (l.map I.cu)
 | [],K=>rfl
 | h::t,K=>by rw [nd,BU,oP t];rfl
def m' (P:Program) (lo:Nat) (draw:Bool) (mode:Nat) (acc:dm) (vs:List I) (H:List au) (K:dm→I→List au→Prop):Prop:=match vs with
 | f::args=>match f with
   | .func k first cap=>lG args cap fun r=>lG first r fun as=>match mode with
     | 3=>as.all (ct 8)=true∧nd as fun gB=>∃ v,lv P k gB v∧(match draw with
       | true=>(∀ p∈acc,p.1=k→p.2.1=gB→p.2.2=v)∧K ((k,gB,v)::acc) v.cu H
       | false=>K acc v.cu H)
     | 6=>match draw with
       | true=>(as.map (iz H)).all (ct 8)=true∧∃ gB,(as.map (iz H)).map I.cu=gB∧∃ v,gl v=true∧lv P k gB v∧(∀ p∈acc,p.1=k→p.2.1=gB→p.2.2=v)∧K ((k,gB,v)::acc) v.cu H
       | false=>∃ v H',oz P 6 lo (.fn k) as H v H'∧K acc v H'
     | mode=>match draw with
       | true=>False
       | false=>∃ v H',oz P mode lo (.fn k) as H v H'∧K acc v H'
   | .yield l=>match draw with
     | true=>False
     | false=>∃ v H',oz P mode lo (.yield l) args H v H'∧K acc v H'
   | _=>False
 | []=>False
def k_ (P:Program) (lo:Nat) (draw:Bool) (k:h0) (acc:dm) (vs:List I) (H:List au) (K:dm→I→List au→Prop):Prop:=match k with
 | .call mode=>m' P lo draw mode acc vs H K
 | k=>bP P lo k vs H (K acc)
def nL (ip:Option Nat) (T:List I) (v:I) (K:List I→Prop):Prop:=match ip with
 | none=>K T
 | some t=>kj v fun v=>jh T t v K
def o2 (g:Option (Nat×Bool)) (T:List I) (skip run:Prop):Prop:=match g with
 | none=>run
 | some (t,want)=>hz T t fun v=>match v with
   | .bool b=>(match want with
     | true=>(match b with | true=>run | false=>skip)
     | false=>(match b with | true=>skip | false=>run))
   | .tuple []=>skip
   | _=>False
def hT (P:Program) (lo:Nat) (draw:Bool) (cS:cz) (acc:dm) (T:List I) (H:List au) (K:dm→List I→List au→Prop):Prop :=
 o2 cS.guard T (mN T cS.dst (.tuple []) fun a9=>K acc a9 H) (gk cS.FE T fun vs fo=>k_ P lo draw cS.k acc vs H fun dB v H'=>lZ v fun v=>nL cS.ip fo v fun dV=>mN dV cS.dst v fun dH=>K dB dH H')
def gO (P:Program) (lo:Nat) (draw:Bool):List cz→dm→List I→List au→(List I→List au→Prop)→Prop
 | [],_,T,H,K=>K T H
 | cS::r,acc,T,H,K=>hT P lo draw cS acc T H fun dB a9 H'=>match draw with
   | true=>gO P lo draw r dB a9 H' K
   | false=>gO P lo draw r [] a9 H' K
def xv (P:Program) (lo:Nat) (a b:cz) (post:List cz):List cz→dm→List I→List au→(List I→List au→Prop)→Prop
 | [],acc,T,H,K=>gO P lo true (a::b::post) acc T H K∧gO P lo true (b::a::post) acc T H K
 | cS::r,acc,T,H,K=>hT P lo true cS acc T H fun dB a9 H'=>xv P lo a b post r dB a9 H' K
def zK (it:Nat) (dst:Option Nat) (T:List I) (H:List au) (K:List I→List au→Prop):Prop:=hz T it fun v=>match v with
 | .ptr r 0=>∃ m since seen clock es,H[r]?=some (.iter m since seen clock)∧H[m]?=some (.map es clock)∧since≤clock∧(∀ e∈es,e.1<since) ∧
   ((∀ e∈es,e.1∈seen)→mN T dst (.tuple [.bool false]) fun a9=>K a9 H) ∧
   ∀ e∈es,e.1 ∉ seen→mN T dst (.tuple [.bool true,e.2.1,e.2.2]) fun a9=>K a9 (H.set r (.iter m since (seen++[e.1]) clock))
 | _=>False
inductive Bo (f:List I→List au→(cE→List I→List au→Prop)→Prop) (T:List I) (H:List au) (Q:cE→List I→List au→Prop):Prop where
 | intro (hY:Nat→List I→List au→Prop) (m:Nat) (aS:hY m T H) (step:∀ m T H,hY m T H→f T H fun e a9 H'=>match e with
   | .normal=>∃ hb,hb<m∧hY hb a9 H'
   | e=>Q e a9 H')
def p0 (k:Option (List Bool)) (T:List I) (K:List I→Prop):Prop:=match k with
 | some k=>kP k T K
 | none=>K T
theorem Dm (k:Option (List Bool)) (T:List I) (K:List I→Prop):p0 k T K=K (match k with | some k=>eX k T | none=>T):=by
 cases k with
 | none=>rfl
 | some k=>exact ze k T K
def nX:List I→(List I→Prop)→Prop
 | [],K=>K []
 | h::t,K=>nX t fun jk=>K (h::jk)
theorem zH:∀ (T:List I) (K:List I→Prop),nX T K=K T
 | [],K=>rfl
 | h::t,K=>by rw [nX,zH t]
def n' (P:Program) (A:c') (fn:FuncId) (lo:Nat) (rl:Option Nat) (f:I) (bl:List Nat) (as b0:Code) (T:List I) (H:List au) (Q:cE→List I→List au→Prop):Prop:=match f with
 | .func k first cap=>inLoop H rl=true∧∃ r H' st cI fn' a9 zU gB yc iJ,Sem P (.fn k) (first++[.yield H.length]++cap) (H++[.loop .ready none fn (T.map I.view) bl as b0 A]) lo r H' ∧
   H'[H.length]?=some (.loop st cI fn' a9 zU gB yc iJ)∧st≠.busy∧(match cI with
    | none=>Q .normal (T.map I.settle) (H'.set H.length .dead)
    | some .ret=>Q .ret (T.map I.settle) (H'.set H.length .dead)
    | some (.exit id)=>Q (.exit id) (T.map I.settle) (H'.set H.length .dead)
    | _=>False)
 | _=>False
def dG (P:Program) (A:c') (fn:FuncId) (lo:Nat) (rl:Option Nat):eE→List I→List au→(cE→List I→List au→Prop)→Prop
 | .skip,T,H,Q=>Q .normal T H
 | .j_ draw l,T,H,Q=>gO P lo draw l [] T H (Q .normal)
 | .seq a b,T,H,Q=>dG P A fn lo rl a T H fun e a9 H'=>match e with
   | .normal=>dG P A fn lo rl b a9 H' Q
   | e=>Q e a9 H'
 | .cond c a b,T,H,Q=>match c with
   | .sl t=>hz T t fun v=>(match v with
     | .bool x=>(match x with | true=>dG P A fn lo rl a T H Q | false=>dG P A fn lo rl b T H Q)
     | .du=>dG P A fn lo rl a T H Q∧dG P A fn lo rl b T H Q
     | _=>False)
   | .iK v=>(match v with
     | .bool x=>(match x with | true=>dG P A fn lo rl a T H Q | false=>dG P A fn lo rl b T H Q)
     | .du=>dG P A fn lo rl a T H Q∧dG P A fn lo rl b T H Q
     | _=>False)
   | _=>False
 | .block id c,T,H,Q=>dG P A fn lo rl c T H fun e a9 H'=>match e with
   | .exit bB=>(match Nat.beq bB id with | true=>Q .normal a9 H' | false=>Q (.exit bB) a9 H')
   | e=>Q e a9 H'
 | .loop cG c,T,H,Q=>p0 cG T fun T=>Bo (fun T H Q=>nX T fun T=>dG P A fn lo rl c T H fun e a9 H'=>match e with
   | .normal=>p0 cG a9 fun a9=>Q .normal a9 H'
   | e=>Q e a9 H') T H Q
 | .exit id,T,H,Q=>Q (.exit id) T H
 | .ret,T,H,Q=>Q .ret T H
 | .Au f bl as b0,T,H,Q=>match f with
   | .sl t=>hz T t fun v=>n' P A fn lo rl v bl as b0 T H Q
   | .iK v=>n' P A fn lo rl v bl as b0 T H Q
   | _=>False
 | .zJ it dst l,T,H,Q=>zK it dst T H fun a9 H'=>gO P lo false l [] a9 H' (Q .normal)
 | .two pre a b post,T,H,Q=>xv P lo a b post pre [] T H (Q .normal)
def mq (o:Oper) (mode:Nat):Option Nat:=match mode with
 | 0=>none
 | 4=>none
 | _=>match o.op with
   | .move (.tmp t) | .assign (.tmp t)=>some t
   | _=>none
def k9 (P:Program) (ops:Array Oper) (o:Oper) (an:b7):Option cz:=match o.guard with
 | none=>some ⟨o.dst,hL (dS o) an.cC (opsOf o),none,mq o an.mode,hn P o an.mode⟩
 | some (j,want)=>match (ops[j]?).bind (·.dst) with
   | some d=>some ⟨o.dst,hL (dS o) an.cC (opsOf o),some (d,want),mq o an.mode,hn P o an.mode⟩
   | none=>none
def ha (P:Program) (ops:Array Oper):List Oper→List b7→Option (List cz)
 | [],_=>some []
 | o::r,as=>match k9 P ops o (as.headD {}),ha P ops r as.tail with
   | some cS,some l=>some (cS::l)
   | _,_=>none
def xf (P:Program) (ops:Array Oper) (draw:Bool) (as:List b7):Option eE:=match draw,ops.toList with
 | false,o::rest=>(match o.op,o.guard with
   | .next (.tmp it) false,none=>(ha P ops rest as.tail).map (.zJ it o.dst)
   | _,_=>(ha P ops (o::rest) as).map (.j_ false))
 | d,l=>(ha P ops l as).map (.j_ d)
def fj (P:Program) (ops:Array Oper) (an:List b7):List Nat→Option (List cz)
 | []=>some []
 | i::r=>match ops[i]? with
   | some o=>match k9 P ops o (an.getD i {}),fj P ops an r with
     | some cS,some l=>some (cS::l)
     | _,_=>none
   | none=>none
def nY (cS:cz):Bool:=match cS.k with | .call _=>false | _=>true
def nP (P:Program) (ops:Array Oper) (an:List b7) (p:Nat):Option eE :=
 match fj P ops an (List.range p),fj P ops an [p],fj P ops an [p+1],fj P ops an (List.range' (p+2) (ops.size-(p+2))) with
 | some pre,some [a],some [b],some post=>match (a::b::post).all nY with
   | true=>some (.two pre a b post)
   | false=>none
 | _,_,_,_=>none
def n7 (x:Operand):iE:=match x with
 | .tmp t=>.sl t
 | x=>.iK (aA [] x)
def dX (P:Program) (A:c'):Code→Nat→Option eE
 | .skip,_=>some .skip
 | .region id ops draw,_=>match A.ih with
   | []=>match kh A id draw with
     | some p=>nP P ops (A.ops.getD id []) p
     | none=>xf P ops draw (A.ops.getD id [])
   | _=>none
 | .seq a b,a0=>match dX P A a a0,dX P A b a0 with
   | some x,some y=>some (.seq x y)
   | _,_=>none
 | .cond c a b,a0=>match dX P A a a0,dX P A b a0 with
   | some x,some y=>some (.cond (n7 c) x y)
   | _,_=>none
 | .block id c,_=>(dX P A c id).map (.block id)
 | .loop c,a0=>(dX P A c a0).map (.loop (lP a0 A.ig))
 | .exit id,_=>some (.exit id)
 | .ret,_=>some .ret
 | .scope c,a0=>dX P A c a0
 | .label _,_=>some .skip
 | .rangeFunc f bl as b0,_=>some (.Au (n7 f) bl.toList as b0)
 | _,_=>none
end
section
variable {P:Program}
theorem za (o:Oper) (mode:Nat) (T:List I) (v:I) (K:List I→Prop):nL (mq o mode) T v K=K (inPlace o mode T v):=by
 by_cases aS:mode=0
 ·subst aS;rfl
 by_cases a8:mode=4
 ·subst a8;rfl
 have e1:mq o mode=(match o.op with | .move (.tmp t) | .assign (.tmp t)=>some t | _=>none):=by
  unfold mq;split
  ·exact absurd rfl aS
  ·exact absurd rfl a8
  ·rfl
 have cm:inPlace o mode T v=(match o.op with | .move (.tmp t) | .assign (.tmp t)=>gR T t v.view | _=>T):=by
  unfold inPlace;split
  ·exact absurd rfl aS
  ·exact absurd rfl a8
  ·rfl
 rw [e1,cm];cases o.op <;> try rfl
 case move x=>cases x <;> first | rfl | (simp only [nL,kk,kc])
 case assign x=>cases x <;> first | rfl | (simp only [nL,kk,kc])
theorem Bg {lo:Nat} {draw:Bool} {ops:Array Oper} {o:Oper} {an:b7} {cS:cz} (aj:k9 P ops o an=some cS) {acc:dm} {T:List I} {H:List au} {K:dm→List I→List au→Prop}
  (h:hT P lo draw cS acc T H K) :
  (eB ops o T=some false∧K acc (put T o.dst (.tuple [])) H) ∨
  (eB ops o T=some true∧k_ P lo draw (hn P o an.mode) acc (fw (dS o) (rd T an.cC (opsOf o)).1) H fun dB v H'=>K dB (put (inPlace o an.mode (rd T an.cC (opsOf o)).2 v) o.dst v) H'):=by
 unfold k9 at aj;split at aj
 ·rename_i aO;cases aj;simp only [hT,o2,jf,ns,za,xp] at h;exact .inr ⟨by simp [eB,aO],h⟩
 ·rename_i j want aO;split at aj
  ·rename_i d a1;cases aj;simp only [hT,o2,jf,ns,za,xp,iM] at h;(have hw:∀ b,c8 T d=.bool b→eB ops o T=some (b == want):=fun b ag=>by simp [eB,aO,a1,ag]);split at h
   ·rename_i b ag;have hw:=hw b ag;cases want <;> cases b <;> simp only at h
    ·exact .inr ⟨hw,h⟩
    ·exact .inl ⟨hw,h⟩
    ·exact .inl ⟨hw,h⟩
    ·exact .inr ⟨hw,h⟩
   ·rename_i ag;exact .inl ⟨by simp [eB,aO,a1,ag],h⟩
   ·exact h.elim
  ·cases aj
theorem jj {C:b8} {lo:Nat} {ops:Array Oper} {o:Oper} {an:b7} {T:List I} {H:List au} {v:I} {H':List au} (hw:eB ops o T=some true)
  (h:a_ P C lo o an.mode (fw (dS o) (rd T an.cC (opsOf o)).1) H=some (v,H')):dy P C lo ops o an ⟨T,H⟩=some ⟨put (inPlace o an.mode (rd T an.cC (opsOf o)).2 v) o.dst v,H'⟩:=by
 simp only [dy,hw,Ab.execOp];unfold fw at h;cases ak:dS o <;> rw [ak] at h <;> simp only at h ⊢ <;> rw [h] <;> rfl
theorem A6 {C:b8} {lo:Nat} {ops:Array Oper} {o:Oper} {an:b7} {T:List I} {H:List au} (hw:eB ops o T=some false):dy P C lo ops o an ⟨T,H⟩=some ⟨put T o.dst (.tuple []),H⟩:=by
 simp only [dy,hw]
theorem Ae {o:Oper} {mode zG:Nat} (h:hn P o mode=.call zG):zG=mode∧∃ c f,o.op=.call c∧c.callee=.value f:=by
 cases aD:o.op
 case call c =>
  simp only [hn,aD] at h;cases ao:c.callee with
  | value f=>simp only [ao] at h;cases h;exact ⟨rfl,c,f,rfl,ao⟩
  | invoke x n=>simp only [ao] at h;cases h
  | builtin b =>
    simp only [ao] at h;repeat' (first | contradiction | split at h)
 all_goals simp only [hn,aD] at h
 all_goals (try unfold n8 at h)
 all_goals (repeat' (first | contradiction | split at h))
theorem Ag {lo:Nat} {draw:Bool} {k:h0} {acc:dm} {vs:List I} {H:List au} {K:dm→I→List au→Prop} (h:k_ P lo draw k acc vs H K) :
  (∃ mode,k=.call mode∧m' P lo draw mode acc vs H K)∨bP P lo k vs H (K acc):=by
 unfold k_ at h;split at h
 ·exact .inl ⟨_,rfl,h⟩
 ·exact .inr h
theorem mI {C:b8} {lo mode:Nat} {k:FuncId} {first cap args:List I} {H:List au}:hH C lo mode H (.func k first cap::args)=eZ C lo mode (.fn k) (first++args++cap) H:=rfl
theorem zW {C:b8} {acc:dm} (ck:hV C acc) {lo:Nat} {k:FuncId} {as:List I} {v:I} (aC:as.all (ct 8)=true) (hm:(k,as.map I.cu,v)∈acc) (H:List au) :
  eZ C lo 3 (.fn k) as H=some (v.cu,H):=by
 obtain ⟨r,a4,ad,af⟩:=ck _ hm;simp only [eZ,aC,ad,sq,af,sB]
theorem Ef {C:b8} {acc:dm} (ck:hV C acc) {lo:Nat} {k:FuncId} {as:List I} {v:I} (H:List au) (aC:(as.map (iz H)).all (ct 8)=true) (ai:gl v=true) (hm:(k,(as.map (iz H)).map I.cu,v)∈acc) :
  eZ C lo 6 (.fn k) as H=some (v.cu,H):=by
 obtain ⟨r,a4,ad,af⟩:=ck _ hm;simp only [eZ,aC,ad,sq,af,ai]
theorem x3 {lo:Nat} {ops:Array Oper} {o:Oper} {an:b7} {cS:cz} (aj:k9 P ops o an=some cS) {acc:dm} (hB:ht P acc) {T:List I} {H:List au} {K:dm→List I→List au→Prop}
  (h:hT P lo true cS acc T H K):∃ dB a9 H',ht P dB∧(∀ p∈acc,p∈dB)∧(∀ C,hV C dB→dy P C lo ops o an ⟨T,H⟩=some ⟨a9,H'⟩)∧K dB a9 H':=by
 rcases Bg aj h with ⟨hw,av⟩ | ⟨hw,av⟩
 ·exact ⟨acc,_,_,hB,fun _ h=>h,fun C _=>A6 hw,av⟩
 ·rcases Ag av with ⟨mode,hm,av⟩ | av
  ·obtain ⟨rfl,c,f,aD,ao⟩:=Ae hm;generalize ie:fw (dS o) (rd T an.cC (opsOf o)).1=vs at av;(have aq:∀ C,a_ P C lo o an.mode vs H=hH C lo an.mode H vs:=fun C=>by simp only [a_,aD,ao]);unfold m' at av;split at av
   ·split at av
    ·(rename_i args _ k first cap);rw [lH,lH] at av;split at av
     ·rename_i jP;obtain ⟨aC,av⟩:=av;rw [oP] at av;obtain ⟨v,mc,lY,av⟩:=av;refine ⟨_,_,_,⟨fun p aC=>?_,fun p aC q a5 ad af=>?_⟩,fun p aC=>uw _ aC,fun C ck=>jj hw ?_,av⟩
      ·rcases sH.1 aC with rfl | aC
       ·exact mc
       ·exact hB.1 p aC
      ·rcases sH.1 aC with rfl | aC <;> rcases sH.1 a5 with rfl | a5
       ·rfl
       ·exact (lY q a5 ad.symm af.symm).symm
       ·exact lY p aC ad af
       ·exact hB.2 p aC q a5 ad af
      ·rw [ie,aq C,jP,mI,sD];exact zW ck aC (uK) H
     ·rename_i jP;obtain ⟨aC,gB,rfl,v,ai,mc,lY,av⟩:=av;refine ⟨_,_,_,⟨fun p aC=>?_,fun p aC q a5 ad af=>?_⟩,fun p aC=>uw _ aC,fun C ck=>jj hw ?_,av⟩
      ·rcases sH.1 aC with rfl | aC
       ·exact mc
       ·exact hB.1 p aC
      ·rcases sH.1 aC with rfl | aC <;> rcases sH.1 a5 with rfl | a5
       ·rfl
       ·exact (lY q a5 ad.symm af.symm).symm
       ·exact lY p aC ad af
       ·exact hB.2 p aC q a5 ad af
      ·rw [ie,aq C,jP,mI,sD];exact Ef ck H aC ai (uK)
     ·exact av.elim
    ·exact av.elim
    ·exact av.elim
   ·exact av.elim
  ·obtain ⟨v,H',ad,af⟩:=Af av;exact ⟨acc,_,_,hB,fun _ h=>h,fun C _=>jj hw (ad C),af⟩
theorem FV {lo:Nat} {ops:Array Oper} {o:Oper} {an:b7} {cS:cz} (aj:k9 P ops o an=some cS) {acc:dm} {T:List I} {H:List au} {K:dm→List I→List au→Prop}
  (h:hT P lo false cS acc T H K):iF P lo ops o an ⟨T,H⟩ fun aF=>K acc aF.T aF.H:=by
 rcases Bg aj h with ⟨hw,av⟩ | ⟨hw,av⟩
 ·exact .inl ⟨_,_,yl,A6 hw,av⟩
 ·rcases Ag av with ⟨mode,hm,av⟩ | av
  ·obtain ⟨rfl,c,f,aD,ao⟩:=Ae hm;generalize ie:fw (dS o) (rd T an.cC (opsOf o)).1=vs at av;(have aq:∀ C,a_ P C lo o an.mode vs H=hH C lo an.mode H vs:=fun C=>by simp only [a_,aD,ao]);unfold m' at av;split at av
   ·split at av
    ·(rename_i args _ k first cap);rw [lH,lH] at av;split at av
     ·rename_i jP;obtain ⟨aC,av⟩:=av;rw [oP] at av;obtain ⟨v,mc,av⟩:=av
      obtain ⟨C,bx,ck⟩:=oG (acc:=[(k,(first++(args++cap)).map I.cu,v)]) (P:=P) ⟨fun p aC=>by simp only [sQ] at aC;subst aC;exact mc,fun p aC q a5 _ _=>by
       simp only [sQ] at aC a5;subst aC;subst a5;rfl⟩
      refine .inl ⟨C,_,bx,jj hw (v:=v.cu) (H':=H) ?_,av⟩;rw [ie,aq C,jP,mI,sD];exact zW ck aC (uK) H
     ·rename_i jP;obtain ⟨v,H',⟨C,bx,fc⟩,av⟩:=av;refine .inl ⟨C,_,bx,jj hw (v:=v) (H':=H') ?_,av⟩;rw [ie,aq C,jP,mI,sD];exact fc
     ·obtain ⟨v,H',⟨C,bx,fc⟩,av⟩:=av;refine .inl ⟨C,_,bx,jj hw (v:=v) (H':=H') ?_,av⟩;rw [ie,aq C,mI,sD];exact fc
    ·obtain ⟨v,H',⟨C,bx,fc⟩,av⟩:=av;refine .inl ⟨C,_,bx,jj hw (v:=v) (H':=H') ?_,av⟩;rw [ie,aq C];exact fc
    ·exact av.elim
   ·exact av.elim
  ·obtain ⟨v,H',ad,af⟩:=Af av;exact .inl ⟨_,_,yl,jj hw (ad _),af⟩
end
end Go.Proofs.YtfakoboiahbhaaaGreat.Ab


namespace Go.Proofs.YtfakoboiahbhaaaGreat.Ab
open Go
section
variable {P:Program}
theorem iF.mono {lo:Nat} {ops:Array Oper} {o:Oper} {an:b7} {s:a7} {K K':a7→Prop} (h:iF P lo ops o an s K) (av:∀ s,K s→K' s):iF P lo ops o an s K':=by
 rcases h with ⟨C,aF,ad,af,aG⟩ | ⟨it,r,m,since,seen,es,clock,aB,aH,aR,bm,bf,bj,c4,dd,dI⟩
 ·exact .inl ⟨C,aF,ad,af,av _ aG⟩
 ·exact .inr ⟨it,r,m,since,seen,es,clock,aB,aH,aR,bm,bf,bj,c4,fun h=>av _ (dd h),fun e ad af=>av _ (dI e ad af)⟩
theorem Az {lo:Nat} {ops:Array Oper} {K K':a7→Prop} (av:∀ s,K s→K' s):∀ {l:List Oper} {as:List b7} {s:a7},runN P lo ops l as s K→runN P lo ops l as s K'
 | [],_,s,h=>av s h
 | _::_,_,_,h=>iF.mono h fun _ aY=>Az av aY
theorem zo {f g:a7→(cE→a7→Prop)→Prop} (kB:∀ s Q cJ,(∀ e s,Q e s→cJ e s)→f s Q→g s cJ) {Q cJ:cE→a7→Prop} (a5:∀ e s,Q e s→cJ e s):∀ {n:Nat} {s:a7},fB f n s Q→fB g n s cJ
 | 0,s,h=>h
 | n+1,s,h=>kB s _ _ (fun e aF aY=>by
   cases e with
   | normal=>exact zo kB a5 aY
   | ret=>exact a5 _ _ aY
   | exit id=>exact a5 _ _ aY) h
theorem lk {A:c'} {fn:FuncId} {lo:Nat} {rl:Option Nat}:∀ {c:Code} {a0:Nat} {s:a7} {Q cJ:cE→a7→Prop},(∀ e s,Q e s→cJ e s)→c6 P A fn lo rl c a0 s Q→c6 P A fn lo rl c a0 s cJ:=by
 intro c
 induction c with
 | skip=>intro a0 s Q cJ a5 h;exact a5 _ _ h
 | label l=>intro a0 s Q cJ a5 h;exact a5 _ _ h
 | ret=>intro a0 s Q cJ a5 h;exact a5 _ _ h
 | exit id=>intro a0 s Q cJ a5 h;exact a5 _ _ h
 | goto l=>intro a0 s Q cJ a5 h;exact h
 | refuse y=>intro a0 s Q cJ a5 h;exact h
 | region id ops draw =>
   intro a0 s Q cJ a5 h;simp only [c6] at h ⊢;split at h
   ·obtain ⟨acc,s1,s2,ad,af,aG,a8⟩:=h;exact ⟨acc,s1,s2,ad,af,a5 _ _ aG,a5 _ _ a8⟩
   cases draw with
   | true=>obtain ⟨acc,aF,ad,af,aG⟩:=h;exact ⟨acc,aF,ad,af,a5 _ _ aG⟩
   | false=>exact Az (fun s h=>a5 _ _ h) h
 | seq a b fh fv =>
   intro a0 s Q cJ a5 h;refine fh (fun e aF aY=>?_) h;cases e with
   | normal=>exact fv a5 aY
   | ret=>exact a5 _ _ aY
   | exit id=>exact a5 _ _ aY
 | cond c a b fh fv =>
   intro a0 s Q cJ a5 h;rcases h with ⟨t,ax,h⟩ | ⟨ax,ad,af⟩
   ·refine .inl ⟨t,ax,?_⟩;cases t with
    | true=>exact fh a5 h
    | false=>exact fv a5 h
   ·exact .inr ⟨ax,fh a5 ad,fv a5 af⟩
 | block id c bb =>
   intro a0 s Q cJ a5 h;refine bb (fun e aF aY=>?_) h;cases e with
   | normal=>exact a5 _ _ aY
   | ret=>exact a5 _ _ aY
   | exit bB =>
     simp only at aY ⊢;by_cases aE:bB=id
     ·simp only [aE,if_true] at aY ⊢;exact a5 _ _ aY
     ·simp only [aE,if_false] at aY ⊢;exact a5 _ _ aY
 | loop c bb =>
   intro a0 s Q cJ a5 h;obtain ⟨n,h⟩:=h;refine ⟨n,?_⟩;refine zo ?_ a5 h;intro s Q cJ a5 h;exact bb a5 h
 | scope c bb=>intro a0 s Q cJ a5 h;exact bb a5 h
 | rangeFunc f bl as b0 _ _ =>
   intro a0 s Q cJ a5 h;obtain ⟨C,e,aF,ad,af,aG⟩:=h;exact ⟨C,e,aF,ad,af,a5 _ _ aG⟩
theorem n6 {lo:Nat} {ops:Array Oper}:∀ {l:List Oper} {as:List b7} {rl:List cz} {acc:dm} {T:List I} {H:List au} {K:List I→List au→Prop},ha P ops l as=some rl→gO P lo false rl acc T H K →
  runN P lo ops l as ⟨T,H⟩ fun aF=>K aF.T aF.H
 | [],as,rl,acc,T,H,K,ak,h=>by simp only [ha,Option.some.injEq] at ak;subst ak;exact h
 | o::r,as,rl,acc,T,H,K,ak,h=>by
   simp only [ha] at ak;split at ak
   ·rename_i cS l' ad af;simp only [Option.some.injEq] at ak;subst ak;exact iF.mono (FV ad h) fun aF aY=>n6 af aY
   ·cases ak
theorem BZ {C:b8} {lo:Nat} {ops:Array Oper} {o:Oper} {r:List Oper} {as:List b7} {s:a7}:eN P C lo ops (o::r) as s=(dy P C lo ops o (as.headD {}) s).bind (eN P C lo ops r as.tail):=by
 rw [eN];unfold dy;cases hw:eB ops o s.T with
 | none=>rfl
 | some b=>cases b <;> rfl
theorem z6 {lo:Nat} {ops:Array Oper}:∀ {l:List Oper} {as:List b7} {rl:List cz} {acc:dm} {T:List I} {H:List au} {K:List I→List au→Prop},ha P ops l as=some rl→ht P acc→gO P lo true rl acc T H K →
  ∃ dB a9 H',ht P dB∧(∀ p∈acc,p∈dB)∧(∀ C,hV C dB→eN P C lo ops l as ⟨T,H⟩=some ⟨a9,H'⟩)∧K a9 H'
 | [],as,rl,acc,T,H,K,ak,cg,h=>by simp only [ha,Option.some.injEq] at ak;subst ak;exact ⟨acc,T,H,cg,fun _ h=>h,fun _ _=>rfl,h⟩
 | o::r,as,rl,acc,T,H,K,ak,cg,h=>by
   simp only [ha] at ak;split at ak
   ·rename_i cS l' ad af;simp only [Option.some.injEq] at ak;subst ak;obtain ⟨x9,fo,H1,aB,aH,aR,bm⟩:=x3 ad cg h;obtain ⟨oF,dV,a4,br,cL,eF,jA⟩:=z6 af aB bm;refine ⟨oF,dV,a4,br,fun p aC=>cL p (aH p aC),fun C ck=>?_,jA⟩;rw [BZ,aR C (fun p aC=>ck p (cL p aC)),sq];exact eF C ck
   ·cases ak
theorem oa {C:b8} {lo:Nat} {ops:Array Oper} {an:List b7}:∀ (a b:List Nat) (s:a7),cy P C lo ops an (a++b) s=(cy P C lo ops an a s).bind (cy P C lo ops an b)
 | [],b,s=>rfl
 | i::a,b,s=>by
   rw [List.cons_append];simp only [cy];cases ops[i]? with
   | none=>exact oa a b s
   | some o =>
     dsimp only;cases dy P C lo ops o (an.getD i {}) s with
     | none=>rfl
     | some s1=>exact oa a b s1
theorem FW {lo:Nat} {cS:cz} (aN:nY cS=true) {acc:dm} {T:List I} {H:List au} {K K':dm→List I→List au→Prop} (fJ:K acc=K' acc) (h:hT P lo true cS acc T H K):hT P lo true cS acc T H K':=by
 have e:∀ (vs:List I) (H:List au) (F:dm→I→List au→Prop),k_ P lo true cS.k acc vs H F=bP P lo cS.k vs H (F acc):=fun vs H F=>by
  unfold nY at aN;unfold k_;split
  ·rename_i m av;rw [av] at aN;cases aN
  ·rfl
 unfold hT at h ⊢;simp only [e,fJ] at h ⊢;exact h
theorem xt {lo:Nat} {ops:Array Oper} {an:List b7}:∀ {O:List Nat} {rl:List cz} {acc:dm} {T:List I} {H:List au} {K:List I→List au→Prop},fj P ops an O=some rl→rl.all nY=true→ht P acc→gO P lo true rl acc T H K →
  ∃ a9 H',(∀ C,hV C acc→cy P C lo ops an O ⟨T,H⟩=some ⟨a9,H'⟩)∧K a9 H'
 | [],rl,acc,T,H,K,ak,_,cg,h=>by simp only [fj,Option.some.injEq] at ak;subst ak;exact ⟨T,H,fun _ _=>rfl,h⟩
 | i::r,rl,acc,T,H,K,ak,aN,cg,h=>by
   simp only [fj] at ak;split at ak
   ·rename_i o hi;split at ak
    ·rename_i cS l' ad af;simp only [Option.some.injEq] at ak;subst ak;simp only [tL,sM] at aN;have aY:=FW aN.1 (K':=fun dB a9 H'=>dB=acc∧gO P lo true l' acc a9 H' K) (by funext a9 H';simp) h;obtain ⟨x9,fo,H1,_,_,aR,rfl,bm⟩:=x3 ad cg aY;obtain ⟨dV,a4,eF,jA⟩:=xt af aN.2 cg bm;refine ⟨dV,a4,fun C ck=>?_,jA⟩;simp only [cy,hi];rw [aR C ck,sq];exact eF C ck
    ·cases ak
   ·cases ak
theorem z7 {lo:Nat} {ops:Array Oper} {an:List b7} {a b:cz} {post:List cz}:∀ {O:List Nat} {rl:List cz} {acc:dm} {T:List I} {H:List au} {K:List I→List au→Prop},fj P ops an O=some rl→ht P acc→xv P lo a b post rl acc T H K →
  ∃ dB a9 H',ht P dB∧(∀ p∈acc,p∈dB)∧(∀ C,hV C dB→cy P C lo ops an O ⟨T,H⟩=some ⟨a9,H'⟩)∧gO P lo true (a::b::post) dB a9 H' K∧gO P lo true (b::a::post) dB a9 H' K
 | [],rl,acc,T,H,K,ak,cg,h=>by simp only [fj,Option.some.injEq] at ak;subst ak;exact ⟨acc,T,H,cg,fun _ h=>h,fun _ _=>rfl,h.1,h.2⟩
 | i::r,rl,acc,T,H,K,ak,cg,h=>by
   simp only [fj] at ak;split at ak
   ·rename_i o hi;split at ak
    ·rename_i cS l' ad af;simp only [Option.some.injEq] at ak;subst ak;obtain ⟨x9,fo,H1,aB,aH,aR,bm⟩:=x3 ad cg h;obtain ⟨oF,dV,a4,br,cL,eF,jA⟩:=z7 af aB bm;refine ⟨oF,dV,a4,br,fun p aC=>cL p (aH p aC),fun C ck=>?_,jA⟩;simp only [cy,hi];rw [aR C (fun p aC=>ck p (cL p aC)),sq];exact eF C ck
    ·cases ak
   ·cases ak
theorem nO {ops:Array Oper} {an:List b7} {i:Nat} {r:List Nat} {a:cz} {l:List cz} (ad:fj P ops an [i]=some [a]) (af:fj P ops an r=some l):fj P ops an (i::r)=some (a::l):=by
 simp only [fj] at ad ⊢;split at ad
 ·rename_i o aq;split at ad
  ·rename_i cS l' aG a8;simp only [Option.some.injEq,List.cons.injEq] at ad a8;obtain ⟨rfl,rfl⟩:=ad;simp only [aG,af]
  ·cases ad
 ·cases ad
theorem z1 {n p:Nat} (a5:p+1<n):List.range n=List.range p++(p::(p+1)::List.range' (p+2) (n-(p+2))):=by
 apply List.ext_getElem?;intro i;rw [List.getElem?_append];simp only [List.length_range];by_cases h:i<p
 ·rw [if_pos h,vu h,vu (by omega)]
 ·rw [if_neg h];obtain ⟨k,rfl⟩:∃ k,i=p+k:=⟨i-p,by omega⟩;rw [show p+k-p=k by omega]
  match k with
  | 0=>rw [vu (by omega)];rfl
  | 1=>rw [vu (by omega)];rfl
  | k+2 =>
    simp only [List.getElem?_cons_succ];by_cases af:p+(k+2)<n
    ·rw [vu af,List.getElem?_range' (by omega)];congr 1;omega
    ·rw [tQ (by simp;omega),tQ (by simp;omega)]
theorem FH {n p:Nat} (a5:p+1<n):fm n p (p+1)=List.range p++((p+1)::p::List.range' (p+2) (n-(p+2))):=by
 unfold fm;rw [z1 a5,List.map_append];congr 1
 ·conv=>rhs;rw [←vv (List.range p)]
  refine tY fun i hi=>?_;have:=sX.1 hi;rw [if_neg (by omega),if_neg (by omega)];rfl
 ·rw [sy,sy,if_pos rfl,if_neg (by omega),if_pos rfl];congr 2;conv=>rhs;rw [←vv (List.range' _ _)]
  refine tY fun i hi=>?_;have:=List.mem_range'_1.1 hi;rw [if_neg (by omega),if_neg (by omega)];rfl
theorem Ds {A:c'} {fn:FuncId} {lo:Nat} {rl:Option Nat} {id:Nat} {ops:Array Oper} {draw:Bool} {a0 p:Nat} {rc:eE} (aK:A.ih=[]) (ax:kh A id draw=some p) (a5:p+1<ops.size) (ak:nP P ops (A.ops.getD id []) p=some rc)
  {T:List I} {H:List au} {Q:cE→List I→List au→Prop} (h:dG P A fn lo rl rc T H Q):c6 P A fn lo rl (.region id ops draw) a0 ⟨T,H⟩ fun e s=>Q e s.T s.H:=by
 have av:e3 A.ih id ⟨T,H⟩=⟨T,H⟩:=by rw [aK];rfl
 unfold nP at ak;split at ak
 ·rename_i pre a b post ad af aG a8;split at ak
  ·rename_i aN;simp only [Option.some.injEq] at ak;subst ak;obtain ⟨acc,fo,H1,aB,_,aR,bm,bf⟩:=z7 ad ⟨fun p aC=>by simp at aC,fun p aC=>by simp at aC⟩ h;simp only [tL,sM] at aN;obtain ⟨dV,a4,br,cL⟩:=xt (nO af (nO aG a8)) (by simp only [tL,sM];exact aN) aB bm;obtain ⟨dH,hX,bc,bn⟩:=xt (nO aG (nO af a8)) (by simp only [tL,sM];exact ⟨aN.2.1,aN.1,aN.2.2⟩) aB bf;simp only [c6,ax,av];refine ⟨acc,⟨dV,a4⟩,⟨dH,hX⟩,aB,fun C _ ck=>⟨?_,?_⟩,cL,bn⟩
   ·rw [z1 a5,oa,aR C ck];exact br C ck
   ·rw [FH a5,oa,aR C ck];exact bc C ck
  ·cases ak
 ·cases ak
theorem Dr {A:c'} {fn:FuncId} {lo:Nat} {rl:Option Nat} {id:Nat} {ops:Array Oper} {draw:Bool} {a0:Nat} {rc:eE} (aK:A.ih=[]) (ax:kh A id draw=none) (ak:xf P ops draw (A.ops.getD id [])=some rc)
  {T:List I} {H:List au} {Q:cE→List I→List au→Prop} (h:dG P A fn lo rl rc T H Q):c6 P A fn lo rl (.region id ops draw) a0 ⟨T,H⟩ fun e s=>Q e s.T s.H:=by
 have av:e3 A.ih id ⟨T,H⟩=⟨T,H⟩:=by rw [aK];rfl
 have gen:∀ {d:Bool} {l:List Oper},ops.toList=l→draw=d→(ha P ops l (A.ops.getD id [])).map (.j_ d)=some rc→c6 P A fn lo rl (.region id ops draw) a0 ⟨T,H⟩ fun e s=>Q e s.T s.H:=fun {d l} mb a1 fg=>by
  clear ak;simp only [sr] at fg;obtain ⟨EC,fg,rfl⟩:=fg;subst a1;cases draw with
  | true =>
    obtain ⟨dB,a9,H',aB,_,aR,bm⟩:=z6 fg ⟨fun p aC=>by simp at aC,fun p aC=>by simp at aC⟩ h;simp only [c6,ax];exact ⟨dB,⟨a9,H'⟩,aB,fun C _ ck=>by rw [av,mb];exact aR C ck,bm⟩
  | false =>
    simp only [c6,ax];rw [av,mb];exact n6 fg h
 unfold xf at ak;split at ak
 ·rename_i o rest mb;split at ak
  ·rename_i it aD aO;simp only [sr] at ak;obtain ⟨EC,ak,rfl⟩:=ak;simp only [c6,ax];rw [av,mb];refine .inr ?_;simp only [dG,zK,iM] at h;split at h
   ·rename_i r aj;obtain ⟨m,since,seen,clock,es,aB,aH,aR,bm,bf,bj⟩:=h;simp only [xp] at bf bj;exact ⟨.tmp it,r,m,since,seen,es,clock,aD,aO,aj,aB,aH,aR,bm,fun h=>n6 ak (bf h),fun e ad af=>n6 ak (bj e ad af)⟩
   ·exact h.elim
  ·exact gen mb rfl ak
 ·exact gen rfl rfl ak
theorem fB.more {f:a7→(cE→a7→Prop)→Prop} {Q:cE→a7→Prop} (aQ:∀ s Q cJ,(∀ e s,Q e s→cJ e s)→f s Q→f s cJ):∀ {n:Nat} {s:a7},fB f n s Q→fB f (n+1) s Q
 | 0,s,h=>h.elim
 | n+1,s,h=>aQ _ _ _ (fun e aF aY=>by
    cases e with
    | normal=>exact fB.more aQ aY
    | ret=>exact aY
    | exit id=>exact aY) h
theorem Dv {f:a7→(cE→a7→Prop)→Prop} {Q:cE→a7→Prop} (hY:Nat→a7→Prop) (step:∀ m s,hY m s→f s fun e aF=>match e with | .normal=>∃ hb,hb<m∧hY hb aF | e=>Q e aF)
  (aQ:∀ s Q cJ,(∀ e s,Q e s→cJ e s)→f s Q→f s cJ):∀ (m:Nat) (s:a7),hY m s→fB f (m+1) s Q:=by
 intro m
 induction m using Nat.strongRecOn with
 | _ m bb =>
   intro s h;refine aQ _ _ _ (fun e aF aY=>?_) (step m s h);cases e with
   | normal =>
     obtain ⟨hb,hm,aY⟩:=aY
     have:∀ k,fB f (hb+1+k) aF Q:=fun k=>by
      induction k with
      | zero=>exact bb hb hm aF aY
      | succ k Dg=>exact fB.more aQ Dg
     (have e:m=hb+1+(m-(hb+1)):=by omega);rw [e];exact this _
   | ret=>exact aY
   | exit id=>exact aY
theorem xg {A:c'} {fn:FuncId} {lo:Nat} {rl:Option Nat}:∀ {c:Code} {a0:Nat} {rc:eE} {T:List I} {H:List au} {Q:cE→List I→List au→Prop},dX P A c a0=some rc→dG P A fn lo rl rc T H Q →
  c6 P A fn lo rl c a0 ⟨T,H⟩ fun e s=>Q e s.T s.H:=by
 intro c
 induction c with
 | skip=>intro a0 rc T H Q ak h;simp only [dX,Option.some.injEq] at ak;subst ak;exact h
 | label l=>intro a0 rc T H Q ak h;simp only [dX,Option.some.injEq] at ak;subst ak;exact h
 | ret=>intro a0 rc T H Q ak h;simp only [dX,Option.some.injEq] at ak;subst ak;exact h
 | exit id=>intro a0 rc T H Q ak h;simp only [dX,Option.some.injEq] at ak;subst ak;exact h
 | goto l=>intro a0 rc T H Q ak h;simp [dX] at ak
 | refuse y=>intro a0 rc T H Q ak h;simp [dX] at ak
 | region id ops draw =>
   intro a0 rc T H Q ak h;simp only [dX] at ak;split at ak
   ·rename_i aK;split at ak
    ·rename_i p ax;by_cases a5:p+1<ops.size
     ·exact Ds aK ax a5 ak h
     ·exact absurd ak (by unfold nP;simp only [fj,Array.getElem?_eq_none (show ops.size≤p+1 by omega)];split <;> simp_all)
    ·rename_i ax;exact Dr aK ax ak h
   ·cases ak
 | seq a b fh fv =>
   intro a0 rc T H Q ak h;simp only [dX] at ak;split at ak
   ·rename_i x y al a2;simp only [Option.some.injEq] at ak;subst ak;show c6 P A fn lo rl a a0 ⟨T,H⟩ _;refine lk (fun e s aY=>?_) (fh al h);cases e with
    | normal=>exact fv a2 aY
    | ret=>exact aY
    | exit id=>exact aY
   ·cases ak
 | cond c a b fh fv =>
   intro a0 rc T H Q ak h;simp only [dX] at ak;split at ak
   ·rename_i x y al a2;simp only [Option.some.injEq] at ak;subst ak
    have key:∀ v,aA T c=v→(match v with
      | .bool t=>(match t with | true=>dG P A fn lo rl x T H Q | false=>dG P A fn lo rl y T H Q)
      | .du=>dG P A fn lo rl x T H Q∧dG P A fn lo rl y T H Q
      | _=>False)→c6 P A fn lo rl (.cond c a b) a0 ⟨T,H⟩ fun e s=>Q e s.T s.H:=fun v ae h=>by
     cases v with
     | bool t =>
       refine .inl ⟨t,ae,?_⟩;cases t with
       | true=>exact fh al h
       | false=>exact fv a2 h
     | du=>exact .inr ⟨ae,fh al h.1,fv a2 h.2⟩
     | _=>exact h.elim
    cases c with
    | tmp t=>simp only [n7,dG,iM] at h;exact key _ rfl h
    | const v=>exact key (aA [] (.const v)) rfl h
    | func f=>exact key (aA [] (.func f)) rfl h
    | global g=>exact key (aA [] (.global g)) rfl h
   ·cases ak
 | block id c bb =>
   intro a0 rc T H Q ak h;simp only [dX,sr] at ak;obtain ⟨x,al,rfl⟩:=ak;show c6 P A fn lo rl c id ⟨T,H⟩ _;refine lk (fun e s aY=>?_) (bb al h);cases e with
   | normal=>exact aY
   | ret=>exact aY
   | exit bB =>
     simp only at aY ⊢;by_cases aE:bB=id
     ·subst aE;simp only [if_true];rw [wy] at aY;exact aY
     ·simp only [aE,if_false]
      have:Nat.beq bB id=false:=by
       cases ag:Nat.beq bB id with
       | false=>rfl
       | true=>exact absurd (tw ag) aE
      rw [this] at aY;exact aY
 | loop c bb =>
   intro a0 rc T H Q ak h;simp only [dX,sr] at ak;obtain ⟨x,al,rfl⟩:=ak;simp only [dG,Dm,zH] at h;obtain ⟨hY,m,hm,Dd⟩:=h;have kD:∀ s:a7,e3 A.ig a0 s=⟨match lP a0 A.ig with | some k=>eX k s.T | none=>s.T,s.H⟩:=fun s=>by
    unfold e3;cases lP a0 A.ig <;> rfl
   refine ⟨m+1,Dv (f:=fun aF=>c6 P A fn lo rl c a0 (e3 A.ig a0 aF)) (fun m s=>hY m (e3 A.ig a0 s).T s.H) ?_ (fun s Q cJ a5 h=>lk a5 h) m ⟨T,H⟩ (by rw [kD];exact hm)⟩;intro m s kv;rw [kD] at kv;have h:=bb al (Dd m _ s.H kv);show c6 P A fn lo rl c a0 (e3 A.ig a0 s) _;rw [kD];refine lk (fun e aF aY=>?_) h;cases e with
   | normal=>simp only at aY ⊢;rw [kD];exact aY
   | ret=>exact aY
   | exit id=>exact aY
 | scope c bb=>intro a0 rc T H Q ak h;exact bb ak h
 | rangeFunc f bl as b0 _ _ =>
   intro a0 rc T H Q ak h;simp only [dX,Option.some.injEq] at ak;subst ak;have key:∀ v,aA T f=v→n' P A fn lo rl v bl.toList as b0 T H Q→c6 P A fn lo rl (.rangeFunc f bl as b0) a0 ⟨T,H⟩ fun e s=>Q e s.T s.H:=fun v ae h=>by
    unfold n' at h;split at h
    ·(rename_i k first cap);obtain ⟨g6,r,H',st,cI,fn',a9,zU,gB,yc,iJ,ai,ak,cM,a5⟩:=h;have fin:∀ (e:cE) (a4:List au),exec P A (kZ (.fn k) (first++[.yield H.length]++cap) (H++[.loop .ready none fn (T.map I.view) bl.toList as b0 A]) lo r H') fn lo 0 rl (.rangeFunc f bl as b0) a0 ⟨T,H⟩=some (e,⟨T.map I.settle,a4⟩)→Q e (T.map I.settle) a4 →
       c6 P A fn lo rl (.rangeFunc f bl as b0) a0 ⟨T,H⟩ fun e s=>Q e s.T s.H:=fun e a4 he a5=>⟨_,e,_,D6 ai,he,a5⟩
     have hex:∀ (e:cE),(match cI with | none=>some cE.normal | some .ret=>some .ret | some (.exit id)=>some (.exit id) | _=>none)=some e →
       exec P A (kZ (.fn k) (first++[.yield H.length]++cap) (H++[.loop .ready none fn (T.map I.view) bl.toList as b0 A]) lo r H') fn lo 0 rl (.rangeFunc f bl as b0) a0 ⟨T,H⟩=some (e,⟨T.map I.settle,H'.set H.length .dead⟩):=fun e he=>by
      simp only [exec,ae,g6,D5,ak,cM,if_false];split at he <;> simp_all
     split at a5
     ·exact fin _ _ (hex .normal rfl) a5
     ·exact fin _ _ (hex .ret rfl) a5
     ·exact fin _ _ (hex (.exit _) rfl) a5
     ·exact a5.elim
    ·exact h.elim
   cases f with
   | tmp t=>simp only [n7,dG,iM] at h;exact key _ rfl h
   | const v=>exact key (aA [] (.const v)) rfl h
   | func g=>exact key (aA [] (.func g)) rfl h
   | global g=>exact key (aA [] (.global g)) rfl h
end
end Go.Proofs.YtfakoboiahbhaaaGreat.Ab


namespace Go.Proofs.YtfakoboiahbhaaaGreat.Ab
open Go
inductive jt where
 | tmp (t:Nat) | cell (a:Nat) (g:e8)
def kT (g:e8) (cs:List I) (off:Nat):Option I:=match g with
 | .one=>(cs[off]?).map I.view
 | .str s=>if off+s≤cs.length then some (.agg (((cs.drop off).take s).map I.view)) else none
 | .arr s=>if off+s≤cs.length then some (.agg (((cs.drop off).take s).map I.view)) else none
theorem Dq {P:Program} {t:TypeId} {g:e8} (h:gX P t=some g) (cs:List I) (off:Nat):ez P t cs off=kT g cs off:=by
 rcases oH h with ⟨rfl,ad,d,af⟩ | ⟨s,af,ad⟩
 ·simp [ez,kT,ad,af]
 ·rcases af with ⟨rfl,af⟩ | ⟨rfl,af⟩ <;> simp [ez,kT,ad,af]
def oJ (H:List au) (g:e8):I→Option I
 | .ptr id off=>match H[id]? with
   | some (.cells l)=>kT g l off
   | some (.grow l _ _)=>kT g l off
   | _=>none
 | .bW cells=>kT g cells 0
 | _=>none
theorem BG {P:Program} {t:TypeId} {g:e8} (h:gX P t=some g) (H:List au) (a:I):dW P H t a=oJ H g a:=by
 cases a <;> simp only [dW,oJ,Dq h] <;> rfl
noncomputable def j9 (H:List au) (T:List I):List jt→Option (List I)
 | []=>some []
 | .tmp t::r=>(j9 H T r).map (c8 T t::·)
 | .cell a g::r=>match oJ H g (c8 T a),j9 H T r with
   | some v,some vs=>some (v::vs)
   | _,_=>none
def j' (P:Program):List ResultVar→Option (List jt)
 | []=>some []
 | .tmp t::r=>(j' P r).map (.tmp t::·)
 | .cell a t::r=>match gX P t,j' P r with
   | some g,some l=>some (.cell a g::l)
   | _,_=>none
theorem xr {P:Program} (H:List au) (T:List I):∀ {rs:List ResultVar} {l:List jt},j' P rs=some l→fl P H T rs=j9 H T l
 | [],l,h=>by simp [j'] at h;subst h;rfl
 | .tmp t::r,l,h=>by
   simp only [j',sr] at h;obtain ⟨l,h,rfl⟩:=h;simp only [fl,j9,xr H T h]
 | .cell a t::r,l,h=>by
   simp only [j'] at h;split at h
   ·rename_i g l' ad af;simp only [Option.some.injEq] at h;subst h;simp only [fl,j9,xr H T af,BG ad];rfl
   ·cases h
inductive oC (rs:List jt) (v:I) (e:cE) (T:List I) (H:List au):Prop where
 | mk (he:e=.normal∨e=.ret) (vs:List I) (aj:j9 H T rs=some vs) (r:I) (aQ:bL H 0 H.length 0 8 (hk vs)=some r) (ae:r=v∨r.settle=v)
theorem Gz {rs:List jt} {v:I} {e:cE} {T:List I} {H:List au} (he:e=.normal∨e=.ret) (aC:ct 8 v=true) (h:(j9 H T rs).map hk=some v):oC rs v e T H:=by
 simp only [sr] at h;obtain ⟨vs,ad,af⟩:=h;exact ⟨he,vs,ad,v,by rw [af];exact o0 aC,.inl rfl⟩
noncomputable def zm (P:Program) (A:c') (k:Nat):Option (eE×Nat×List jt):=match P.funcs[k]? with
 | some f=>match f.body with
   | some c => match codeOk A c, f.name == "runtime.NumGoroutine", dX P A c 0, j' P f.results.toList with
     | true,false,some rc,some ts=>some (rc,f.ntmps,ts)
     | _,_,_,_=>none
   | none=>none
 | none=>none
theorem F' {P:Program} (dM:P.follows .mixedOrders=true) {k:Nat} {A:c'} {rc:eE} {n:Nat} {ts:List jt} (ak:zm P A k=some (rc,n,ts)) {args T:List I} (bZ:args++List.replicate (n-args.length) .junk=T) {v:I} (aC:ct 8 v=true)
  (h:dG P A k 0 none rc T [] (oC ts v)):lv P k args v:=by
 unfold zm at ak;split at ak
 ·rename_i f aQ;split at ak
  ·rename_i c ag;split at ak
   ·rename_i Gy FJ ad af aG a8;simp only [Option.some.injEq,Prod.mk.injEq] at ak;obtain ⟨rfl,rfl,rfl⟩:=ak;subst bZ;have a5:∀ e s,oC FJ v e (a7.T s) (a7.H s)→(e=.normal∨e=.ret)∧∃ vs r,fl P s.H s.T f.results.toList=some vs∧bL s.H 0 s.H.length 0 8 (hk vs)=some r∧(r=v∨r.settle=v):=fun e s ⟨cd,vs,B3,r,b_,eb⟩=>by
     exact ⟨cd,vs,r,by rw [xr _ _ a8,B3],b_,eb⟩
    exact Eg dM aQ ag (by simpa using af) ad aC (lk a5 (xg aG h))
   ·cases ak
  ·cases ak
 ·cases ak
def oi:Nat→Nat→List (Nat×I)→List I
 | 0,_,_=>[]
 | n+1,i,[]=>.junk::oi n (i+1) []
 | n+1,i,(j,v)::r=>match Nat.beq i j with
   | true=>v::oi n (i+1) r
   | false=>.junk::oi n (i+1) ((j,v)::r)
abbrev GI (n:Nat) (l:List (Nat×I)):List I:=oi n 0 l
abbrev gV (d:Nat) (s:List iE) (k:h0):cz:=⟨some d,s,none,none,k⟩
noncomputable section
def ho:Code→List (Code×Code)
 | .rangeFunc _ _ a b=>(a,b)::(ho a++ho b)
 | .seq a b=>ho a++ho b
 | .cond _ a b=>ho a++ho b
 | .block _ c=>ho c
 | .loop c=>ho c
 | .scope c=>ho c
 | _=>[]
def yd (P:Program) (k:Nat):Code:=match P.funcs[k]? with
 | some f=>match f.body with
   | some c=>c
   | none=>.skip
 | none=>.skip
def GA (P:Program) (k i:Nat):Code:=match (ho (yd P k))[i]? with
 | some x=>x.1
 | none=>.skip
def GB (P:Program) (k i:Nat):Code:=match (ho (yd P k))[i]? with
 | some x=>x.2
 | none=>.skip
end
end Go.Proofs.YtfakoboiahbhaaaGreat.Ab


namespace Go.Proofs.YtfakoboiahbhaaaGreat.Ab
open Go
section
variable {P:Program} {B:Nat} {J:List Nat} {w:World} {H:List au} {U:Nat→Option aI} {S:Nat→Nat→Prop}
end
end Go.Proofs.YtfakoboiahbhaaaGreat.Ab


namespace Go.Proofs.YtfakoboiahbhaaaGreat.Ab
open Go
section
variable {P:Program} {B N:Nat} {J:List Nat} {w:World} {H:List au} {U:Nat→Option aI} {S:Nat→Nat→Prop}
theorem FU (dM:P.follows .mixedOrders=true) {l lo:Nat} {fn:FuncId} {T a9:List I} {bl:List Nat} {as b0:Code} {an:c'} {args:List I} {H':List au}
  (ak:H[l]?=some (.loop .ready none fn T bl as b0 an)) (eo:hq bl args T=some a9) (pz:bd lo H H')
  (h:c6 P an fn lo (some l) as 0 ⟨a9,H⟩ fun e s1=>e=.normal∧s1.H[l]?=some (.loop .ready none fn T bl as b0 an) ∧
   c6 P an fn lo (some l) b0 0 ⟨s1.T,s1.H.set l (.loop .busy none fn T bl as b0 an)⟩ fun e s2=>e=.normal∧s2.H[l]?=some (.loop .busy none fn T bl as b0 an)∧jr (s2.H.set l (.loop .ready none fn T bl as b0 an)) H') :
  Sem P (.yield l) args H lo (.bool true) H':=by
 refine ⟨pz,fun B U J S w xs b ah _ ae ag=>?_⟩;obtain ⟨bc,bn,ar,L,aB,aH,aR,bm,bf,bj,c4,dd,dI,fC,oD⟩:=ah.obj l _ ak;rw [ag] at aB;cases aB;have cM:=xQ bl args T a9 xs L.tmps.toList eo ae.len (by simpa using c4.symm);obtain ⟨cd,b_,eb,hy⟩:=cM;refine ⟨L,aR,by rw [←ae.len,←cd,←dI];simp,?_⟩;refine roundIn_of_wpIn trivial ?_;have mh:(hM L xs).toList=(bl.zip xs).foldl (fun (l:List Value) (p:Nat×Value)=>l.set p.1 p.2) L.tmps.toList:=by rw [Aw,dI]
 obtain ⟨de,fI⟩:=Ba bl ah;have aK:cv B w.heap.size (gT bl U) J S w ⟨a9,H⟩ { tmps:=hM L xs,defers:=[] }:=by
  refine ⟨?_,fI,sx _,fun d a1=>by simp at a1,List.Pairwise.nil⟩;simp only [mh];have key:∀ (i:Nat) (u:I) (x:Value),a9[i]?=some u→((bl.zip xs).foldl (fun (l:List Value) (p:Nat×Value)=>l.set p.1 p.2) L.tmps.toList)[i]?=some x →
    Rel J S w u x∧aW (gT bl U) J S w (.slot i) u x:=fun i u x hu al=>by
   rcases hy i u x hu al with ⟨aJ,aP⟩ | ⟨j,aJ,aP,cl⟩
   ·obtain ⟨bT,b6⟩:=dd i u x aJ (by simpa using aP);exact ⟨b6,aW.b5 bT⟩
   ·exact ⟨ae.rel j u x aP cl,(ae.own j u x aP cl).mono (Ext.refl J) (fun _ _ h=>⟨h,rfl⟩) fun b ag=>⟨by simp [gT,ag,aJ],rfl,fun _ h=>h⟩⟩
  exact ⟨by rw [b_,eb,←c4];simp,fun i u x hu al=>(key i u x hu al).1,fun i u x hu al=>(key i u x hu al).2⟩
 rw [fC,oD];refine ov dM as 0 _ _ h bc _ _ B w.heap.size J w (gT bl U) S _ (.inr ⟨l,b,rfl,ag,rfl⟩) (fun l a w aO=>aO) aK fun e1 s1 av aB bF ai=>?_;obtain ⟨rfl,hG,af⟩:=av;obtain ⟨b4,cT,a6,aJ,aP,cb⟩:=ai;have e0:cT[l]?=some b:=aJ _ _ ag;obtain ⟨_,_,ar,js,d1,d2,d3,d4,d5,_⟩:=cb.H.obj l _ hG;rw [e0] at d1;cases d1;obtain ⟨ea,o4⟩:=cb.loop hG e0 d3 .busy none;have pa:(Instr.beginRound b).run P bF=.ok () (bF.putObj b (.loop { js with state:=.busy,pending:=none })):=by
  rw [run_beginRound d3 d4]
  have:({ js with state:=.busy,pending:=none }:Loop)={ js with state:=.busy }:=by rw [←d5]
  rw [this]
 refine ⟨_,pa,?_⟩;refine wpIn_mono (Q:=fun cP aM w'=>(∀ t,cP≠Exit.goto t)∧roundPost P b (fA B U J S w H' (.bool true)) cP aM w') ?_ (fun e a w h=>h.2);refine ov dM b0 0 _ _ af bn _ _ B w.heap.size cT _ b4 a6 _ (.inr ⟨l,b,rfl,e0,rfl⟩) (fun l a w aO=>aO.1 l rfl) o4 fun cm s2 av aH bV ai=>?_;obtain ⟨rfl,fg,kB⟩:=av;obtain ⟨bq,cj,bJ,cl,jW,lS⟩:=ai;have fs:cj[l]?=some b:=cl _ _ e0;obtain ⟨_,_,ar,iD,f1,f2,f3,f4,f5,_⟩:=lS.H.obj l _ fg;rw [fs] at f1;cases f1;have jE:bk U S w bq bJ bV:=((de.trans aP).trans ea).trans jW;refine ⟨fun t ax=>(by cases ax),?_⟩;refine ⟨_,_,run_endRound none f3,?_⟩;obtain ⟨oU,o5⟩:=lS.loop fg fs f3 .ready none;exact a3.nk kB ⟨bq,cj,bJ,aJ.trans cl,jE.trans oU,o5.H,.bool _,aW.b5 rfl⟩
theorem GH (dM:P.follows .mixedOrders=true) {l lo:Nat} {fn:FuncId} {T a9:List I} {bl:List Nat} {as b0:Code} {an:c'} {args:List I} {H':List au} {zZ z2:eE}
  (cg:dX P an as 0=some zZ) (ag:dX P an b0 0=some z2)
  (ak:H[l]?=some (.loop .ready none fn T bl as b0 an)) (eo:hq bl args T=some a9) (pz:bd lo H H')
  (h:dG P an fn lo (some l) zZ a9 H fun e fo H1=>e=.normal∧H1[l]?=some (.loop .ready none fn T bl as b0 an) ∧
   dG P an fn lo (some l) z2 fo (H1.set l (.loop .busy none fn T bl as b0 an)) fun e dV a4=>e=.normal∧a4[l]?=some (.loop .busy none fn T bl as b0 an)∧jr (a4.set l (.loop .ready none fn T bl as b0 an)) H') :
  Sem P (.yield l) args H lo (.bool true) H' :=
 FU dM ak eo pz (lk (fun e s a5=>⟨a5.1,a5.2.1,xg ag a5.2.2⟩) (xg cg h))
end
end Go.Proofs.YtfakoboiahbhaaaGreat.Ab


namespace Go.Proofs.YtfakoboiahbhaaaGreat.Ab
open Go
abbrev Gs (d s:Nat):cz:=gV d [.sl s] .i_
abbrev Gt (d s:Nat):cz:=gV d [.hP s] .i_
abbrev Gr (d:Nat) (n:Int):cz:=gV d [.iK (.int .i64 n)] .i_
abbrev F3 (d s:Nat) (n:Int):cz:=gV d [.hS s,.iK (.int .i64 n)] (.bin .add)
abbrev F5 (d s t:Nat) (o:BinOp):cz:=gV d [.hS s,.hS t] (.bin o)
abbrev F4 (d s:Nat) (n:Int) (o:BinOp):cz:=gV d [.hS s,.iK (.int .i64 n)] (.bin o)
abbrev Gp (d s:Nat):cz:=gV d [.hP s] .xe
abbrev Gq (d s:Nat):cz:=gV d [.hS s] (.p2 .one)
abbrev F_ (d s k:Nat):cz:=gV d [.hS s] (.oY k)
abbrev Gl (d s t k:Nat):cz:=gV d [.hS s,.hS t] (.pV k)
abbrev GL (d s k:Nat):cz:=gV d [.sl s] (.ext k)
abbrev cS (d:Nat) (l:List iE) (g:Nat) (b:Bool) (k:h0):cz:=⟨some d,l,some (g,b),none,k⟩
abbrev Gw (l:List cz):eE:=.j_ false l
abbrev Gx (l:List cz):eE:=.j_ true l
abbrev GD (l:List cz) (c:eE):eE:=.seq (.j_ false l) c
abbrev Gm (n:Nat):eE:=.cond (.sl n) .skip .skip
def Ay (b:Bool):Nat→List Bool→List Bool
 | 0,l=>l
 | n+1,l=>b::Ay b n l
def ED:Bool→List Nat→List Bool
 | _,[]=>[]
 | b,n::r=>Ay b n (ED (!b) r)
end Go.Proofs.YtfakoboiahbhaaaGreat.Ab
