
import Derived.Test.YtfakoboiahbhaaaGreatJt2
import Derived.Maps.RangeRun
set_option linter.unusedSimpArgs false
set_option linter.unusedVariables false
set_option linter.unusedSectionVars false

open Array renaming getD_eq_getD_getElem?→ss,getElem?_eq_getElem→sC,getElem?_eq_some_iff→sW,getElem?_setIfInBounds_ne→vn,toArray_toList→uq
open Bool renaming and_eq_true→sv,false_eq_true→tF,or_eq_true→tL
open Classical renaming choose_spec→vv
open List renaming all_cons→tE,all_eq_true→sy,append_assoc→sA,drop_eq_getElem_cons→sQ,eq_nil_iff_forall_not_mem→uH,getD_eq_getElem?_getD→sE,getElem?_append_left→sB,getElem?_append_right→sJ,getElem?_cons_zero→ur,getElem?_eq_getElem→sk,getElem?_eq_none→td,getElem?_eq_some_iff→sa,getElem?_map→sr,getElem?_range→uY,getElem?_set_ne→si,getElem?_set_self→sg,length_cons→sL,length_map→sV,length_nil→uK,length_set→ta,mapM_cons→vS,map_congr_left→ti,map_cons→sx,map_id→uN,mem_cons→sj,mem_cons_of_mem→tR,mem_cons_self→ud,mem_iff_getElem?→tx,mem_map→sm,mem_of_getElem?→sI,mem_range→sG,mem_singleton→sK,nodup_range→tY,pairwise_cons→tB,pairwise_lt_range→uI,pairwise_map→uJ
open Nat renaming beq_eq→uM,beq_refl→uL,ble_eq→uw,ble_eq_true_of_le→uc,blt_eq→th,eq_of_beq_eq_true→s_,le_of_ble_eq_true→tX,le_refl→sc,lt_or_ge→sR
open Option renaming bind_eq_some_iff→se,bind_some→r_,isNone_iff_eq_none→tn,isSome_eq_false_iff→tj,isSome_iff_exists→tz,map_eq_some_iff→rZ,map_some→sd
namespace Go.Proofs.YtfakoboiahbhaaaGreat.Ab
open Go
section
variable {P:Program} {B N:Nat} {J:List Nat} {w:World} {H:List au} {U:Nat→Option aI} {S:Nat→Nat→Prop}
theorem FN {bz:Nat→aI} {us:List I} {xs:List Value} (ak:us.length=xs.length) (h:∀ (j:Nat) (u:I) (v:Value),us[j]?=some u→xs[j]?=some v→Rel J S w u v∧u.plain=true):a9 bz U J S w us xs :=
 ⟨ak,fun j u v hu ae=>(h j u v hu ae).1,fun j u v hu ae=>aV.b3 (h j u v hu ae).2⟩
def pQ (F:Fence) (P:Program) (Q:Exit→Act→World→Prop) (cF:Option Code) (aM:Act) (w':World):Prop:=match cF with
 | none=>Q .normal aM w'
 | some c=>c.wpIn F 0 P Q aM w'
theorem zT {F:Fence} (bB:ei F) {C:b6} (bt:c_ P C) {T:List I} {a:Act} (aK:ct B N U J S w ⟨T,H⟩ a) (l9:a9 .slot U J S w (T.map I.view) a.tmps.toList)
  {lo k:Nat} {first cap:List I} {vs ws:Array Value} (aQ:Rel J S w (.func k first cap) (.func (.func k) vs ws))
  {as bY:Code} {an:c7} {fn fn':FuncId} {bh:Array Tmp} (a':codeOk an as=true) (bk:codeOk an bY=true) {r:I} {H':List au}
  (h:C (.fn k) (first++[.yield H.length]++cap) (H++[.loop .ready none fn (T.map I.view) bh.toList as bY an]) lo=some (r,H'))
  {st:LoopState} {cF:Option Code} {fR:FuncId} {dQ:List I} {gD:List Nat} {gq gr:Code} {gn:c7} (ak:H'[H.length]?=some (.loop st cF fR dQ gD gq gr gn)) (cJ:st≠.busy)
  {bC:World} (m9:bg (di U) S w (di U) S bC) (bW:aL B (di U) J S bC H) {mark:List Deferred} {dfr:Nat} (hm:Marks N (di U) bC mark) (yL:∀ d∈mark,∀ r,d.target=.collected r→U r=none∧w.heap.size≤r) {Q:Exit→Act→World→Prop}
  (bl:∀ aM w',Step B N U J S w ⟨T,H'.set H.length .dead⟩ aM w'→pQ F P Q cF aM w') :
  CallsIn F 0 P k (vs++#[Value.func (.yield bC.heap.size) #[] #[]]++ws) (bC.alloc (.loop { state:=.ready,pending:=none,fn:=fn',tmps:=a.tmps,params:=bh,assign:=as,body:=bY,defers:=dfr }))
   (rangePost F 0 P bC.heap.size Q { a with defers:=mark++a.defers }):=by
 generalize fi:({ state:=.ready,pending:=none,fn:=fn',tmps:=a.tmps,params:=bh,assign:=as,body:=bY,defers:=dfr }:Loop)=L;have yk:=kh bW (.loop L) (.obj H.length);have CY:=nt bW (.loop L) (.obj H.length);have mc:Ext J (J++[bC.heap.size]):=Ext.append J _;have oZ:∀ b o,S b o→S b o∧(bC.alloc (.loop L)).cell? ⟨b,o,none⟩=w.cell? ⟨b,o,none⟩:=(m9.trans yk).set;have B7:=CY.push bC.heap.size (o:=.loop .ready none fn (T.map I.view) bh.toList as bY an)
  ⟨a',bk,bC.heap.size,L,Ext.last bW _,by simp [lay],World.alloc_heap_new bC _,by rw [←fi],by rw [←fi],trivial,by rw [←fi];simpa using l9.len.symm,
   fun i u v hu ae=>by
    rw [←fi] at ae;refine ⟨?_,((l9.rel i u v hu (by simpa using ae)).mono mc oZ)⟩;simp only [sr,rZ] at hu;obtain ⟨x,_,rfl⟩:=hu
    exact I.df x,by rw [←fi],by rw [←fi],by rw [←fi]⟩
 have fU:mU (lay (di U) bC.heap.size (.obj H.length)):=fun b i ag=>by
  unfold lay at ag;split at ag
  ·simp at ag
  ·exact Cz b i ag
 have Cb:a9 (fun i=>.arg i) (lay (di U) bC.heap.size (.obj H.length)) (J++[bC.heap.size]) S (bC.alloc (.loop L)) (first++[.yield H.length]++cap) (vs.toList++[Value.func (.yield bC.heap.size) #[] #[]]++ws.toList):=by
  cases aQ with
  | func _ _ _ _ _ aJ aP bR b4 r1 r2 =>
    refine FN (by simp [aJ,aP]) fun j u v hu ae=>?_;rcases sR j first.length with ad | ad
    ·rw [sA,sB ad] at hu;rw [sA,sB (by simp;omega)] at ae;exact ⟨(r1 j u v hu (by simpa using ae)).mono mc oZ,bR u (sI hu)⟩
    ·rw [sA,sJ ad] at hu;rw [sA,sJ (by simp;omega)] at ae;(have bP:vs.toList.length=first.length:=by simp [aJ]);rw [bP] at ae;rcases sR (j-first.length) 1 with af | af
     ·(have aS:j-first.length=0:=by omega);rw [aS] at hu ae;simp at hu ae;subst hu ae;exact ⟨.yield _ _ (Ext.last bW _),rfl⟩
     ·rw [sJ (by simpa using af)] at hu ae;exact ⟨(r2 _ u v hu (by simpa using ae)).mono mc oZ,b4 u (sI hu)⟩
 have e6:=(bt.ok h).2 B _ _ S _ _ B7 fU Cb;have hr:(vs.toList++[Value.func (.yield bC.heap.size) #[] #[]]++ws.toList).toArray=vs++#[Value.func (.yield bC.heap.size) #[] #[]]++ws:=by
  apply Array.ext';simp
 rw [hr] at e6;refine bB.calls (CallsIn.mono e6 fun e bT he=>?_);cases e with
 | panicked c=>exact he.elim
 | outgrown=>exact he.elim
 | returned x =>
   obtain ⟨bn,cg,bH,pL,dX,cp,_,_⟩:=he;obtain ⟨_,_,ar,iq,aB,aH,aR,bj,bb,_⟩:=cp.obj _ _ ak;have dF:cg[H.length]?=some bC.heap.size:=pL _ _ (Ext.last bW _);rw [dF] at aB;cases aB;obtain ⟨BT,B6,_⟩:=zi cp aH aR { iq with state:=.exhausted };have ju:bg (di U) S bC bn bH (bT.putObj bC.heap.size (.loop { iq with state:=.exhausted })):=(yk.trans dX).trans BT;obtain ⟨q1,aW⟩:=zE none aK (mc.trans pL) (m9.trans ju) B6 (.junk undef) (aV.b3 rfl);refine ⟨iq.pending,_,run_endLoop aR (by rw [bj];exact cJ),?_⟩;rw [←bb] at bl;refine bl _ _ ⟨_,cg,bH,mc.trans pL,q1,⟨aW.T,aW.H,aW.M.1,fun d aZ=>?_,List.pairwise_append.2 ⟨hm.2.2,aW.M.2.2,fun d aZ gQ ng e=>?_⟩⟩⟩
   rotate_left
   ·obtain ⟨hB,dd,_⟩:=hm.2.1 d aZ;obtain ⟨r1,ca,_,_,DT⟩:=aK.M.2.1 gQ ng;have:=(yL d aZ hB dd).2;have:=(sW.1 DT).1;rw [dd,ca] at e;cases e;omega
   rcases List.mem_append.1 aZ with aZ | aZ
   ·obtain ⟨hB,dd,de,jN,kL⟩:=hm.2.1 d aZ;have dp:hB<bC.heap.size:=(sW.1 kL).1;refine ⟨hB,dd,de,?_,(ju.cD hB dp jN).trans kL⟩;have aS:=(yL d aZ hB dd).1;have af:bn hB=none:=by
     cases bL:bn hB with
     | none=>rfl
     | some l =>
       rcases ju.own hB (by simp [bL]) with bV | bV
       ·exact absurd jN bV
       ·omega
    simp [back,aS,af]
   ·exact aW.M.2.1 d aZ
end
end Go.Proofs.YtfakoboiahbhaaaGreat.Ab


namespace Go.Proofs.YtfakoboiahbhaaaGreat.Ab
open Go
def toExit:cB→Exit
 | .normal=>.normal
 | .ret=>.ret
 | .exit id=>.exit id
def jf (F:Fence) (rl:Option Nat) (J:List Nat):Prop:=(rl=none∧F=Fence.wide)∨∃ l b,rl=some l∧J[l]?=some b∧F=Fence.wide.inRound b
theorem jf.lE {F:Fence} {rl:Option Nat} {J:List Nat} (h:jf F rl J):ei F:=by
 rcases h with ⟨_,rfl⟩ | ⟨l,b,_,_,rfl⟩
 ·exact .inl rfl
 ·exact .inr ⟨b,rfl⟩
theorem jf.ext {F:Fence} {rl:Option Nat} {J bZ:List Nat} (h:jf F rl J) (bK:Ext J bZ):jf F rl bZ:=by
 rcases h with h | ⟨l,b,ad,af,aG⟩
 ·exact .inl h
 ·exact .inr ⟨l,b,ad,bK _ _ af,aG⟩
theorem ki {p:Nat→Prop} (h:∃ n,p n):∃ n,p n∧∀ m,p m→n≤m:=by
 obtain ⟨n,aN⟩:=h
 induction n using Nat.strongRecOn with
 | _ n a_ =>
   by_cases ak:∃ m,m<n∧p m
   ·obtain ⟨m,hm,aC⟩:=ak;exact a_ m hm aC
   ·exact ⟨n,aN,fun m hm=>Nat.le_of_not_lt fun aU=>ak ⟨m,aU,hm⟩⟩
section
variable {P:Program}
theorem Du {F:Fence} {c:Code} {f:a5→Option (cB×a5)} {e:cB} {aF:a5} {Q:Exit→Act→World→Prop} {B N:Nat} {J:List Nat} {w:World} {U:Nat→Option aI} {S:Nat→Nat→Prop} {s:a5} {a:Act} {n:Nat}
  (h:h9 f n s=some (e,aF)) (aK:ct B N U J S w s a) (bl:∀ aM w',Step B N U J S w aF aM w'→Q (toExit e) aM w')
  (ko:∀ (s1:a5) (e1:cB) (s2:a5),f s1=some (e1,s2)→∀ (cG:Exit→Act→World→Prop) (aB:Act) (bC:World),(∀ l a w,cG (.goto l) a w→Q (.goto l) a w)→Step B N U J S w s1 aB bC →
   (∀ aM w',Step B N U J S w s2 aM w'→cG (toExit e1) aM w')→c.wpIn F 0 P cG aB bC):(Code.loop c).wpIn F 0 P Q a w:=by
 classical
 let Inv:Nat→Act→World→Prop:=fun n aM w'=>∃ s1,h9 f n s1=some (e,aF)∧Step B N U J S w s1 aM w'
 let gi:Act→World→Nat:=fun aM w'=>if h:∃ n,Inv n aM w' then Classical.choose (ki h) else 0
 have me:∀ aM w',(∃ n,Inv n aM w')→Inv (gi aM w') aM w'∧∀ m,Inv m aM w'→gi aM w'≤m:=fun aM w' h=>by
  have:gi aM w'=Classical.choose (ki h):=by simp only [gi,dif_pos h]
  rw [this];exact vv (ki h)
 refine wpIn_loop (fun aM w'=>∃ n,Inv n aM w') gi ⟨n,s,h,Step.here aK⟩ fun aB bC kl=>?_;obtain ⟨⟨s1,ad,gx⟩,_⟩:=me aB bC kl;cases aN:gi aB bC with
 | zero=>rw [aN] at ad;simp [h9] at ad
 | succ m =>
   rw [aN] at ad;simp only [h9] at ad;split at ad
   ·rename_i s2 Co;refine ko s1 .normal s2 Co _ aB bC (fun l a w h=>h) gx fun aM w' dM=>?_;have hinv:Inv m aM w':=⟨s2,ad,dM⟩;exact ⟨⟨m,hinv⟩,Nat.lt_succ_of_le ((me aM w' ⟨m,hinv⟩).2 m hinv)⟩
   ·rename_i fU;refine ko s1 e aF ad _ aB bC (fun l a w h=>h) gx fun aM w' dM=>?_;cases e with
    | normal=>exact absurd ad (fU aF)
    | ret=>exact bl aM w' dM
    | exit id=>exact bl aM w' dM
theorem m_ {C:b6} (bt:c_ P C) (dH:P.follows .mixedOrders=true) {A:c7} {fn:FuncId} {lo d:Nat} {rl:Option Nat} :
  ∀ (c:Code) (aY:Nat) (s:a5) (e:cB) (aF:a5),exec P A C fn lo d rl c aY s=some (e,aF)→codeOk A c=true →
    ∀ (F:Fence) (Q:Exit→Act→World→Prop) (B N:Nat) (J:List Nat) (w:World) (U:Nat→Option aI) (S:Nat→Nat→Prop) (a:Act),jf F rl J→(∀ l a w,¬ Q (.goto l) a w) →
      ct B N U J S w s a→(∀ aM w',Step B N U J S w aF aM w'→Q (toExit e) aM w')→c.wpIn F 0 P Q a w:=by
 intro c
 induction c with
 | skip =>
   intro aY s e aF h _ F Q B N J w U S a bB aO aK bl;simp only [exec,Option.some.injEq,Prod.mk.injEq] at h;obtain ⟨rfl,rfl⟩:=h;exact wpIn_skip (bl a w (Step.here aK))
 | label l =>
   intro aY s e aF h _ F Q B N J w U S a bB aO aK bl;simp only [exec,Option.some.injEq,Prod.mk.injEq] at h;obtain ⟨rfl,rfl⟩:=h;exact wpIn_label (bl a w (Step.here aK))
 | ret =>
   intro aY s e aF h _ F Q B N J w U S a bB aO aK bl;simp only [exec,Option.some.injEq,Prod.mk.injEq] at h;obtain ⟨rfl,rfl⟩:=h;exact wpIn_ret (bl a w (Step.here aK))
 | exit id =>
   intro aY s e aF h _ F Q B N J w U S a bB aO aK bl;simp only [exec,Option.some.injEq,Prod.mk.injEq] at h;obtain ⟨rfl,rfl⟩:=h;exact wpIn_exit (bl a w (Step.here aK))
 | goto l=>intro aY s e aF h;simp [exec] at h
 | refuse y=>intro aY s e aF h;simp [exec] at h
 | region id ops draw =>
   intro aY s e aF h bO F Q B N J w U S a bB aO aK bl;simp only [exec] at h;split at h
   ·cases h
   rename_i kC;simp only [rZ,Prod.mk.injEq] at h;obtain ⟨s1,h,rfl,rfl⟩:=h;refine z1 bB.lE dH bt (fun aZ=>?_) h (aK.cD _ _) bl;simp only [codeOk,xn,kC] at bO;simpa [aZ] using bO
 | seq x y nB pP =>
   intro aY s e aF h bO F Q B N J w U S a bB aO aK bl;simp only [codeOk,sv] at bO;simp only [exec] at h;split at h
   ·rename_i s1 ad;refine wpIn_seq (nB _ _ _ _ ad bO.1 F _ B N J w U S a bB (fun l a w=>aO l a w) aK fun aM w' ai=>?_);obtain ⟨b2,cQ,a4,aJ,aP,b'⟩:=ai;exact pP _ _ _ _ h bO.2 F Q B N cQ w' b2 a4 aM (bB.ext aJ) aO b' fun gM hh dM=>bl gM hh (dM.trans aJ aP)
   ·rename_i fU;refine wpIn_seq (nB _ _ _ _ h bO.1 F _ B N J w U S a bB (fun l a w=>aO l a w) aK fun aM w' ai=>?_);cases e with
    | normal=>exact absurd h (fU aF)
    | ret=>exact bl aM w' ai
    | exit id=>exact bl aM w' ai
 | cond x t f nA nz =>
   intro aY s e aF h bO F Q B N J w U S a bB aO aK bl;simp only [codeOk,sv] at bO;simp only [exec] at h;have aj:=aK.aA x;split at h
   ·rename_i ag;rw [ag] at aj;exact wpIn_cond_true aj.hU (nA _ _ _ _ h bO.1 F Q B N J w U S a bB aO aK bl)
   ·rename_i ag;rw [ag] at aj;exact wpIn_cond_false aj.hU (nz _ _ _ _ h bO.2 F Q B N J w U S a bB aO aK bl)
   ·simp at h
 | block id c a_ =>
   intro aY s e aF h bO F Q B N J w U S a bB aO aK bl;simp only [exec] at h;refine wpIn_block ?_;split at h
   ·rename_i bx s1 ad;refine a_ _ _ _ _ ad bO F _ B N J w U S a bB (fun l a w=>aO l a w) aK fun aM w' ai=>?_;by_cases aE:bx=id
    ·simp only [aE,if_true,Option.some.injEq,Prod.mk.injEq] at h;obtain ⟨rfl,rfl⟩:=h;simp only [toExit,Exit.inBlock,aE,if_true];exact bl aM w' ai
    ·simp only [aE,if_false,Option.some.injEq,Prod.mk.injEq] at h;obtain ⟨rfl,rfl⟩:=h;simp only [toExit,Exit.inBlock,aE,if_false];exact bl aM w' ai
   ·rename_i fU;refine a_ _ _ _ _ h bO F _ B N J w U S a bB (fun l a w=>aO l a w) aK fun aM w' ai=>?_;cases e with
    | normal=>exact bl aM w' ai
    | ret=>exact bl aM w' ai
    | exit bx=>exact absurd h (fU bx aF)
 | scope c a_ =>
   intro aY s e aF h bO F Q B N J w U S a bB aO aK bl;simp only [exec] at h;exact Bd (a_ _ _ _ _ h bO F Q B N J w U S a bB aO aK bl) aO
 | loop c a_ =>
   intro aY s e aF h bO F Q B N J w U S a bB aO aK bl;simp only [exec] at h;refine Du h aK bl fun s1 e1 s2 ad cG aB bC CV gx oX=>?_;obtain ⟨b2,cQ,a4,aJ,aP,b'⟩:=gx;exact a_ _ _ _ _ ad bO F cG B N cQ bC b2 a4 aB (bB.ext aJ) (fun l a w a3=>aO l a w (CV l a w a3)) (b'.cD _ _) fun aM w' dM=>oX aM w' (dM.trans aJ aP)
 | rangeFunc g bh as bY e_ fm =>
   intro aY s e aF h bO F Q B N J w U S a bB aO aK bl;simp only [codeOk,sv] at bO;simp only [exec] at h;split at h
   ·(rename_i k first cap gX lS);have yV:=aK.aA g;rw [lS] at yV;split at h
    ·rename_i r H' ao;split at h
     ·rename_i st cF fR dQ gD gq gr gn ak;split at h
      ·simp at h
      ·rename_i cJ;have oX:∀ aM w',Step B N U J S w ⟨s.T.map I.settle,H'.set s.H.length .dead⟩ aM w'→pQ F P Q cF aM w':=fun aM w' ai=>by
        split at h
        ·simp only [Option.some.injEq,Prod.mk.injEq] at h;obtain ⟨rfl,rfl⟩:=h;exact bl aM w' ai
        ·simp only [Option.some.injEq,Prod.mk.injEq] at h;obtain ⟨rfl,rfl⟩:=h;exact wpIn_ret (bl aM w' ai)
        ·simp only [Option.some.injEq,Prod.mk.injEq] at h;obtain ⟨rfl,rfl⟩:=h;exact wpIn_exit (bl aM w' ai)
        ·simp at h
       obtain ⟨a4,dr,dj,bW,kn,o0⟩:=AL s.T a.tmps.toList .slot S (fun i j h=>by cases h;rfl) (fun i id=>by simp) (fun i id j=>by simp) aK.T aK.H;have da:bg U S w U a4 w:=bg.settle dr fun b o h=>(dj b o h).imp id fun ⟨i,h⟩=>⟨_,h⟩;have b':ct B N U J a4 w ⟨s.T.map I.settle,s.H⟩ a:=⟨kn,bW,aK.M.aA da⟩;have kD:(s.T.map I.settle).map I.view=s.T.map I.view:=by
        rw [List.map_map];apply ti;intro u _;exact xU u
       (have l9:a9 .slot U J a4 w ((s.T.map I.settle).map I.view) a.tmps.toList:=by rw [kD];exact o0);rw [←kD] at ao;have yw:∀ aM w',Step B N U J a4 w ⟨s.T.map I.settle,H'.set s.H.length .dead⟩ aM w'→pQ F P Q cF aM w':=fun aM w' ai=>oX aM w' (Step.trans (Ext.refl J) da ai);have dp:=yV.mono (Ext.refl J) (S':=a4) (w':=w) (fun b o h=>⟨dr b o h,rfl⟩);obtain ⟨⟨f0,Cn,iE,CN⟩,_⟩:=bt.ok ao;have yy:U w.heap.size=none:=by
        cases al:U w.heap.size with
        | none=>rfl
        | some l=>have:=(aK.H.base _ l al).2;omega
       generalize Cx:a.eval g=F9 at dp;cases dp with
       | func _ _ _ vs ws aJ aP bR b4 r1 r2 =>
         refine wpIn_rangeFunc fun fn' _=>?_;have kA:∀ (l:Nat) (w0:World),(resolve a.eval (rangeCall g l) 0).run P w0=.ok { target:=.fn (.func k) ws,args:=vs++#[Value.func (.yield l) #[] #[]] } w0:=fun l w0=>by
          have:(#[Operand.const (Value.func (.yield l) #[] #[])]:Array Operand).map a.eval=#[Value.func (.yield l) #[] #[]]:=by simp [Act.eval]
          simp only [resolve,rangeCall,Cx,Deferred.ofValue,this,Sem.run_pure]
         have hinv:∀ (l:Nat) (w0:World),(invoke (.fn (.func k) ws) (vs++#[Value.func (.yield l) #[] #[]])).run P w0=.ok (.enter k (vs++#[Value.func (.yield l) #[] #[]]++ws)) w0:=fun l w0=>by
          simp only [invoke,Aw Cn iE CN]
         (have pb:Rel J a4 w (.func k first cap) (.func (.func k) vs ws):=.func k first cap vs ws aJ aP bR b4 r1 r2);(have yB:F.depth.isSome=true→1≤0:=fun iH=>by rw [bB.lE.depth] at iH;cases iH);rcases bB with ⟨rfl,rfl⟩ | ⟨cv,dx,rfl,ag,rfl⟩
         ·have cp:=l7 b'.H;have e6:=zT (.inl rfl) bt b' l9 pb bO.1 bO.2 ao ak cJ (yj cp (.deferred (some []))) (C0 cp (.deferred (some []))) (fn':=fn') (dfr:=w.heap.size)
           (mark:=[{ target:=.collected w.heap.size,args:=#[] }]) ⟨by have:=aK.M.1;simp;omega,fun d aZ=>by
            simp only [sK] at aZ;subst aZ;exact ⟨w.heap.size,rfl,aK.M.1,nk yy,World.alloc_heap_new w _⟩,List.pairwise_singleton _ _⟩ (fun d aZ hB ns=>by
            simp only [sK] at aZ;subst aZ
            cases ns;exact ⟨yy,sc _⟩) yw
          (have bP:(w.alloc (.deferred (some []))).heap.size=w.heap.size+1:=by simp);rw [bP] at e6;exact ⟨_,_,_,_,_,k,_,_,run_enterLoop_outer fn' a.tmps bh as bY,kA _ _,fun _ _=>trivial,hinv _ _,yB,e6⟩
         ·have cp:=l7 b'.H;simp only [inLoop] at gX;split at gX
          ·rename_i bD;obtain ⟨_,_,ar,oo,aB,aH,aR,_⟩:=aK.H.obj cv _ bD;rw [ag] at aB;cases aB;have e6:=zT (.inr ⟨dx,rfl⟩) bt b' l9 pb bO.1 bO.2 ao ak cJ (bg.refl _ _ _) cp (fn':=fn') (dfr:=oo.defers)
            (mark:=[]) ⟨aK.M.1,fun d aZ=>by simp at aZ,List.Pairwise.nil⟩ (fun d aZ=>by simp at aZ) yw
           exact ⟨_,_,_,_,_,k,_,_,run_enterLoop_inner aR fn' a.tmps bh as bY,kA _ _,fun _ _=>trivial,hinv _ _,yB,e6⟩
          ·simp at gX
     ·simp at h
    ·simp at h
   ·simp at h
end
end Go.Proofs.YtfakoboiahbhaaaGreat.Ab


namespace Go.Proofs.YtfakoboiahbhaaaGreat.Ab
open Go
def hI (U:Nat→Option aI):Nat→Option aI:=fun b=>match U b with
 | some (.arg i)=>some (.slot i)
 | some (.obj id)=>some (.obj id)
 | some (.cell id j)=>some (.cell id j)
 | _=>none
def kW (t:Nat) (U:Nat→Option aI):Nat→Option aI:=fun b=>match U b with
 | some (.slot i)=>if i=t then some .res else none
 | some (.obj id)=>some (.obj id)
 | some (.cell id j)=>some (.cell id j)
 | _=>none
section
variable {P:Program} {B N:Nat} {J:List Nat} {w:World} {H:List au} {U:Nat→Option aI} {S:Nat→Nat→Prop}
theorem relabel {az:Nat→Option aI} (ah:aL B U J S w H) (ad:∀ b,U b=none→az b=none) (af:∀ b l,U b=some l→((∃ id,l=.obj id)∨∃ id j,l=.cell id j)→az b=some l) :
  bg U S w az S w∧aL B az J S w H:=by
 have aN:∀ b,az b≠none→U b≠none:=fun b h aS=>h (ad b aS);refine ⟨⟨rfl,rfl,rfl,sc _,fun _ _ _=>rfl,fun _ _ h=>⟨h,rfl⟩,fun _ _ h=>.inl h,fun b h=>.inl (aN b h)⟩,⟨ah.cE,fun id o aq=>?_,ah.cf,fun b l ag=>?_,ah.cX⟩⟩
 ·refine (ah.obj id o aq).frame (Ext.refl J) (fun _ _ h=>⟨h,rfl⟩) fun b l ag ak=>⟨af b l ag ?_,rfl,fun _ h=>h⟩;rcases ak with rfl | ⟨j,rfl⟩
  ·exact .inl ⟨id,rfl⟩
  ·exact .inr ⟨id,j,rfl⟩
 ·cases h:U b with
  | none=>rw [ad b h] at ag;cases ag
  | some l'=>exact ah.base b l' h
theorem oc (ah:aL B U J S w H):bg U S w (hI U) S w∧aL B (hI U) J S w H :=
 relabel ah (fun b h=>by simp [hI,h]) fun b l h ak=>by
  rcases ak with ⟨id,rfl⟩ | ⟨id,j,rfl⟩ <;> simp [hI,h]
theorem D4 (t:Nat) (ah:aL B U J S w H):bg U S w (kW t U) S w∧aL B (kW t U) J S w H :=
 relabel ah (fun b h=>by simp [kW,h]) fun b l h ak=>by
  rcases ak with ⟨id,rfl⟩ | ⟨id,j,rfl⟩ <;> simp [kW,h]
theorem xN (ah:aL B U J S w H) {args:List I} {vs:List Value} (ae:a9 (fun i=>.arg i) U J S w args vs) (n:Nat) :
  ct B w.heap.size (hI U) J S w ⟨args++List.replicate (n-args.length) .junk,H⟩ { tmps:=vs.toArray++Array.replicate (n-vs.toArray.size) undef,defers:=[] }:=by
 have ak:=ae.len;refine ⟨?_,(oc ah).2,sc _,fun d aZ=>by simp at aZ,List.Pairwise.nil⟩;have l8:(vs.toArray++Array.replicate (n-vs.toArray.size) undef).toList=vs++List.replicate (n-vs.length) undef:=by simp
 simp only [l8];have key:∀ (i:Nat) (u:I) (v:Value),(args++List.replicate (n-args.length) .junk)[i]?=some u→(vs++List.replicate (n-vs.length) undef)[i]?=some v →
   Rel J S w u v∧aV (hI U) J S w (.slot i) u v:=fun i u v hu al=>by
  rcases sR i args.length with ad | ad
  ·rw [sB ad] at hu;rw [sB (by omega)] at al;exact ⟨ae.rel i u v hu al,(ae.own i u v hu al).mono (Ext.refl J) (fun _ _ h=>⟨h,rfl⟩) fun b ag=>⟨by simp [hI,ag],rfl,fun _ h=>h⟩⟩
  ·rw [sJ ad] at hu;rw [List.getElem?_replicate] at hu;split at hu
   ·cases hu;exact ⟨.junk v,aV.b3 rfl⟩
   ·simp at hu
 exact ⟨by simp [ak],fun i u v hu al=>(key i u v hu al).1,fun i u v hu al=>(key i u v hu al).2⟩
theorem nE {fn:Func} {tmps:Array Value} {R:Ending→World→Prop} {lf:Nat→Option aI} {S0:Nat→Nat→Prop} {w0:World} :
  ∀ (ds:List Deferred) (w:World),(∀ d∈ds,∃ r,d.target=.collected r∧w0.heap.size≤r∧U r=none∧w.heap[r]?=some (.deferred (some [])))→ds.Pairwise (fun a b=>a.target≠b.target)→bg lf S0 w0 U S w→aL B U J S w H →
    (∀ w',(∀ b l,U b=some l→w'.heap[b]?=w.heap[b]?)→(∀ b o,S b o→w'.cell? ⟨b,o,none⟩=w.cell? ⟨b,o,none⟩)→bg lf S0 w0 U S w'→aL B U J S w' H→∃ v,(results fn tmps).run P w'=.ok v w'∧R (.returned v) w')→LeavesInM Fence.wide 0 P fn tmps R ds .returning w
 | [],w,_,_,aA,ah,jw=>jw w (fun _ _ _=>rfl) (fun _ _ _=>rfl) aA ah
 | d::ds,w,aZ,aC,aA,ah,jw=>by
   obtain ⟨r,ad,af,aG,a6⟩:=aZ d (by simp);have aj:r<w.heap.size:=(sW.1 a6).1;(have bP:(w.putObj r (.deferred none)).heap.size=w.heap.size:=by simp [World.putObj]);have h2:∀ b,b≠r→(w.putObj r (.deferred none)).heap[b]?=w.heap[b]?:=fun b h=>World.putObj_heap_other h;have bM:∀ b o,S b o→b≠r:=fun b o ai e=>by
    subst e;obtain ⟨v,ae⟩:=ah.cf b o ai;simp [World.cell?,a6] at ae
   have bu:∀ b o,b≠r→(w.putObj r (.deferred none)).cell? ⟨b,o,none⟩=w.cell? ⟨b,o,none⟩:=fun b o h=>by
    simp only [World.cell?,h2 b h]
   (have kt:∀ b l,U b=some l→b≠r:=fun b l h e=>by subst e;rw [aG] at h;cases h);have da:bg lf S0 w0 U S (w.putObj r (.deferred none)):=by
    refine ⟨aA.os,aA.tape,aA.output,by rw [bP];exact aA.size,fun b ag aN=>?_,fun b o ai=>?_,aA.fresh,aA.own⟩
    ·rw [h2 b (by omega)];exact aA.cD b ag aN
    ·obtain ⟨aJ,aP⟩:=aA.set b o ai;exact ⟨aJ,(bu b o (bM b o aJ)).trans aP⟩
   have cm:∀ b o,S b o→S b o∧(w.putObj r (.deferred none)).cell? ⟨b,o,none⟩=w.cell? ⟨b,o,none⟩:=fun b o ai=>⟨ai,bu b o (bM b o ai)⟩;have fA:aL B U J S (w.putObj r (.deferred none)) H :=
    ⟨ah.cE,fun id o aq=>(ah.obj id o aq).frame (Ext.refl J) cm fun b l ag _=>⟨ag,h2 b (kt b l ag),fun _ h=>h⟩,fun b o ai=>by
     obtain ⟨v,ae⟩:=ah.cf b o ai
     exact ⟨v,(bu b o (bM b o ai)).trans ae⟩,fun b l ag=>by rw [bP];exact ah.base b l ag,by rw [bP];exact ah.cX⟩
   refine ⟨by simp,.inl ⟨r,_,ad,run_takeDeferred a6,?_⟩⟩;have yQ:=tB.1 aC;refine nE ds _ (fun gQ ng=>?_) yQ.2 da fA (fun w' dc aJ aP cj=>jw w' (fun b l h=>(dc b l h).trans (h2 b (kt b l h))) (fun b o h=>(aJ b o h).trans (bu b o (bM b o h))) aP cj)
   ·obtain ⟨r',q1,aW,cz,dP⟩:=aZ gQ (by simp [ng])
    have:r'≠r:=fun e=>yQ.1 gQ ng (by rw [ad,q1,e])
    exact ⟨r',q1,aW,cz,(h2 r' this).trans dP⟩
end
end Go.Proofs.YtfakoboiahbhaaaGreat.Ab


namespace Go.Proofs.YtfakoboiahbhaaaGreat.Ab
open Go
section
variable {P:Program} {B N:Nat} {J:List Nat} {w:World} {H:List au} {U:Nat→Option aI} {S:Nat→Nat→Prop}
theorem oS {bz:Nat→aI} {T:List I} {bd:Array Value} (bX:a9 bz U J S w T bd.toList) (t:Nat):Rel J S w (c4 T t) (bd.getD t undef)∧aV U J S w (bz t) (c4 T t) (bd.getD t undef):=by
 rw [fS,sE];cases h:T[t]? with
 | none=>exact ⟨.junk _,aV.b3 rfl⟩
 | some u =>
   have ak:=bX.len;have aU:t<T.length:=(sa.1 h).1;(have l0:t<bd.size:=by rw [←Array.length_toList,←ak];exact aU);(have al:bd.toList[t]?=some (bd.getD t undef):=by simp [ss,l0]);exact ⟨bX.rel t u _ h al,bX.own t u _ h al⟩
theorem mG (ah:aL B U J S w H) {T:List I} {bd:Array Value} (bX:a9 .slot U J S w T bd.toList) {g:ResultVar→Sem Value} (cb:∀ t,g (.tmp t)=pure (bd.getD t undef))
  (b8:∀ a t,g (.cell a t)=do loadVar t (←asAddr (bd.getD a undef))):∀ (rs:List ResultVar) (vs:List I),fc P H T rs=some vs →
  ∃ xs,(rs.mapM g).run P w=.ok xs w∧vs.length=xs.length∧∀ (j:Nat) (u:I) (x:Value),vs[j]?=some u→xs[j]?=some x→Rel J S w u x∧((u.plain=true∧True)∨∃ t,(u=c4 T t∧x=bd.getD t undef)∧aV U J S w (.slot t) u x)
 | [],vs,h=>by
   simp only [fc,Option.some.injEq] at h;subst h;exact ⟨[],by simp,rfl,by simp⟩
 | .tmp t::r,vs,h=>by
   simp only [fc,rZ] at h;obtain ⟨du,h,rfl⟩:=h;obtain ⟨xs,q1,aW,cz⟩:=mG ah bX cb b8 r du h;obtain ⟨r1,r2⟩:=oS bX t;refine ⟨bd.getD t undef::xs,by rw [vS];simp [cb,q1],by simp [aW],fun j u x hu al=>?_⟩;cases j with
   | zero=>simp only [ur,Option.some.injEq] at hu al;subst hu al;exact ⟨r1,.inr ⟨t,⟨rfl,rfl⟩,r2⟩⟩
   | succ j=>exact cz j u x (by simpa using hu) (by simpa using al)
 | .cell a t::r,vs,h=>by
   simp only [fc] at h;split at h
   ·rename_i v du ae h6;simp only [Option.some.injEq] at h;subst h;obtain ⟨xs,q1,aW,cz⟩:=mG ah bX cb b8 r du h6;have aj:=(oS bX a).1;obtain ⟨x,aJ,aP,cj⟩:=k2 ah ae aj;have aC:∃ lr,bd.getD a undef=.pointer (some lr):=by
     unfold dR at ae;generalize bd.getD a undef=GI at aj ⊢;split at ae
     ·rename_i heq;rw [heq] at aj;cases aj;exact ⟨_,rfl⟩
     ·rename_i heq;rw [heq] at aj;cases aj;exact ⟨_,rfl⟩
     ·simp at ae
    obtain ⟨lr,aC⟩:=aC;rw [aC] at aJ;(have Dg:(loadVar t lr).run P w=.ok x w:=by simpa [Instr.loadAt,Instr.sureAddr] using aJ);refine ⟨x::xs,by rw [vS];simp [b8,aC,asAddr,Dg,q1],by simp [aW],fun j u y hu al=>?_⟩;cases j with
    | zero=>simp only [ur,Option.some.injEq] at hu al;subst hu al;exact ⟨aP,.inl ⟨cj,trivial⟩⟩
    | succ j=>exact cz j u y (by simpa using hu) (by simpa using al)
   ·simp at h
theorem xr (ah:aL B U J S w H) {T:List I} {bd:Array Value} (bX:a9 .slot U J S w T bd.toList) {fn:Func} {vs:List I} (h:fc P H T fn.results.toList=some vs) :
  ∃ v,(results fn bd).run P w=.ok v w∧a1 B U J S w H (g' vs) v w:=by
 have run:∀ xs,(fn.results.toList.mapM (fun (x:ResultVar)=>match x with | .tmp t=>(pure (bd.getD t undef):Sem Value) | .cell a t=>do loadVar t (←asAddr (bd.getD a undef)))).run P w=.ok xs w →
   (results fn bd).run P w=.ok (if h:xs.toArray.size=1 then xs.toArray[0] else .tuple xs.toArray) w:=fun xs al=>by
  have aO:results fn bd=(do
    let vs ←fn.results.mapM (fun (x:ResultVar)=>match x with | .tmp t=>(pure (bd.getD t undef):Sem Value) | .cell a t=>do loadVar t (←asAddr (bd.getD a undef)))
    pure (if h:vs.size=1 then vs[0] else .tuple vs)):=by
   unfold results;congr 1
  rw [aO,Array.mapM_eq_mapM_toList];simp only [Sem.run_bind,Sem.run_map,al,Result.andThen_ok,Sem.run_pure]
 match vs,h with
 | [u],h =>
   obtain ⟨xs,q1,aW,cz⟩:=mG ah bX (g:=fun x=>match x with | .tmp t=>pure (bd.getD t undef) | .cell a t=>do loadVar t (←asAddr (bd.getD a undef))) (fun _=>rfl) (fun _ _=>rfl) _ _ h
   match xs,aW with
   | [x],_ =>
     obtain ⟨r1,r2⟩:=cz 0 u x rfl rfl;refine ⟨x,by rw [run _ q1];rfl,?_⟩;rcases r2 with ⟨aC,_⟩ | ⟨t,_,aq⟩
     ·exact a1.same ah r1 aC
     ·obtain ⟨aA,cc⟩:=D4 t ah;exact ⟨kW t U,J,S,Ext.refl J,aA,cc,r1,aq.mono (Ext.refl J) (fun _ _ h=>⟨h,rfl⟩) fun b ag=>⟨by simp [kW,ag],rfl,fun _ h=>h⟩⟩
 | [],h =>
   obtain ⟨xs,q1,aW,cz⟩:=mG ah bX (g:=fun x=>match x with | .tmp t=>pure (bd.getD t undef) | .cell a t=>do loadVar t (←asAddr (bd.getD a undef))) (fun _=>rfl) (fun _ _=>rfl) _ _ h
   match xs,aW with
   | [],_=>exact ⟨.tuple #[],by rw [run _ q1];rfl,a1.same ah (.tuple [] #[] rfl (by simp) (by simp)) rfl⟩
 | fq::gf::us,h =>
   obtain ⟨a4,dr,dj,bW,kn,o0⟩:=AL T bd.toList .slot S (fun i j h=>by cases h;rfl) (fun i id=>by simp) (fun i id j=>by simp) bX ah;have da:bg U S w U a4 w:=bg.settle dr fun b o h=>(dj b o h).imp id fun ⟨i,h⟩=>⟨_,h⟩;obtain ⟨xs,q1,aW,cz⟩:=mG ah bX (g:=fun x=>match x with | .tmp t=>pure (bd.getD t undef) | .cell a t=>do loadVar t (←asAddr (bd.getD a undef))) (fun _=>rfl) (fun _ _=>rfl) _ _ h
   refine ⟨.tuple xs.toArray,by
    rw [run _ q1]
    have:¬ xs.toArray.size=1:=by simp at aW ⊢;omega
    rw [dif_neg this],a1.after (Ext.refl J) da (a1.same bW (.tuple _ _ (by simp at aW ⊢;omega) ?_ ?_) rfl)⟩
   ·intro y a0;obtain ⟨x,_,rfl⟩:=sm.1 a0;exact I.df x
   ·intro j y x a0 al;simp only [sr,rZ] at a0;obtain ⟨u,hu,rfl⟩:=a0;obtain ⟨r1,r2⟩:=cz j u x hu (by simpa using al);rcases r2 with ⟨aC,_⟩ | ⟨t,⟨rfl,rfl⟩,_⟩
    ·rw [I.ka aC];exact r1.mono (Ext.refl J) fun b o h=>⟨dr b o h,rfl⟩
    ·have:=(oS o0 t).1;have ae:c4 (T.map I.view) t=(c4 T t).view:=by
      rw [fS,fS,sE,sE,sr];cases T[t]? <;> rfl
     rw [ae] at this;exact this
end
end Go.Proofs.YtfakoboiahbhaaaGreat.Ab


namespace Go.Proofs.YtfakoboiahbhaaaGreat.Ab
open Go
def gJ (bh:List Nat) (U:Nat→Option aI):Nat→Option aI:=fun b=>match U b with
 | some (.arg i)=>(bh[i]?).map .slot
 | some (.obj id)=>some (.obj id)
 | some (.cell id j)=>some (.cell id j)
 | _=>none
section
variable {P:Program} {B N:Nat} {J:List Nat} {w:World} {H:List au} {U:Nat→Option aI} {S:Nat→Nat→Prop}
theorem A7 (bh:List Nat) (ah:aL B U J S w H):bg U S w (gJ bh U) S w∧aL B (gJ bh U) J S w H :=
 relabel ah (fun b h=>by simp [gJ,h]) fun b l h ak=>by
  rcases ak with ⟨id,rfl⟩ | ⟨id,j,rfl⟩ <;> simp [gJ,h]
theorem xJ:∀ (bh:List Nat) (us:List I) (T a7:List I) (xs bd:List Value),hf bh us T=some a7→us.length=xs.length→T.length=bd.length →
  bh.length=us.length∧a7.length=T.length∧((bh.zip xs).foldl (fun (l:List Value) (p:Nat×Value)=>l.set p.1 p.2) bd).length=bd.length ∧
  ∀ (i:Nat) (u:I) (x:Value),a7[i]?=some u→((bh.zip xs).foldl (fun (l:List Value) (p:Nat×Value)=>l.set p.1 p.2) bd)[i]?=some x →
    (T[i]?=some u∧bd[i]?=some x)∨∃ (j:Nat),bh[j]?=some i∧us[j]?=some u∧xs[j]?=some x
 | [],[],T,a7,xs,bd,h,ak,ax=>by
   simp only [hf,Option.some.injEq] at h;subst h;exact ⟨rfl,rfl,by simp,fun i u x hu al=>.inl ⟨hu,by simpa using al⟩⟩
 | p::bh,xT::us,T,a7,jd::xs,bd,h,ak,ax=>by
   simp only [hf,gI] at h;obtain ⟨ad,af,aG,a6⟩:=xJ bh us (T.set p xT) a7 xs (bd.set p jd) h (by simpa using ak) (by simpa using ax);refine ⟨by simp [ad],by simpa using af,by simpa using aG,fun i u x hu al=>?_⟩;rcases a6 i u x hu (by simpa using al) with ⟨aJ,aP⟩ | ⟨j,aJ,aP,cj⟩
   ·by_cases yP:p=i
    ·subst yP;(have dJ:p<T.length:=by have:=(sa.1 aJ).1;simpa using this);(have kI:p<bd.length:=by omega);rw [sg dJ] at aJ;rw [sg kI] at aP;exact .inr ⟨0,rfl,by simpa using aJ,by simpa using aP⟩
    ·rw [si yP] at aJ aP;exact .inl ⟨aJ,aP⟩
   ·exact .inr ⟨j+1,by simpa using aJ,by simpa using aP,by simpa using cj⟩
 | [],_::_,T,a7,xs,bd,h,ak,ax=>by simp [hf] at h
 | _::_,[],T,a7,xs,bd,h,ak,ax=>by simp [hf] at h
 | _::_,_::_,T,a7,[],bd,h,ak,ax=>by simp at ak
theorem Ap (L:Loop) (vs:List Value):(hD L vs).toList=(L.params.toList.zip vs).foldl (fun (l:List Value) (p:Nat×Value)=>l.set p.1 p.2) L.tmps.toList:=by
 unfold hD;rw [←Array.foldl_toList,Array.toList_zip];generalize L.params.toList.zip vs=gg;generalize L.tmps=bd
 induction gg generalizing bd with
 | nil=>rfl
 | cons z gg a_=>simp only [List.foldl_cons];rw [a_];simp
theorem ct.loop {s:a5} {a:Act} (aK:ct B N U J S w s a) {id b:Nat} {L:Loop} {st:LoopState} {cF:Option Code} {fn:FuncId} {T:List I} {bh:List Nat} {as bY:Code} {an:c7}
  (aE:s.H[id]?=some (.loop st cF fn T bh as bY an)) (ag:J[id]?=some b) (fi:w.heap[b]?=some (.loop L)) (hg:LoopState) (ha:Option Code) :
  bg U S w U S (w.putObj b (.loop { L with state:=hg,pending:=ha }))∧ct B N U J S (w.putObj b (.loop { L with state:=hg,pending:=ha })) ⟨s.T,s.H.set id (.loop hg ha fn T bh as bY an)⟩ a:=by
 obtain ⟨aA,ah,_⟩:=Dv aK.H aE ag fi hg ha;obtain ⟨_,_,ar,oo,aB,aH,_⟩:=aK.H.obj id _ aE;rw [ag] at aB;cases aB;refine ⟨aA,⟨⟨aK.T.len,fun i u v hu ae=>(aK.T.rel i u v hu ae).mono (Ext.refl J) aA.set,fun i u v hu ae=>?_⟩,ah,aK.M.aA aA⟩⟩;refine (aK.T.own i u v hu ae).mono (Ext.refl J) aA.set fun ar bp=>⟨bp,World.putObj_heap_other (fun e=>?_),fun _ h=>h⟩;subst e;rw [aH] at bp;cases bp
theorem BJ (dH:P.follows .mixedOrders=true) {C:b6} (bt:c_ P C) {k:Nat} {f:Func} {c:Code} (aQ:P.funcs[k]?=some f) (ag:f.body=some c) {A:c7} (bO:codeOk A c=true)
  {lo d:Nat} {args:List I} {e:cB} {s:a5} (h:exec P A C k lo d none c 0 ⟨args++List.replicate (f.ntmps-args.length) .junk,H⟩=some (e,s)) (he:e=.normal∨e=.ret) {vs:List I}
  (aj:fc P s.H s.T f.results.toList=some vs) {xs:List Value} (ah:aL B U J S w H) (ae:a9 (fun i=>.arg i) U J S w args xs) :
  CallsIn Fence.wide 0 P k xs.toArray w (fs B U J S w s.H (g' vs)):=by
 refine callsIn_of_wp_marks aQ ag trivial ?_;have aK:=xN ah ae f.ntmps;have da:=(oc ah).1;refine m_ bt dH c 0 _ _ _ h bO Fence.wide _ B w.heap.size J w (hI U) S _ (.inl ⟨rfl,rfl⟩) (fun l a w aO=>aO.elim) aK fun aM w' ai=>?_;obtain ⟨b2,cQ,a4,aJ,aP,b'⟩:=ai;have iI:LeavesInM Fence.wide 0 P f aM.tmps (fs B U J S w s.H (g' vs)) aM.defers .returning w':=by
  refine nE (U:=b2) (S:=a4) (J:=cQ) (B:=B) (H:=s.H) (lf:=U) (S0:=S) (w0:=w) aM.defers w' b'.M.2.1 b'.M.2.2 (da.trans aP) b'.H fun bT dr dj mh mi=>?_
  have bX:a9 .slot b2 cQ a4 bT s.T aM.tmps.toList:=⟨b'.T.len,fun i u v hu ae=>(b'.T.rel i u v hu ae).mono (Ext.refl _) (fun b o h=>⟨h,dj b o h⟩),fun i u v hu ae =>
   (b'.T.own i u v hu ae).mono (Ext.refl _) (fun b o h=>⟨h,dj b o h⟩) fun b ag=>⟨ag,dr b _ ag,fun _ h=>h⟩⟩
  obtain ⟨v,q1,aW⟩:=xr mi bX aj;exact ⟨v,q1,a1.after aJ mh aW⟩
 rcases he with rfl | rfl
 ·exact iI
 ·exact iI
end
end Go.Proofs.YtfakoboiahbhaaaGreat.Ab


namespace Go.Proofs.YtfakoboiahbhaaaGreat.Ab
open Go
section
variable {P:Program} {B N:Nat} {J:List Nat} {w:World} {H:List au} {U:Nat→Option aI} {S:Nat→Nat→Prop}
def k1 (l:Nat) (H:List au) (fn:FuncId) (T:List I) (bh:List Nat) (as bY:Code) (an:c7):cB→I×List au
 | .normal=>(.bool true,H.set l (.loop .ready none fn T bh as bY an))
 | .ret=>(.bool false,H.set l (.loop .done (some .ret) fn T bh as bY an))
 | .exit id=>(.bool false,H.set l (.loop .done (some (.exit id)) fn T bh as bY an))
theorem BK (dH:P.follows .mixedOrders=true) {C:b6} (bt:c_ P C) {l lo d:Nat} {fn fn':FuncId} {jV cF:Option Code} {T a7 dQ dC:List I} {bh gD fK:List Nat} {as bY gq gr fw fx:Code} {an gn fv:c7} {fR fz:FuncId} {args:List I}
  (ak:H[l]?=some (.loop .ready jV fn T bh as bY an)) (eg:hf bh args T=some a7) {s1 s2:a5} {e:cB} {jW:Option Code}
  (ad:exec P an C fn lo d (some l) as 0 ⟨a7,H⟩=some (.normal,s1)) (hx:s1.H[l]?=some (.loop .ready cF fR dQ gD gq gr gn))
  (af:exec P an C fn' lo d (some l) bY 0 ⟨s1.T,s1.H.set l (.loop .busy cF fR dQ gD gq gr gn)⟩=some (e,s2)) (e9:s2.H[l]?=some (.loop .busy jW fz dC fK fw fx fv))
  {xs:List Value} {b:Nat} (ah:aL B U J S w H) (ae:a9 (fun i=>.arg i) U J S w args xs) (ag:J[l]?=some b) :
  ∃ L,w.heap[b]?=some (.loop L)∧xs.length=L.params.size ∧
    RoundIn Fence.wide 0 P b L.fn (hD L xs) L.assign L.body w (fs B U J S w (k1 l s2.H fz dC fK fw fx fv e).2 (k1 l s2.H fz dC fK fw fx fv e).1):=by
 obtain ⟨a',bk,ar,L,aB,aH,aR,bj,bb,bf,c0,c',dD,fu,ou⟩:=ah.obj l _ ak;rw [ag] at aB;cases aB;have cJ:=xJ bh args T a7 xs L.tmps.toList eg ae.len (by simpa using c0.symm);obtain ⟨cb,b8,dY,hn⟩:=cJ;refine ⟨L,aR,by rw [←ae.len,←cb,←dD];simp,?_⟩;refine roundIn_of_wpIn trivial ?_;have l8:(hD L xs).toList=(bh.zip xs).foldl (fun (l:List Value) (p:Nat×Value)=>l.set p.1 p.2) L.tmps.toList:=by rw [Ap,dD]
 obtain ⟨da,fA⟩:=A7 bh ah;have aK:ct B w.heap.size (gJ bh U) J S w ⟨a7,H⟩ { tmps:=hD L xs,defers:=[] }:=by
  refine ⟨?_,fA,sc _,fun d aZ=>by simp at aZ,List.Pairwise.nil⟩;simp only [l8];have key:∀ (i:Nat) (u:I) (x:Value),a7[i]?=some u→((bh.zip xs).foldl (fun (l:List Value) (p:Nat×Value)=>l.set p.1 p.2) L.tmps.toList)[i]?=some x →
    Rel J S w u x∧aV (gJ bh U) J S w (.slot i) u x:=fun i u x hu al=>by
   rcases hn i u x hu al with ⟨aJ,aP⟩ | ⟨j,aJ,aP,cj⟩
   ·obtain ⟨bR,b4⟩:=c' i u x aJ (by simpa using aP);exact ⟨b4,aV.b3 bR⟩
   ·exact ⟨ae.rel j u x aP cj,(ae.own j u x aP cj).mono (Ext.refl J) (fun _ _ h=>⟨h,rfl⟩) fun b ag=>⟨by simp [gJ,ag,aJ],rfl,fun _ h=>h⟩⟩
  exact ⟨by rw [b8,dY,←c0];simp,fun i u x hu al=>(key i u x hu al).1,fun i u x hu al=>(key i u x hu al).2⟩
 rw [fu,ou];refine m_ bt dH as 0 _ _ _ ad a' _ _ B w.heap.size J w (gJ bh U) S _ (.inr ⟨l,b,rfl,ag,rfl⟩) (fun l a w aO=>aO) aK fun aB bC ai=>?_;obtain ⟨b2,cQ,a4,aJ,aP,b'⟩:=ai;have eT:cQ[l]?=some b:=aJ _ _ ag;obtain ⟨_,_,ar,jh,d1,d2,d3,d4,d5,_⟩:=b'.H.obj l _ hx;rw [eT] at d1;cases d1;obtain ⟨dX,oV⟩:=b'.loop hx eT d3 .busy cF;have o3:(Instr.beginRound b).run P bC=.ok () (bC.putObj b (.loop { jh with state:=.busy,pending:=cF })):=by
  rw [run_beginRound d3 d4]
  have:({ jh with state:=.busy,pending:=cF }:Loop)={ jh with state:=.busy }:=by rw [←d5]
  rw [this]
 refine ⟨_,o3,?_⟩;refine wpIn_mono (Q:=fun cM aM w'=>(∀ t,cM≠Exit.goto t)∧roundPost P b (fs B U J S w (k1 l s2.H fz dC fK fw fx fv e).2 (k1 l s2.H fz dC fK fw fx fv e).1) cM aM w') ?_ (fun e a w h=>h.2);refine m_ bt dH bY 0 _ _ _ af bk _ _ B w.heap.size cQ _ b2 a4 _ (.inr ⟨l,b,rfl,eT,rfl⟩) (fun l a w aO=>aO.1 l rfl) oV fun aH bT ai=>?_;obtain ⟨bn,cg,bH,cj,jM,lJ⟩:=ai;have fj:cg[l]?=some b:=cj _ _ eT;obtain ⟨_,_,ar,iq,f1,f2,f3,f4,f5,_⟩:=lJ.H.obj l _ e9;rw [fj] at f1;cases f1;have ju:bg U S w bn bH bT:=((da.trans aP).trans dX).trans jM;have fin:∀ (st:LoopState) (jump:Option Code),a1 B U J S w (s2.H.set l (.loop st jump fz dC fK fw fx fv)) (.bool jump.isNone) (.bool jump.isNone) (bT.putObj b (.loop { iq with state:=st,pending:=jump })):=fun st jump=>by
  obtain ⟨oL,oW⟩:=lJ.loop e9 fj f3 st jump;exact ⟨bn,cg,bH,aJ.trans cj,ju.trans oL,oW.H,.bool _,aV.b3 rfl⟩
 refine ⟨fun t ax=>(by cases e <;> cases ax),?_⟩;cases e with
 | normal=>exact ⟨_,_,run_endRound none f3,fin .ready none⟩
 | ret=>exact ⟨_,_,run_endRound (some .ret) f3,fin .done (some .ret)⟩
 | exit id=>exact ⟨_,_,run_endRound (some (.exit id)) f3,fin .done (some (.exit id))⟩
theorem BL (dH:P.follows .mixedOrders=true) (A:FuncId→c7) {tab:b6} (ax:c_ P tab)
  (bO : ∀ k f c, (A k).bad = false → P.funcs[k]? = some f → f.body = some c → codeOk (A k) c = true ∧ f.name ≠ "runtime.NumGoroutine") : ∀ d, c_ P (fP P A tab d)
 | 0=>⟨fun h=>by simp [fP] at h,fun h=>by simp [fP] at h⟩
 | d+1=>by
   have bt:=BL dH A ax bO d;have yq:∀ {k:FuncId} {args:List I} {H:List au} {lo:Nat} {r:I} {H':List au},fP P A tab (d+1) (.fn k) args H lo=some (r,H')→tab (.fn k) args H lo=some (r,H') ∨
     ∃ f c e s vs,(A k).bad=false∧P.funcs[k]?=some f∧f.body=some c∧exec P (A k) (fP P A tab d) k lo d none c 0 ⟨args++List.replicate (f.ntmps-args.length) .junk,H⟩=some (e,s)∧(e=.normal∨e=.ret) ∧
       fc P s.H s.T f.results.toList=some vs∧r=g' vs∧H'=s.H:=fun {k args H lo r H'} h=>by
    simp only [fP] at h;split at h
    ·rename_i x al;cases h;exact .inl al
    ·right;split at h
     ·simp at h
     rename_i nc;split at h
     ·rename_i f aQ;split at h
      ·rename_i c ag;split at h
       ·rename_i s ai;simp only [rZ,Prod.mk.injEq] at h;obtain ⟨vs,aj,rfl,rfl⟩:=h;exact ⟨f,c,_,s,vs,nc,aQ,ag,ai,.inl rfl,aj,rfl,rfl⟩
       ·rename_i s ai;simp only [rZ,Prod.mk.injEq] at h;obtain ⟨vs,aj,rfl,rfl⟩:=h;exact ⟨f,c,_,s,vs,nc,aQ,ag,ai,.inr rfl,aj,rfl,rfl⟩
       ·simp at h
      ·simp at h
     ·simp at h
   have Bi:∀ {l:Nat} {args:List I} {H:List au} {lo:Nat} {r:I} {H':List au},fP P A tab (d+1) (.yield l) args H lo=some (r,H') →
     ∃ jV fn T bh as bY an a7 s1 cF fR dQ gD gq gr gn e s2 jW fz dC fK fw fx fv,lo≤l∧H[l]?=some (.loop .ready jV fn T bh as bY an)∧hf bh args T=some a7 ∧
       exec P an (fP P A tab d) fn lo d (some l) as 0 ⟨a7,H⟩=some (.normal,s1)∧s1.H[l]?=some (.loop .ready cF fR dQ gD gq gr gn) ∧
       exec P an (fP P A tab d) fR lo d (some l) bY 0 ⟨s1.T,s1.H.set l (.loop .busy cF fR dQ gD gq gr gn)⟩=some (e,s2)∧s2.H[l]?=some (.loop .busy jW fz dC fK fw fx fv) ∧
       (r,H')=k1 l s2.H fz dC fK fw fx fv e:=fun {l args H lo r H'} h=>by
    simp only [fP] at h;split at h
    ·simp at h
    ·rename_i bD;split at h
     ·rename_i jV fn T bh as bY an ak;split at h
      ·rename_i a7 eg;split at h
       ·rename_i s1 ad;split at h
        ·rename_i cF fR dQ gD gq gr gn hx;split at h
         ·rename_i e s2 af;split at h
          ·rename_i jW fz dC fK fw fx fv e9;refine ⟨jV,fn,T,bh,as,bY,an,a7,s1,cF,fR,dQ,gD,gq,gr,gn,e,s2,jW,fz,dC,fK,fw,fx,fv,by omega,ak,eg,ad,hx,af,e9,?_⟩;cases e <;> simp only [Option.some.injEq] at h <;> exact h.symm
          ·simp at h
         ·simp at h
        ·simp at h
       ·simp at h
      ·simp at h
     ·simp at h
   refine ⟨fun {b0 args H lo r H'} h=>?_,fun {b0 args H lo r H'} h=>?_⟩
   ·cases b0 with
    | fn k =>
      rcases yq h with h | ⟨f,c,e,s,vs,_,_,_,aG,_,_,_,rfl⟩
      ·exact ax.low h
      ·exact oO bt c 0 _ e s aG
    | yield l =>
      obtain ⟨jV,fn,T,bh,as,bY,an,a7,s1,cF,fR,dQ,gD,gq,gr,gn,e,s2,jW,fz,dC,fK,fw,fx,fv,bD,ak,eg,ad,hx,af,e9,aj⟩:=Bi h;have dd:=oO bt as 0 _ _ s1 ad;have de:=oO bt bY 0 _ e s2 af;(have jN:ba lo s2.H (k1 l s2.H fz dC fK fw fx fv e).2:=by cases e <;> exact ba.set _ _ bD);rw [←aj] at jN;exact (dd.trans ((ba.set s1.H _ bD).trans de)).trans jN
   ·cases b0 with
    | fn k =>
      rcases yq h with h | ⟨f,c,e,s,vs,nc,aQ,ag,aG,he,aj,rfl,rfl⟩
      ·exact ax.ok h
      obtain ⟨bA,bQ⟩:=bO k f c nc aQ ag;exact ⟨⟨f,aQ,by simp [ag],bQ⟩,fun B U J S w xs ah _ ae=>BJ dH bt aQ ag bA aG he aj ah ae⟩
    | yield l =>
      obtain ⟨jV,fn,T,bh,as,bY,an,a7,s1,cF,fR,dQ,gD,gq,gr,gn,e,s2,jW,fz,dC,fK,fw,fx,fv,bD,ak,eg,ad,hx,af,e9,aj⟩:=Bi h;intro B U J S w xs b ah _ ae ag;have:=BK dH bt ak eg ad hx af e9 ah ae ag;rw [←aj] at this;exact this
end
end Go.Proofs.YtfakoboiahbhaaaGreat.Ab


namespace Go.Proofs.YtfakoboiahbhaaaGreat.Ab
open Go
def Sem (P:Program) (b0:e3) (args:List I) (H:List au) (lo:Nat) (r:I) (H':List au):Prop:=ba lo H H'∧jk P b0 args H H' r
def lg (P:Program) (k:FuncId) (args:List I) (v:I):Prop:=Sem P (.fn k) args [] 0 v []∧cq 8 v=true
abbrev dg:=List (FuncId×List I×I)
def hj (P:Program) (acc:dg):Prop:=(∀ p∈acc,lg P p.1 p.2.1 p.2.2)∧∀ p∈acc,∀ q∈acc,p.1=q.1→p.2.1=q.2.1→p.2.2=q.2.2
def hM (C:b6) (acc:dg):Prop:=∀ p∈acc,∃ r a2,C (.fn p.1) p.2.1 [] 0=some (r,a2)∧bJ a2 0 a2.length 0 8 r=some p.2.2
section
variable {P:Program}
theorem oE {C:b6} (h:∀ b0 args H lo r H',C b0 args H lo=some (r,H')→Sem P b0 args H lo r H'):c_ P C :=
 ⟨fun ao=>(h _ _ _ _ _ _ ao).1,fun ao=>(h _ _ _ _ _ _ ao).2⟩
theorem c_.GC {C:b6} (bt:c_ P C) {b0:e3} {args:List I} {H:List au} {lo:Nat} {r:I} {H':List au} (h:C b0 args H lo=some (r,H')):Sem P b0 args H lo r H':=⟨bt.low h,bt.ok h⟩
theorem ye:c_ P (fun _ _ _ _=>none):=oE fun _ _ _ _ _ _ h=>by cases h
noncomputable def kP (b0:e3) (args:List I) (H:List au) (lo:Nat) (r:I) (H':List au):b6:=fun t a h l =>
 open Classical in if t=b0∧a=args∧h=H∧l=lo then some (r,H') else none
theorem D1 (b0:e3) (args:List I) (H:List au) (lo:Nat) (r:I) (H':List au):kP b0 args H lo r H' b0 args H lo=some (r,H'):=by simp [kP]
theorem D2 {b0:e3} {args:List I} {H:List au} {lo:Nat} {r:I} {H':List au} (h:Sem P b0 args H lo r H'):c_ P (kP b0 args H lo r H') :=
 oE fun t a aX l r' a2 ao=>by
  unfold kP at ao;split at ao
  ·rename_i he;obtain ⟨rfl,rfl,rfl,rfl⟩:=he;cases ao;exact h
  ·cases ao
theorem zs {f:I→Option I}:∀ {l:List I},(∀ u∈l,f u=some u)→eb f l=some l
 | [],_=>rfl
 | u::l,h=>by
   simp only [eb,h u (by simp),zs (l:=l) fun v ae=>h v (by simp [ae]),sd]
theorem oR {H:List au} {lo id0 n:Nat}:∀ {d:Nat} {v:I},cq d v=true→bJ H lo id0 n d v=some v
 | 0,v,h=>by simp [cq] at h
 | d+1,v,h=>by
   have key:∀ {l:List I},l.all (cq d)=true→eb (bJ H lo id0 n d) l=some l:=fun h=>zs fun u hu=>oR (by rw [sy] at h;exact h u hu);cases v <;> simp only [cq,tF] at h <;> try rfl
   case ay cells len c=>simp only [bJ,key h,sd]
   case bU cells=>simp only [bJ,key h,sd]
   case agg cs=>simp only [bJ,key h,sd]
   case tuple cs=>simp only [bJ,key h,sd]
   case func f a b =>
    simp only [sv] at h;simp only [bJ,key h.1,key h.2]
theorem ox {acc:dg} (h:hj P acc):∃ C,c_ P C∧hM C acc:=by
 classical
 obtain ⟨ad,af⟩:=h;have key:∀ x:e3×List I×List au×Nat,∃ o:Option (I×List au),(∀ r H',o=some (r,H')→Sem P x.1 x.2.1 x.2.2.1 x.2.2.2 r H') ∧
   ∀ p∈acc,x=(.fn p.1,p.2.1,[],0)→∃ r a2,o=some (r,a2)∧bJ a2 0 a2.length 0 8 r=some p.2.2:=fun x=>by
  by_cases al:∃ p∈acc,x=(.fn p.1,p.2.1,[],0)
  ·obtain ⟨p,aC,rfl⟩:=al;obtain ⟨q1,aW⟩:=ad p aC;refine ⟨some (p.2.2,[]),fun r' H' e=>by cases e;exact q1,fun q a3 e=>?_⟩;simp only [Prod.mk.injEq,e3.fn.injEq] at e;exact ⟨p.2.2,[],rfl,by rw [oR aW,af p aC q a3 e.1 e.2.1]⟩
  ·exact ⟨none,(fun r H' e=>nomatch e),fun p aC e=>absurd ⟨p,aC,e⟩ al⟩
 let C:b6:=fun t a H l=>Classical.choose (key (t,a,H,l))
 have bt:∀ t a H l,_:=fun t a H l=>vv (key (t,a,H,l));exact ⟨C,oE fun t a H l r H' ao=>(bt t a H l).1 r H' ao,fun p aC=>(bt _ _ _ _).2 p aC rfl⟩
def x1 (o:Oper) (s:a5) (K:a5→Prop):Prop :=
 ∃ it r m since seen es clock,o.op=.next it false∧o.guard=none∧Ab.aA s.T it=.ptr r 0∧s.H[r]?=some (.iter m since seen clock)∧s.H[m]?=some (.map es clock)∧since≤clock∧(∀ e∈es,e.1<since) ∧
   ((∀ e∈es,e.1∈seen)→K ⟨put s.T o.dst (.tuple [.bool false]),s.H⟩) ∧
   ∀ e∈es,e.1 ∉ seen→K ⟨put s.T o.dst (.tuple [.bool true,e.2.1,e.2.2]),s.H.set r (.iter m since (seen++[e.1]) clock)⟩
section
variable {B N:Nat} {J:List Nat} {w:World} {H:List au} {U:Nat→Option aI} {S:Nat→Nat→Prop}
theorem Df (ah:aL B U J S w H) {id m since since' j7 stepped':Nat} {seen seen':List Nat} (aE:H[id]?=some (.iter m since seen j7)) {b ec:Nat}
  (aB:J[id]?=some b) (aH:U b=some (.obj id)) (aR:J[m]?=some ec) (bb:∀ o,¬ S b o) :
  bg U S w U S (w.putObj b (.mapIter (some ec) since' seen'.toArray stepped'))∧aL B U J S (w.putObj b (.mapIter (some ec) since' seen'.toArray stepped')) (H.set id (.iter m since' seen' stepped')):=by
 have hp:∀ ar o,S ar o→ar≠b:=fun ar o ai e=>bb o (e ▸ ai);have ag:=(ah.base b _ aH).2;have aA:bg U S w U S (w.putObj b (.mapIter (some ec) since' seen'.toArray stepped')) :=
  ⟨rfl,rfl,rfl,by simp,fun ar _ aN=>World.putObj_heap_other (fun e=>by subst e;rw [aH] at aN;cases aN),fun ar o ai=>⟨ai,nT (hp ar o ai)⟩,fun ar o ai=>.inl ai,fun ar h=>.inl h⟩
 refine ⟨aA,by simpa using ah.cE,fun bx o aq=>?_,fun ar o ai=>?_,fun ar l h=>by simpa using ah.base ar l h,by simpa using ah.cX⟩
 ·by_cases gV:bx=id
  ·subst gV;rw [sg (sa.1 aE).1] at aq;cases aq;exact ⟨b,ec,aB,aH,aR,World.putObj_heap_same ag,bb⟩
  ·rw [si (fun e=>gV e.symm)] at aq;refine (ah.obj bx o aq).frame (Ext.refl J) aA.set fun ar cv bp jE=>?_;have bM:ar≠b:=fun e=>by
    subst e;rw [aH] at bp;cases bp;rcases jE with h | ⟨j,h⟩
    ·cases h;exact gV rfl
    ·cases h
   exact ⟨bp,World.putObj_heap_other bM,fun o ai=>ai⟩
 ·obtain ⟨v,ae⟩:=ah.cf ar o ai;exact ⟨v,(nT (hp ar o ai)).trans ae⟩
theorem DV {F:Fence} (bB:ei F) {o:Oper} {s:a5} {K':a5→Prop} (h:x1 o s K') {a:Act} (aK:ct B N U J S w s a)
  {K:Act→World→Prop} {Q:Exit→Act→World→Prop} (fB:∀ aF,K' aF→∀ aM w',Step B N U J S w aF aM w'→K aM w'):o.wpIn F 0 P a w K Q:=by
 obtain ⟨it,r,m,since,seen,es,clock,aD,aO,CC,aj,hm,pD,hold,dc,aJ⟩:=h;have jG:∀ c,o.op≠.defer c:=fun c ao=>by rw [aD] at ao;cases ao
 refine ⟨fun f _=>bB.fn f,?_⟩;rw [Oper.semAt_eq _ _ _ jG];have lS:=aK.aA it;rw [CC] at lS;have fA:=l7 aK.H;obtain ⟨b,ec,aB,aH,aR,bj,bb⟩:=fA.obj r _ aj;obtain ⟨F2,bw,a',bk,bq,b7,dW,fO⟩:=fA.obj m _ hm;rw [aR] at a';cases a';generalize ae:a.eval it=v at lS;cases lS with
 | ptr _ _ ar eU =>
   rw [aB] at eU;cases eU;have Cd:∀ x∈bw.toList,x.born<since:=fun x al=>by
    obtain ⟨j,aw⟩:=tx.1 al;(have ed:bw[j]?=some x:=by simpa using aw);(have aU:j<es.length:=by have:=(sW.1 ed).1;omega);rcases bI:es[j] with ⟨i,k,v⟩;(have he:es[j]?=some (i,k,v):=by rw [sk aU,bI]);rw [(fO j i k v x he ed).1];exact hold (i,k,v) (sI he)
   have done:∀ {r':I} {H':List au} {v:Value} {w':World},a1 B (di U) J S w H' r' v w'→K' ⟨put s.T o.dst r',H'⟩→K (a.put o.dst v) w':=fun {r' H' v w'} aC av=>by
    obtain ⟨az,bZ,S',q1,aW,fT,_⟩:=nS o.dst aK aC .junk (fun _ _ _ _ _=>.junk _);exact fB _ av _ _ ⟨az,bZ,S',q1,aW,fT⟩
   rcases run_next_at (P:=P) w o.type b ec since clock seen.toArray bw clock bj bq Cd pD with ⟨aN,dL⟩ | ⟨x,al,bC,y1,dL⟩
   ·(have pC:(Go.execOp a.eval o).run P w=.ok (.value (.tuple #[.bool false])) w:=by simp [Go.execOp,aD,ae,dL]);rw [pC];refine done (a1.same fA (.tuple _ _ rfl (by simp [I.plain]) fun j u br hu bc=>?_) rfl) (dc fun e he=>?_)
    ·match j with
     | 0=>simp at hu bc;subst hu;subst bc;exact .bool _
     | j+1=>simp at hu
    ·obtain ⟨j,aw⟩:=tx.1 he;have aU:j<es.length:=(sa.1 aw).1;have al:bw[j]?=some bw[j]:=sC (by omega);have ag:=(fO j e.1 e.2.1 e.2.2 _ aw al).1;have lR:leftOf bw seen.toArray=#[]:=Array.eq_empty_of_size_eq_zero aN;unfold leftOf at lR;rw [Array.filter_eq_empty_iff] at lR;have:=lR bw[j] (by simp);simpa [ag] using this
   ·have pC:(Go.execOp a.eval o).run P w=.ok (.value (.tuple #[.bool true,x.key,x.val])) (bC.putObj b (.mapIter (some ec) since (seen++[x.born]).toArray clock)):=by
     simp [Go.execOp,aD,ae,dL,Go.ChangeMaps.setBlock,World.putObj]
    rw [pC];have nx:x∈bw.toList∧x.born ∉ seen:=by
     unfold leftOf at al;simpa using al
    obtain ⟨j,aw⟩:=tx.1 nx.1;(have ed:bw[j]?=some x:=by simpa using aw);(have aU:j<es.length:=by have:=(sW.1 ed).1;omega);rcases bI:es[j] with ⟨i,k,v⟩;(have he:es[j]?=some (i,k,v):=by rw [sk aU,bI]);obtain ⟨d1,d2,d3,d4,d5⟩:=fO j i k v x he ed;have ku:(i,k,v)∈es:=sI he;refine done (r':=.tuple [.bool true,k,v]) (H':=s.H.set r (.iter m since (seen++[i]) clock)) ?_ (aJ _ ku (by rw [←d1];exact nx.2));(have hw:aL B (di U) J S bC s.H:=by rcases y1 with rfl | rfl;exact fA;exact l6 fA);(have o':bg (di U) S w (di U) S bC:=by rcases y1 with rfl | rfl;exact bg.refl _ _ _;exact kg _ _ _);refine a1.after (Ext.refl J) o' ?_;obtain ⟨aA,cc⟩:=Df hw (since':=since) (stepped':=clock) (seen':=seen++[i]) aj aB aH aR bb;rw [d1];refine ⟨di U,J,S,Ext.refl J,aA,cc,.tuple _ _ rfl (fun u hu=>?_) (fun j u br hu bc=>?_),aV.b3 rfl⟩
    ·simp only [sj,List.not_mem_nil,or_false] at hu;rcases hu with rfl | rfl | rfl
     ·rfl
     ·exact d2
     ·exact d4
    ·match j with
     | 0=>simp at hu bc;subst hu;subst bc;exact .bool _
     | 1=>simp at hu bc;subst hu;subst bc;exact (d3.mono (Ext.refl J) o'.set).mono (Ext.refl J) aA.set
     | 2=>simp at hu bc;subst hu;subst bc;exact (d5.mono (Ext.refl J) o'.set).mono (Ext.refl J) aA.set
     | j+3=>simp at hu
end
end
end Go.Proofs.YtfakoboiahbhaaaGreat.Ab


namespace Go.Proofs.YtfakoboiahbhaaaGreat.Ab
open Go
section
variable {P:Program} {B N:Nat} {J:List Nat} {w:World} {U:Nat→Option aI} {S:Nat→Nat→Prop}
theorem xI {C:b6} {lo:Nat} {ops:Array Oper} {an:List b5} {i:Nat} {cO:Oper} (hi:ops[i]?=some cO) {R:Nat→Nat→Prop} {aF:a5}:∀ (l:List Nat) (s:a5),l.Pairwise R→i∈l →
  (∀ j∈l,R j i→∀ c1,ops[j]?=some c1→indep ops c1 (an.getD j {}) cO (an.getD i {})=true)→cw P C lo ops an l s=some aF →
  ∃ s1,dt P C lo ops cO (an.getD i {}) s=some s1∧cw P C lo ops an (l.erase i) s1=some aF
 | [],s,_,h,_,_=>by simp at h
 | j::r,s,aC,hm,jD,h=>by
   by_cases gY:j=i
   ·subst gY;simp only [cw,hi,se] at h;obtain ⟨s1,ad,af⟩:=h;exact ⟨s1,ad,by simpa using af⟩
   ·have aj:i∈r:=by
     rcases sj.1 hm with h | h
     ·exact absurd h.symm gY
     ·exact h
    have aU:R j i:=(tB.1 aC).1 i aj;have he:(j::r).erase i=j::r.erase i:=by
     rw [List.erase_cons];simp [gY]
    rw [he];simp only [cw] at h ⊢;cases aw:ops[j]? with
    | none =>
      simp only [aw] at h;exact xI hi r s (tB.1 aC).2 aj (fun k av=>jD k (by simp [av])) h
    | some c1 =>
      simp only [aw,se] at h;obtain ⟨s1,ad,af⟩:=h;obtain ⟨s2,aJ,aP⟩:=xI hi r s1 (tB.1 aC).2 aj (fun k av=>jD k (by simp [av])) af;obtain ⟨s3,q1,aW⟩:=A0 (jD j (by simp) aU c1 aw) ad aJ;exact ⟨s3,q1,by dsimp only;rw [aW];exact aP⟩
def c6 (O:List Nat) (listed:Array Bool):List Nat:=O.filter fun i=>!listed.getD i true
theorem z6 {O:List Nat} (lL:O.Nodup) {i:Nat} {listed:Array Bool}:c6 O (listed.setIfInBounds i true)=(c6 O listed).erase i:=by
 have jG:(c6 O listed).Nodup:=lL.filter _;rw [jG.erase_eq_filter];simp only [c6,List.filter_filter];congr 1;funext j;by_cases gW:j=i
 ·subst gW;rcases sR j listed.size with h | h
  ·simp [ss,h]
  ·simp [ss,h]
 ·have:(listed.setIfInBounds i true).getD j true=listed.getD j true:=by
   simp only [ss];rw [vn (Ne.symm gW)]
  rw [this];simp [gW]
def fe (n p q:Nat):List Nat:=(List.range n).map fun i=>if i=p then q else if i=q then p else i
def lj (p q j i:Nat):Prop:=(j<i∧¬ (j=p∧i=q))∨(j=q∧i=p)
theorem xQ {n p:Nat} (a3:p+1<n):(fe n p (p+1)).Pairwise (lj p (p+1)):=by
 unfold fe;rw [uJ];refine List.Pairwise.imp (fun {a b} h=>?_) uI;unfold lj;split <;> split <;> (try split) <;> (try split) <;> omega
theorem xP {n p:Nat} (a3:p+1<n):(fe n p (p+1)).Nodup:=by
 unfold fe List.Nodup;rw [uJ];refine List.Pairwise.imp (fun {a b} h=>?_) tY;split <;> split <;> (try split) <;> (try split) <;> omega
theorem mN {n p:Nat} (a3:p+1<n) (i:Nat):i∈fe n p (p+1)↔i<n:=by
 unfold fe;rw [sm];constructor
 ·rintro ⟨a,cd,rfl⟩;have:=sG.1 cd;split <;> (try split) <;> omega
 ·intro h;refine ⟨if i=p then p+1 else if i=p+1 then p else i,sG.2 ?_,?_⟩
  ·split <;> (try split) <;> omega
  ·by_cases ad:i=p
   ·subst ad;simp
   ·by_cases af:i=p+1
    ·subst af;simp
    ·simp [ad,af]
theorem Bv {F:Fence} (bB:ei F) {C:b6} (bt:c_ P C) {lo:Nat} {ops:Array Oper} {an:List b5} {p:Nat} (a3:p+1<ops.size) (aZ:m6 ops an p (p+1)=true) {Q:Exit→Act→World→Prop} {s1 s2:a5} :
  ∀ (fuel:Nat) (listed:Array Bool) (s:a5) (a:Act) (w:World) (U:Nat→Option aI) (J:List Nat) (S:Nat→Nat→Prop),(c6 (List.range ops.size) listed).length≤fuel→lB ops listed →
    ((cw P C lo ops an (c6 (List.range ops.size) listed) s=some s1∧cw P C lo ops an (c6 (fe ops.size p (p+1)) listed) s=some s2∧listed.getD p true=false∧listed.getD (p+1) true=false) ∨
      (cw P C lo ops an (c6 (List.range ops.size) listed) s=some s1∧listed.getD p true=true)∨(cw P C lo ops an (c6 (fe ops.size p (p+1)) listed) s=some s2∧listed.getD (p+1) true=true)) →
    ct B N U J S w s a→(∀ aF,aF=s1∨aF=s2→∀ aM w',Step B N U J S w aF aM w'→Q .normal aM w')→wpAnyIn F 0 P .any ops Q fuel listed a w:=by
 have c9:∀ j c1,ops[j]?=some c1→((g5 ops.toList []).getD j 0=mu (g5 ops.toList []) c1)∧(∀ e∈c1.after,Region.binds .any e=true→e.on<j) ∧
   ∀ i cO,i<j→ops[i]?=some cO→((g5 ops.toList []).getD j 0).testBit i=true∨indep ops cO (an.getD i {}) c1 (an.getD j {})=true∨(i=p∧j=p+1):=fun j c1 aw=>by
  have aU:j<ops.size:=(sW.1 aw).1;simp only [m6,zH,sy,sG] at aZ;have h:=aZ j aU;rw [aw] at h;simp only [sv,beq_iff_eq,sy,sG] at h;obtain ⟨⟨ad,af⟩,aG⟩:=h;refine ⟨ad,fun e he ag=>?_,fun i cO gW hi=>?_⟩
  ·have:=af e (by simpa using he);simp only [ag,Bool.not_true,Bool.false_or] at this;simpa [th] using this
  ·have a6:=aG i gW;rw [hi] at a6;simp only [tL,sv] at a6;rcases a6 with (a6 | a6) | a6
   ·exact .inl a6
   ·exact .inr (.inl a6)
   ·exact .inr (.inr ⟨s_ a6.1,s_ a6.2⟩)
 have xq:∀ (listed:Array Bool),lB ops listed→∀ (n k:Nat) ok,k≤n→ops[k]?=some ok→(∀ e∈ok.after,Region.binds .any e=true→listed.getD e.on false=true) →
   ∀ j,((g5 ops.toList []).getD k 0).testBit j=true→listed.getD j false=true:=by
  intro listed cC n
  induction n with
  | zero =>
    intro k ok av aq eI j aw;rw [(c9 k ok aq).1] at aw;rcases mv _ j _ _ aw with h | ⟨e,he,ag,h⟩
    ·simp at h
    ·have:=(c9 k ok aq).2.1 e (by simpa using he) ag;omega
  | succ n a_ =>
    intro k ok av aq eI j aw;rw [(c9 k ok aq).1] at aw;rcases mv _ j _ _ aw with h | ⟨e,he,ag,h⟩
    ·simp at h
    ·(have jB:e∈ok.after:=by simpa using he);have aU:=(c9 k ok aq).2.1 e jB ag;have h1:=eI e jB ag;rcases h with h | rfl
     ·have ks:=(sW.1 aq).1;have l2:ops[e.on]?=some ops[e.on]:=sC (by omega);have pB:listed.getD e.on true=true:=by
       rcases sR e.on listed.size with aX | aX
       ·simp [ss,aX] at h1 ⊢;exact h1
       ·simp [ss,aX] at h1
      exact a_ e.on _ (by omega) l2 (cC e.on _ l2 pB) j h
     ·exact h1
 have iJ:∀ (O:List Nat) (listed:Array Bool) (i:Nat),i∈c6 O listed↔i∈O∧listed.getD i true=false:=fun O listed i=>by
  simp [c6]
 have lR:∀ (O:List Nat) (listed:Array Bool),(∀ i,i∈O↔i<ops.size)→c6 (List.range ops.size) listed=[]→c6 O listed=[]:=fun O listed lL h=>by
  rw [uH];intro i hi;have:=(iJ _ _ _).1 hi;have af:i∈c6 (List.range ops.size) listed:=(iJ _ _ _).2 ⟨sG.2 ((lL i).1 this.1),this.2⟩;rw [h] at af;simp at af
 have yD:∀ (listed:Array Bool) (s:a5),c6 (List.range ops.size) listed=[] →
   ((cw P C lo ops an (c6 (List.range ops.size) listed) s=some s1∧cw P C lo ops an (c6 (fe ops.size p (p+1)) listed) s=some s2∧listed.getD p true=false∧listed.getD (p+1) true=false) ∨
     (cw P C lo ops an (c6 (List.range ops.size) listed) s=some s1∧listed.getD p true=true)∨(cw P C lo ops an (c6 (fe ops.size p (p+1)) listed) s=some s2∧listed.getD (p+1) true=true))→s=s1∨s=s2:=fun listed s h hinv=>by
  have af:=lR _ listed (mN a3) h;rw [h,af] at hinv;simp only [cw,Option.some.injEq] at hinv;rcases hinv with h | h | h
  ·exact .inl h.1
  ·exact .inl h.1
  ·exact .inr h.1
 have front:∀ (O:List Nat) (R:Nat→Nat→Prop),O.Pairwise R→O.Nodup→(∀ i,i∈O↔i<ops.size)→∀ (listed:Array Bool) (s aF:a5) (i:Nat) (cO:Oper),lB ops listed→ops[i]?=some cO→listed.getD i true=false →
   (∀ e∈cO.after,Region.binds .any e=true→listed.getD e.on false=true)→(∀ j,R j i→listed.getD j true=false→j<i∧¬ (j=p∧i=p+1))→cw P C lo ops an (c6 O listed) s=some aF →
   ∃ s3,dt P C lo ops cO (an.getD i {}) s=some s3∧cw P C lo ops an (c6 O (listed.setIfInBounds i true)) s3=some aF:=by
  intro O R B_ B9 B8 listed s aF i cO cC ee ad eI jw dL;have aU:=(sW.1 ee).1
  obtain ⟨s3,q1,aW⟩:=xI ee (R:=R) (c6 O listed) s (B_.filter _) ((iJ _ _ _).2 ⟨(B8 i).2 aU,ad⟩) (fun j aw gY c1 pA=>by
   have dq:=((iJ _ _ _).1 aw).2;obtain ⟨lV,bM⟩:=jw j gY dq;rcases (c9 i cO ee).2.2 j c1 lV pA with h | h | h
   ·have:=xq listed cC i i cO (sc _) ee eI j h;rcases sR j listed.size with aX | aX
    ·simp [ss,aX] at dq this;rw [this] at dq;simp at dq
    ·simp [ss,aX] at dq
   ·exact h
   ·exact absurd h bM) dL
  exact ⟨s3,q1,by rw [z6 B9];exact aW⟩
 intro fuel
 induction fuel with
 | zero =>
   intro listed s a w U J S pd cC hinv aK bl;have h0:c6 (List.range ops.size) listed=[]:=List.length_eq_zero_iff.1 (by omega);refine ⟨?_,bl s (yD listed s h0 hinv) a w (Step.here aK)⟩;rw [uH];intro i hi;obtain ⟨ad,o,aq,_⟩:=mem_ready.1 hi
   have:i∈c6 (List.range ops.size) listed:=(iJ _ _ _).2 ⟨sG.2 (sW.1 aq).1,by simp [ad]⟩
   rw [h0] at this;simp at this
 | succ fuel a_ =>
   intro listed s a w U J S pd cC hinv aK bl;refine ⟨fun aj=>?_,fun i hi=>?_⟩
   ·have h0:c6 (List.range ops.size) listed=[]:=by
     rw [uH];intro i
     induction i using Nat.strongRecOn with
     | _ i pO =>
       intro hi;obtain ⟨aU,dq⟩:=(iJ _ _ _).1 hi;have aU:=sG.1 aU;have aq:ops[i]?=some ops[i]:=sC aU
       have:i∈Region.ready .any ops listed:=mem_ready.2 ⟨by simpa using dq,_,aq,fun e he ag=>by
        have hZ:=(c9 i _ aq).2.1 e he ag;have kx:=pO e.on hZ;have ak:listed.getD e.on true=true:=by
         cases al:listed.getD e.on true with
         | true=>rfl
         | false=>exact absurd ((iJ _ _ _).2 ⟨sG.2 (by omega),al⟩) kx
        rcases sR e.on listed.size with aX | aX
        ·simp [ss,aX] at ak ⊢;exact ak
        ·rcases sR i listed.size with lI | lI
         ·omega
         ·simp [ss,lI] at dq⟩
       rw [aj] at this;simp at this
    exact bl s (yD listed s h0 hinv) a w (Step.here aK)
   ·obtain ⟨ad,cO,ee,eI⟩:=mem_ready.1 hi;have aU:=(sW.1 ee).1;(have iD:listed.getD i true=false:=by simpa using ad);have ku:i∈c6 (List.range ops.size) listed:=(iJ _ _ _).2 ⟨sG.2 aU,iD⟩;have km:∀ i,i∈List.range ops.size↔i<ops.size:=fun i=>sG;have bP:i<listed.size:=by
     rcases sR i listed.size with aX | aX
     ·exact aX
     ·simp [ss,aX] at iD
    have nv:(listed.setIfInBounds i true).getD i true=true:=by
     simp [ss,bP]
    have bM:∀ k,k≠i→(listed.setIfInBounds i true).getD k true=listed.getD k true:=fun k av=>by
     simp only [ss];rw [vn (Ne.symm av)]
    obtain ⟨s3,q1,CB⟩:∃ s3,dt P C lo ops cO (an.getD i {}) s=some s3 ∧
      ((cw P C lo ops an (c6 (List.range ops.size) (listed.setIfInBounds i true)) s3=some s1∧cw P C lo ops an (c6 (fe ops.size p (p+1)) (listed.setIfInBounds i true)) s3=some s2∧(listed.setIfInBounds i true).getD p true=false∧(listed.setIfInBounds i true).getD (p+1) true=false) ∨
        (cw P C lo ops an (c6 (List.range ops.size) (listed.setIfInBounds i true)) s3=some s1∧(listed.setIfInBounds i true).getD p true=true)∨(cw P C lo ops an (c6 (fe ops.size p (p+1)) (listed.setIfInBounds i true)) s3=some s2∧(listed.setIfInBounds i true).getD (p+1) true=true)):=by
     rcases hinv with ⟨cb,b8,dY,hn⟩ | ⟨cb,b8⟩ | ⟨cb,b8⟩
     ·by_cases lT:i=p
      ·obtain ⟨s3,aJ,aP⟩:=front _ _ uI tY km listed s s1 i cO cC ee iD eI (fun j aw _=>⟨aw,by omega⟩) cb;exact ⟨s3,aJ,.inr (.inl ⟨aP,by rw [←lT];exact nv⟩)⟩
      ·by_cases lU:i=p+1
       ·obtain ⟨s3,aJ,aP⟩:=front _ _ (xQ a3) (xP a3) (mN a3) listed s s2 i cO cC ee iD eI (fun j aw _=>by unfold lj at aw;omega) b8;exact ⟨s3,aJ,.inr (.inr ⟨aP,by rw [←lU];exact nv⟩)⟩
       ·obtain ⟨s3,aJ,aP⟩:=front _ _ uI tY km listed s s1 i cO cC ee iD eI (fun j aw _=>⟨aw,by omega⟩) cb;obtain ⟨Gy,cj,jM⟩:=front _ _ (xQ a3) (xP a3) (mN a3) listed s s2 i cO cC ee iD eI (fun j aw _=>by unfold lj at aw;omega) b8;rw [aJ] at cj;cases cj;exact ⟨s3,aJ,.inl ⟨aP,jM,by rw [bM _ (Ne.symm lT)];exact dY,by rw [bM _ (Ne.symm lU)];exact hn⟩⟩
     ·obtain ⟨s3,aJ,aP⟩:=front _ _ uI tY km listed s s1 i cO cC ee iD eI (fun j aw dq=>⟨aw,fun e=>by rw [e.1,b8] at dq;simp at dq⟩) cb;refine ⟨s3,aJ,.inr (.inl ⟨aP,?_⟩)⟩;by_cases lT:p=i
      ·rw [lT];exact nv
      ·rw [bM _ lT];exact b8
     ·obtain ⟨s3,aJ,aP⟩:=front _ _ (xQ a3) (xP a3) (mN a3) listed s s2 i cO cC ee iD eI (fun j aw dq=>by
       unfold lj at aw;rcases aw with aw | ⟨rfl,_⟩
       ·exact aw
       ·rw [b8] at dq;simp at dq) cb
      refine ⟨s3,aJ,.inr (.inr ⟨aP,?_⟩)⟩;by_cases lU:p+1=i
      ·rw [lU];exact nv
      ·rw [bM _ lU];exact b8
    refine A3 bB bt ee q1 aK fun aM w' ai=>?_;obtain ⟨b2,cQ,a4,aJ,aP,b'⟩:=ai;refine a_ (listed.setIfInBounds i true) s3 aM w' b2 cQ a4 ?_ ?_ CB b' fun aF gZ gM hh dM=>bl aF gZ gM hh (dM.trans aJ aP)
    ·rw [z6 tY,List.length_erase_of_mem ku];omega
    ·intro k ok av ak e he ag;by_cases lZ:k=i
     ·subst lZ;rw [ee] at av;cases av;exact getD_set_true (eI e he ag)
     ·have:listed.getD k true=true:=by rw [getD_set_ne true (Ne.symm lZ)] at ak;exact ak
      exact getD_set_true (cC k ok av this e he ag)
theorem Eh {F:Fence} (bB:ei F) (hm:P.follows .mixedOrders=true) {C:b6} (bt:c_ P C) {lo id:Nat} {ops:Array Oper} {an:List b5} {p:Nat} (a3:p+1<ops.size) (aZ:m6 ops an p (p+1)=true) {Q:Exit→Act→World→Prop} {s s1 s2:a5} {a:Act}
  (ad:cw P C lo ops an (List.range ops.size) s=some s1) (af:cw P C lo ops an (fe ops.size p (p+1)) s=some s2) (aK:ct B N U J S w s a) (bl:∀ aF,aF=s1∨aF=s2→∀ aM w',Step B N U J S w aF aM w'→Q .normal aM w'):(Code.region id ops true).wpIn F 0 P Q a w:=by
 refine wpIn_region_any hm ?_;have hw:aL B U J S w.drew s.H:=l6 aK.H;have aA:=kg U S w;have fT:ct B N U J S w.drew s a:=⟨⟨aK.T.len,fun i u v hu ae=>(aK.T.rel i u v hu ae).mono (Ext.refl J) aA.set,fun i u v hu ae=>(aK.T.own i u v hu ae).mono (Ext.refl J) aA.set fun b ag=>⟨ag,rfl,fun _ h=>h⟩⟩,hw,aK.M.aA aA⟩;have dq:∀ i,i<ops.size→(Array.replicate ops.size false).getD i true=false:=fun i hi=>by simp [ss,hi]
 have kz:∀ O:List Nat,(∀ i,i∈O↔i<ops.size)→c6 O (Array.replicate ops.size false)=O:=fun O lL=>by
  simp only [c6];rw [List.filter_eq_self];intro i hi;rw [dq i ((lL i).1 hi)];rfl
 have km:∀ i,i∈List.range ops.size↔i<ops.size:=fun i=>sG;refine Bv bB bt a3 aZ (s1:=s1) (s2:=s2) (lo:=lo) ops.size (Array.replicate ops.size false) s a w.drew U J S (by rw [kz _ km];simp) ?_ (.inl ⟨by rw [kz _ km];exact ad,by rw [kz _ (mN a3)];exact af,dq _ (by omega),dq _ a3⟩) fT fun aF gZ aM w' ai=>bl aF gZ aM w' (ai.trans (Ext.refl J) aA);intro k o aq ak;have aU:=(sW.1 aq).1;rw [dq k aU] at ak;cases ak
end
end Go.Proofs.YtfakoboiahbhaaaGreat.Ab


namespace Go.Proofs.YtfakoboiahbhaaaGreat.Ab
open Go
section
variable (P:Program)
def iu (lo:Nat) (ops:Array Oper) (o:Oper) (an:b5) (s:a5) (K:a5→Prop):Prop :=
 (∃ C aF,c_ P C∧dt P C lo ops o an s=some aF∧K aF)∨x1 o s K
def runN (lo:Nat) (ops:Array Oper):List Oper→List b5→a5→(a5→Prop)→Prop
 | [],_,s,K=>K s
 | o::r,as,s,K=>iu P lo ops o (as.headD {}) s fun aF=>runN lo ops r as.tail aF K
def EA (lo:Nat) (ops:Array Oper) (as:List b5) (s:a5) (K:a5→Prop):Prop :=
 ∃ acc aF,hj P acc∧(∀ C,c_ P C→hM C acc→eG P C lo ops ops.toList as s=some aF)∧K aF
def EB (lo:Nat) (ops:Array Oper) (as:List b5) (p:Nat) (s:a5) (K:a5→Prop):Prop :=
 ∃ acc s1 s2,hj P acc∧(∀ C,c_ P C→hM C acc→cw P C lo ops as (List.range ops.size) s=some s1∧cw P C lo ops as (fe ops.size p (p+1)) s=some s2)∧K s1∧K s2
def ft (f:a5→(cB→a5→Prop)→Prop):Nat→a5→(cB→a5→Prop)→Prop
 | 0,_,_=>False
 | n+1,s,Q=>f s fun e aF=>match e with
   | .normal=>ft f n aF Q
   | e=>Q e aF
def c2 (A:c7) (fn:FuncId) (lo:Nat) (rl:Option Nat):Code→Nat→a5→(cB→a5→Prop)→Prop
 | .skip,_,s,Q=>Q .normal s
 | .region id ops draw,_,s,Q=>match j8 A id draw with
   | some p=>EB P lo ops (A.ops.getD id []) p (eV A.h8 id s) (Q .normal)
   | none=>match draw with
     | true=>EA P lo ops (A.ops.getD id []) (eV A.h8 id s) (Q .normal)
     | false=>runN P lo ops ops.toList (A.ops.getD id []) (eV A.h8 id s) (Q .normal)
 | .seq a b,aY,s,Q=>c2 A fn lo rl a aY s fun e aF=>match e with
   | .normal=>c2 A fn lo rl b aY aF Q
   | e=>Q e aF
 | .cond c a b,aY,s,Q=>(∃ t,aA s.T c=.bool t∧match t with
   | true=>c2 A fn lo rl a aY s Q
   | false=>c2 A fn lo rl b aY s Q)∨(aA s.T c=.dn∧c2 A fn lo rl a aY s Q∧c2 A fn lo rl b aY s Q)
 | .block id body,_,s,Q=>c2 A fn lo rl body id s fun e aF=>match e with
   | .exit bx=>if bx=id then Q .normal aF else Q (.exit bx) aF
   | e=>Q e aF
 | .loop body,aY,s,Q=>∃ n,ft (fun aF=>c2 A fn lo rl body aY (eV A.h7 aY aF)) n s Q
 | .exit id,_,s,Q=>Q (.exit id) s
 | .ret,_,s,Q=>Q .ret s
 | .scope body,aY,s,Q=>c2 A fn lo rl body aY s Q
 | .label _,_,s,Q=>Q .normal s
 | .rangeFunc f params assign body,aY,s,Q=>∃ C e aF,c_ P C∧exec P A C fn lo 0 rl (.rangeFunc f params assign body) aY s=some (e,aF)∧Q e aF
 | _,_,_,_=>False
end
section
variable {P:Program} {B N:Nat} {J:List Nat} {w:World} {H:List au} {U:Nat→Option aI} {S:Nat→Nat→Prop}
theorem FB {F:Fence} (bB:ei F) {lo:Nat} {ops:Array Oper} {o:Oper} {an:b5} {s:a5} {K':a5→Prop} (h:iu P lo ops o an s K') {a:Act} (aK:ct B N U J S w s a)
  {rest:List Oper} {Q:Exit→Act→World→Prop} (fB:∀ aF,K' aF→∀ aM w',Step B N U J S w aF aM w'→wpListIn F 0 P ops Q rest aM w'):wpListIn F 0 P ops Q (o::rest) a w:=by
 rcases h with ⟨C,aF,bt,h,av⟩ | h
 ·unfold dt at h;unfold wpListIn;split at h
  ·rename_i hw;rw [k8 aK hw];simp only [if_true];exact xO bB bt h aK fun aM w' ai=>fB aF av aM w' ai
  ·rename_i hw;rw [k8 aK hw];simp only [tF,if_false];simp only [Option.some.injEq] at h;subst h;exact ⟨fun f _=>bB.fn f,fB _ av _ _ (Step.here (aK.skip o.dst))⟩
  ·simp at h
 ·have aO:o.guard=none:=by obtain ⟨_,_,_,_,_,_,_,_,aO,_⟩:=h;exact aO
  unfold wpListIn;have hw:Region.wanted o (yielded ops a.tmps)=true:=by unfold Region.wanted;rw [aO]
  rw [hw];simp only [if_true];exact DV bB h aK fun aF av aM w' ai=>fB aF av aM w' ai
theorem At {F:Fence} (bB:ei F) {lo:Nat} {ops:Array Oper} {K':a5→Prop} {Q:Exit→Act→World→Prop} :
  ∀ (rest:List Oper) (as:List b5) (s:a5) (a:Act) (w:World) (U:Nat→Option aI) (J:List Nat) (S:Nat→Nat→Prop),runN P lo ops rest as s K'→ct B N U J S w s a →
    (∀ aF,K' aF→∀ aM w',Step B N U J S w aF aM w'→Q .normal aM w')→wpListIn F 0 P ops Q rest a w
 | [],as,s,a,w,U,J,S,h,aK,bl=>bl s h a w (Step.here aK)
 | o::rest,as,s,a,w,U,J,S,h,aK,bl=>by
   refine FB bB h aK fun aF av aM w' ai=>?_;obtain ⟨b2,cQ,a4,aJ,aP,b'⟩:=ai;exact At bB rest as.tail aF aM w' b2 cQ a4 av b' fun EM CD gM hh dM=>bl EM CD gM hh (dM.trans aJ aP)
theorem Dt {F:Fence} {c:Code} {f:a5→(cB→a5→Prop)→Prop} {cG:cB→a5→Prop} {Q:Exit→Act→World→Prop} {s:a5} {a:Act} {n:Nat}
  (h:ft f n s cG) (aK:ct B N U J S w s a) (bl:∀ e aF,cG e aF→∀ aM w',Step B N U J S w aF aM w'→Q (toExit e) aM w')
  (ko:∀ (s1:a5) (oq:cB→a5→Prop),f s1 oq→∀ (lh:Exit→Act→World→Prop) (aB:Act) (bC:World),(∀ l a w,lh (.goto l) a w→Q (.goto l) a w)→Step B N U J S w s1 aB bC →
   (∀ e s2,oq e s2→∀ aM w',Step B N U J S w s2 aM w'→lh (toExit e) aM w')→c.wpIn F 0 P lh aB bC):(Code.loop c).wpIn F 0 P Q a w:=by
 classical
 let Inv:Nat→Act→World→Prop:=fun n aM w'=>∃ s1,ft f n s1 cG∧Step B N U J S w s1 aM w'
 let gi:Act→World→Nat:=fun aM w'=>if h:∃ n,Inv n aM w' then Classical.choose (ki h) else 0
 have me:∀ aM w',(∃ n,Inv n aM w')→Inv (gi aM w') aM w'∧∀ m,Inv m aM w'→gi aM w'≤m:=fun aM w' h=>by
  have:gi aM w'=Classical.choose (ki h):=by simp only [gi,dif_pos h]
  rw [this];exact vv (ki h)
 refine wpIn_loop (fun aM w'=>∃ n,Inv n aM w') gi ⟨n,s,h,Step.here aK⟩ fun aB bC kl=>?_;obtain ⟨⟨s1,ad,gx⟩,_⟩:=me aB bC kl;cases aN:gi aB bC with
 | zero=>rw [aN] at ad;exact ad.elim
 | succ m =>
   rw [aN] at ad;simp only [ft] at ad;refine ko s1 _ ad _ aB bC (fun l a w h=>h) gx fun e s2 av aM w' dM=>?_;cases e with
   | normal =>
     have hinv:Inv m aM w':=⟨s2,av,dM⟩;exact ⟨⟨m,hinv⟩,Nat.lt_succ_of_le ((me aM w' ⟨m,hinv⟩).2 m hinv)⟩
   | ret=>exact bl .ret s2 av aM w' dM
   | exit id=>exact bl (.exit id) s2 av aM w' dM
theorem og (dH:P.follows .mixedOrders=true) {A:c7} {fn:FuncId} {lo:Nat} {rl:Option Nat} :
  ∀ (c:Code) (aY:Nat) (s:a5) (K:cB→a5→Prop),c2 P A fn lo rl c aY s K→codeOk A c=true →
    ∀ (F:Fence) (Q:Exit→Act→World→Prop) (B N:Nat) (J:List Nat) (w:World) (U:Nat→Option aI) (S:Nat→Nat→Prop) (a:Act),jf F rl J→(∀ l a w,¬ Q (.goto l) a w) →
      ct B N U J S w s a→(∀ e aF,K e aF→∀ aM w',Step B N U J S w aF aM w'→Q (toExit e) aM w')→c.wpIn F 0 P Q a w:=by
 intro c
 induction c with
 | skip=>intro aY s K h _ F Q B N J w U S a bB aO aK bl;exact wpIn_skip (bl _ _ h a w (Step.here aK))
 | label l=>intro aY s K h _ F Q B N J w U S a bB aO aK bl;exact wpIn_label (bl _ _ h a w (Step.here aK))
 | ret=>intro aY s K h _ F Q B N J w U S a bB aO aK bl;exact wpIn_ret (bl _ _ h a w (Step.here aK))
 | exit id=>intro aY s K h _ F Q B N J w U S a bB aO aK bl;exact wpIn_exit (bl _ _ h a w (Step.here aK))
 | goto l=>intro aY s K h;exact h.elim
 | refuse y=>intro aY s K h;exact h.elim
 | region id ops draw =>
   intro aY s K h bO F Q B N J w U S a bB aO aK bl;simp only [c2] at h;simp only [codeOk,xn] at bO;split at h
   ·rename_i p kC;rw [kC] at bO;simp only [sv,th] at bO;cases draw with
    | false=>simp [j8] at kC
    | true =>
      obtain ⟨acc,s1,s2,hq,al,CE,pk⟩:=h;obtain ⟨C,bt,ch⟩:=ox hq;obtain ⟨la,lb⟩:=al C bt ch;exact Eh bB.lE dH bt bO.1 bO.2 la lb (aK.cD _ _) fun aF gZ aM w' ai=>by
       rcases gZ with rfl | rfl
       ·exact bl _ _ CE aM w' ai
       ·exact bl _ _ pk aM w' ai
   rename_i kC;rw [kC] at bO;cases draw with
   | true =>
     obtain ⟨acc,aF,hq,al,av⟩:=h;obtain ⟨C,bt,ch⟩:=ox hq;exact z1 bB.lE dH bt (fun _=>by simpa using bO) (al C bt ch) (aK.cD _ _) fun aM w' ai=>bl _ _ av aM w' ai
   | false=>exact wpIn_region_list (At bB.lE ops.toList _ _ a w U J S h (aK.cD _ _) fun aF av aM w' ai=>bl _ _ av aM w' ai)
 | seq x y nB pP =>
   intro aY s K h bO F Q B N J w U S a bB aO aK bl;simp only [codeOk,sv] at bO;refine wpIn_seq (nB _ _ _ h bO.1 F _ B N J w U S a bB (fun l a w=>aO l a w) aK fun e s1 av aM w' ai=>?_);cases e with
   | normal =>
     obtain ⟨b2,cQ,a4,aJ,aP,b'⟩:=ai;exact pP _ _ _ av bO.2 F Q B N cQ w' b2 a4 aM (bB.ext aJ) aO b' fun e s2 pk gM hh dM=>bl e s2 pk gM hh (dM.trans aJ aP)
   | ret=>exact bl _ _ av aM w' ai
   | exit id=>exact bl _ _ av aM w' ai
 | cond x t f nA nz =>
   intro aY s K h bO F Q B N J w U S a bB aO aK bl;simp only [codeOk,sv] at bO;rcases h with ⟨b,ag,h⟩ | ⟨ag,ad,af⟩
   ·have aj:=aK.aA x;rw [ag] at aj;cases b with
    | true=>exact wpIn_cond_true aj.hU (nA _ _ _ h bO.1 F Q B N J w U S a bB aO aK bl)
    | false=>exact wpIn_cond_false aj.hU (nz _ _ _ h bO.2 F Q B N J w U S a bB aO aK bl)
   ·have aj:=aK.aA x;rw [ag] at aj;obtain ⟨b,aj⟩:=aj.Bw;cases b with
    | true=>exact wpIn_cond_true aj (nA _ _ _ ad bO.1 F Q B N J w U S a bB aO aK bl)
    | false=>exact wpIn_cond_false aj (nz _ _ _ af bO.2 F Q B N J w U S a bB aO aK bl)
 | block id c a_ =>
   intro aY s K h bO F Q B N J w U S a bB aO aK bl;refine wpIn_block ?_;refine a_ _ _ _ h bO F _ B N J w U S a bB (fun l a w=>aO l a w) aK fun e s1 av aM w' ai=>?_;cases e with
   | normal=>exact bl _ _ av aM w' ai
   | ret=>exact bl _ _ av aM w' ai
   | exit bx =>
     simp only at av;by_cases aE:bx=id
     ·simp only [aE,if_true] at av;simp only [toExit,Exit.inBlock,aE,if_true];exact bl _ _ av aM w' ai
     ·simp only [aE,if_false] at av;simp only [toExit,Exit.inBlock,aE,if_false];exact bl _ _ av aM w' ai
 | loop c a_ =>
   intro aY s K h bO F Q B N J w U S a bB aO aK bl;obtain ⟨n,h⟩:=h;refine Dt h aK bl fun s1 oq ad lh aB bC CW ai fB=>?_;obtain ⟨b2,cQ,a4,aJ,aP,b'⟩:=ai;exact a_ _ _ _ ad bO F lh B N cQ bC b2 a4 aB (bB.ext aJ) (fun l a w h=>aO l a w (CW l a w h)) (b'.cD _ _) fun e s2 av aM w' dM=>fB e s2 av aM w' (dM.trans aJ aP)
 | scope c a_ =>
   intro aY s K h bO F Q B N J w U S a bB aO aK bl;exact Bd (a_ _ _ _ h bO F Q B N J w U S a bB aO aK bl) aO
 | rangeFunc f params assign body _ _ =>
   intro aY s K h bO F Q B N J w U S a bB aO aK bl;obtain ⟨C,e,aF,bt,al,av⟩:=h;exact m_ bt dH _ _ _ _ _ al bO F Q B N J w U S a bB aO aK fun aM w' ai=>bl _ _ av aM w' ai
def jg (H H':List au):Prop:=H'.length=H.length∧∀ (id:Nat) (o:au),H'[id]?=some o→o=.dead∨H[id]?=some o
theorem jg.refl (H:List au):jg H H:=⟨rfl,fun _ _ h=>.inr h⟩
theorem aL.m' {H':List au} (ah:aL B U J S w H) (h:jg H H'):aL B U J S w H' :=
 ⟨by rw [h.1];exact ah.cE,fun id o aq=>by
  rcases h.2 id o aq with rfl | aX
  ·trivial
  ·exact ah.obj id o aX,ah.cf,ah.base,ah.cX⟩
theorem a1.m' {H1 H':List au} {r:I} {v:Value} {w':World} (h:jg H1 H') (aC:a1 B U J S w H1 r v w'):a1 B U J S w H' r v w':=by
 obtain ⟨bn,cg,bH,a,b,c,d⟩:=aC;exact ⟨bn,cg,bH,a,b,c.m' h,d⟩
theorem Ec (dH : P.follows .mixedOrders = true) {k : Nat} {f : Func} {c : Code} (aQ : P.funcs[k]? = some f) (ag : f.body = some c) (aN : f.name ≠ "runtime.NumGoroutine") {A : c7} (bO : codeOk A c = true)
  {args:List I} {v:I} (aC:cq 8 v=true)
  (h:c2 P A k 0 none c 0 ⟨args++List.replicate (f.ntmps-args.length) .junk,[]⟩ fun e s=>(e=.normal∨e=.ret)∧∃ vs r,fc P s.H s.T f.results.toList=some vs∧bJ s.H 0 s.H.length 0 8 (g' vs)=some r∧(r=v∨r.settle=v)):lg P k args v:=by
 refine ⟨⟨ba.refl _ _,⟨f,aQ,by simp [ag],aN⟩,fun B U J S w xs ah _ ae=>?_⟩,aC⟩;refine callsIn_of_wp_marks aQ ag trivial ?_;have aK:=xN ah ae f.ntmps;have da:=(oc ah).1;refine og dH c 0 _ _ h bO Fence.wide _ B w.heap.size J w (hI U) S _ (.inl ⟨rfl,rfl⟩) (fun l a w aO=>aO.elim) aK fun e s av aM w' ai=>?_;obtain ⟨he,vs,r,aj,Cu,eg⟩:=av;obtain ⟨b2,cQ,a4,aJ,aP,b'⟩:=ai;have iI:LeavesInM Fence.wide 0 P f aM.tmps (fs B U J S w [] v) aM.defers .returning w':=by
  refine nE (U:=b2) (S:=a4) (J:=cQ) (B:=B) (H:=s.H) (lf:=U) (S0:=S) (w0:=w) aM.defers w' b'.M.2.1 b'.M.2.2 (da.trans aP) b'.H fun bT dr dj mh mi=>?_
  have bX:a9 .slot b2 cQ a4 bT s.T aM.tmps.toList:=⟨b'.T.len,fun i u v hu ae=>(b'.T.rel i u v hu ae).mono (Ext.refl _) (fun b o h=>⟨h,dj b o h⟩),fun i u v hu ae =>
   (b'.T.own i u v hu ae).mono (Ext.refl _) (fun b o h=>⟨h,dj b o h⟩) fun b ag=>⟨ag,dr b _ ag,fun _ h=>h⟩⟩
  obtain ⟨x,q1,aW⟩:=xr mi bX aj;have nr:=xi ah (fun id aE=>by simp at aE) Cu (a1.after aJ mh aW);refine ⟨x,q1,?_⟩;rcases eg with rfl | eg
  ·exact nr
  ·cases r with
   | ay cells len gu =>
     cases gu with
     | uniq z=>simp only [I.settle] at eg;subst eg;exact nr.settle
     | _=>simp only [I.settle] at eg;subst eg;exact nr
   | _=>simp only [I.settle] at eg;subst eg;exact nr
 rcases he with rfl | rfl
 ·exact iI
 ·exact iI
theorem GD (dH : P.follows .mixedOrders = true) {k : Nat} {f : Func} {c : Code} (aQ : P.funcs[k]? = some f) (ag : f.body = some c) (aN : f.name ≠ "runtime.NumGoroutine") {A : c7} (bO : codeOk A c = true)
  {lo:Nat} {args:List I} {H H':List au} {r:I} (ak:ba lo H H')
  (h:c2 P A k lo none c 0 ⟨args++List.replicate (f.ntmps-args.length) .junk,H⟩ fun e s=>(e=.normal∨e=.ret)∧jg s.H H'∧∃ vs,fc P s.H s.T f.results.toList=some vs∧g' vs=r):Sem P (.fn k) args H lo r H':=by
 refine ⟨ak,⟨f,aQ,by simp [ag],aN⟩,fun B U J S w xs ah _ ae=>?_⟩;refine callsIn_of_wp_marks aQ ag trivial ?_;have aK:=xN ah ae f.ntmps;have da:=(oc ah).1;refine og dH c 0 _ _ h bO Fence.wide _ B w.heap.size J w (hI U) S _ (.inl ⟨rfl,rfl⟩) (fun l a w aO=>aO.elim) aK fun e s av aM w' ai=>?_;obtain ⟨he,kq,vs,aj,rfl⟩:=av;obtain ⟨b2,cQ,a4,aJ,aP,b'⟩:=ai;have iI:LeavesInM Fence.wide 0 P f aM.tmps (fs B U J S w H' (g' vs)) aM.defers .returning w':=by
  refine nE (U:=b2) (S:=a4) (J:=cQ) (B:=B) (H:=s.H) (lf:=U) (S0:=S) (w0:=w) aM.defers w' b'.M.2.1 b'.M.2.2 (da.trans aP) b'.H fun bT dr dj mh mi=>?_
  have bX:a9 .slot b2 cQ a4 bT s.T aM.tmps.toList:=⟨b'.T.len,fun i u v hu ae=>(b'.T.rel i u v hu ae).mono (Ext.refl _) (fun b o h=>⟨h,dj b o h⟩),fun i u v hu ae =>
   (b'.T.own i u v hu ae).mono (Ext.refl _) (fun b o h=>⟨h,dj b o h⟩) fun b ag=>⟨ag,dr b _ ag,fun _ h=>h⟩⟩
  obtain ⟨v,q1,aW⟩:=xr mi bX aj;exact ⟨v,q1,(a1.after aJ mh aW).m' kq⟩
 rcases he with rfl | rfl
 ·exact iI
 ·exact iI
end
end Go.Proofs.YtfakoboiahbhaaaGreat.Ab


namespace Go.Proofs.YtfakoboiahbhaaaGreat.Ab
open Go
inductive ir where
 | sl (t:Nat) | hG (t:Nat) | hJ (t:Nat) | iA (v:I)
inductive e0 where
 | one | str (s:Nat) | arr (s:Nat)
inductive hQ where
 | int (k:IntKind) | str (n:Nat)
inductive hR where
 | iQ | nil (z:Nat) | A6
 | pT (a:e0) | zb (a:e0) | take | A5 | AZ | st (s:Nat) | box | x9 | alloc (z:List I)
 | zy (z:List I) (s bytes:Nat)
 | zx (z:List I) (s bytes:Nat)
 | pV | zd (n:Nat) | min | max
 | app (s bytes:Nat)
 | x3 (s bytes:Nat)
 | call (mode:Nat)
 | pick | build (z:List I) (bh:List (Nat×Nat)) | x' (len s:Nat) (z:List I) (ix:List Nat) | x_ (len s:Nat) (z:List I) (ix:List Nat)
 | zB | bin (op:BinOp) | oB (neq:Bool) | un (op:UnOp) | conv (k:IntKind)
 | zv (f:FuncId) (n m:Nat)
 | AX (s:Nat) (l h m:Bool)
 | zw | zp (e':hQ) | zo (e':hQ) (ok:Bool) (zero:Option I) | zn (e':hQ) | Ao | yh | ze
 | oP (off:Nat) | yp (off:Nat) (a:e0) | pM (s:Nat) | y3 (len s:Nat) | ext (i:Nat)
 | other (o:Oper) (mode:Nat)
structure cx where
 dst:Option Nat
 FA:List ir
 guard:Option (Nat×Bool)
 ip:Option Nat
 k:hR
inductive ey where
 | skip
 | j0 (draw:Bool) (l:List cx)
 | seq (a b:ey)
 | cond (c:ir) (a b:ey)
 | block (id:Nat) (c:ey)
 | loop (cD:Option (List Bool)) (c:ey)
 | exit (id:Nat)
 | ret
 | An (f:ir) (params:List Nat) (assign body:Code)
 | zC (it:Nat) (dst:Option Nat) (l:List cx)
 | two (pre:List cx) (a b:cx) (post:List cx)
noncomputable section
def lQ (v:I) (K:I→Prop):Prop:=match v with
 | .int k n=>K (.int k n)
 | .bool b=>K (.bool b)
 | .ay c n .shared=>K (.ay c n .shared)
 | .ay c n .full=>K (.ay c n .full)
 | .ay c n (.own z)=>K (.ay c n (.own z))
 | .ay c n (.uniq z)=>K (.ay c n (.uniq z))
 | .agg cs=>K (.agg cs)
 | .ptr id off=>K (.ptr id off)
 | .bU cs=>K (.bU cs)
 | .ref id off n cap sz=>K (.ref id off n cap sz)
 | .func f a b=>K (.func f a b)
 | .yield id=>K (.yield id)
 | .map id=>K (.map id)
 | .tuple vs=>K (.tuple vs)
 | .junk=>K .junk
 | .eB=>K .eB
 | .str s=>K (.str s)
 | .raw c n z=>K (.raw c n z)
 | .cl i g n z=>K (.cl i g n z)
 | .dn=>K .dn
theorem nh (v:I) (K:I→Prop):lQ v K=K v:=by
 unfold lQ;split <;> rfl
def ho:List I→Nat→(I→Prop)→Prop
 | [],_,K=>K .junk
 | h::_,0,K=>K h
 | _::t,n+1,K=>ho t n K
theorem iC:∀ (T:List I) (t:Nat) (K:I→Prop),ho T t K=K (c4 T t)
 | [],t,K=>rfl
 | h::T,0,K=>rfl
 | h::T,n+1,K=>by rw [ho,iC T n K];rfl
def iZ:List I→Nat→I→(List I→Prop)→Prop
 | [],_,_,K=>K []
 | _::t,0,v,K=>K (v::t)
 | h::t,n+1,v,K=>iZ t n v fun ja=>K (h::ja)
theorem j4:∀ (T:List I) (t:Nat) (v:I) (K:List I→Prop),iZ T t v K=K (gH T t v)
 | [],t,v,K=>rfl
 | h::T,0,v,K=>rfl
 | h::T,n+1,v,K=>by rw [iZ,j4 T n v];rfl
def mE (T:List I) (d:Option Nat) (v:I) (K:List I→Prop):Prop:=match d with
 | some d=>iZ T d v K
 | none=>K T
theorem xj (T:List I) (d:Option Nat) (v:I) (K:List I→Prop):mE T d v K=K (put T d v):=by
 cases d with
 | none=>rfl
 | some d=>exact j4 T d v K
def kF:List Bool→List I→(List I→Prop)→Prop
 | b::bs,v::vs,K=>kF bs vs fun du=>match b with
   | true=>K (v::du)
   | false=>K (.junk::du)
 | [],vs,K=>K vs
 | _::_,[],K=>K []
theorem y9:∀ (bs:List Bool) (vs:List I) (K:List I→Prop),kF bs vs K=K (eQ bs vs)
 | [],vs,K=>by simp [kF,eQ]
 | b::bs,[],K=>by simp [kF,eQ]
 | b::bs,v::vs,K=>by rw [kF,y9 bs vs];cases b <;> simp [eQ]
def j_ (v:I) (K:I→Prop):Prop:=match v with
 | .ay c n (.own _)=>K (.ay c n .shared)
 | .ay c n (.uniq _)=>K (.ay c n .shared)
 | .raw _ _ _=>K .junk
 | .cl id _ n z=>K (.ref id 0 n none z)
 | v=>K v
theorem j' (v:I) (K:I→Prop):j_ v K=K v.view:=by
 cases v with
 | ay c n k=>cases k <;> rfl
 | _=>rfl
def AY (T:List I) (t:Nat) (v:I) (K:I→List I→Prop):Prop:=match v with
 | .ay c n (.uniq z)=>iZ T t (.ay c n (.own z)) fun ff=>K (.ay c n .shared) ff
 | .ay c n (.own _)=>K (.ay c n .shared) T
 | .raw _ _ _=>K .junk T
 | .cl id _ n z=>K (.ref id 0 n none z) T
 | v=>K v T
theorem Fz (T:List I) (t:Nat) (v:I) (K:I→List I→Prop):AY T t v K=K v.view (fM T t v):=by
 cases v with
 | ay c n k =>
   cases k with
   | uniq z=>exact j4 _ _ _ _
   | _=>rfl
 | _=>rfl
def ga:List ir→List I→(List I→List I→Prop)→Prop
 | [],T,K=>K [] T
 | .iA v::r,T,K=>ga r T fun vs a7=>K (v::vs) a7
 | .hG t::r,T,K=>ho T t fun v=>iZ T t .junk fun ff=>ga r ff fun vs a7=>K (v::vs) a7
 | .hJ t::r,T,K=>ho T t fun v=>j_ v fun v=>iZ T t .junk fun ff=>ga r ff fun vs a7=>K (v::vs) a7
 | .sl t::r,T,K=>ho T t fun v=>AY T t v fun v ff=>ga r ff fun vs a7=>K (v::vs) a7
def hC (ea:Bool):List Bool→List Operand→List ir
 | _,[]=>[]
 | ts,.tmp t::rest=>(match ts.headD false,ea with | true,true=>.hG t | true,false=>.hJ t | false,_=>.sl t)::hC ea ts.tail rest
 | ts,x::rest=>.iA (match ea with | true=>aA [] x | false=>(aA [] x).view)::hC ea ts.tail rest
theorem iX (ea:Bool):∀ (xs:List Operand) (ts:List Bool) (T:List I) (K:List I→List I→Prop),ga (hC ea ts xs) T K=K (fo ea (rd T ts xs).1) (rd T ts xs).2
 | [],ts,T,K=>by cases ea <;> simp [hC,ga,rd,fo]
 | .tmp t::rest,ts,T,K=>by
   simp only [hC];cases bI:ts.headD false with
   | true =>
     cases ea with
     | true =>
       simp only [ga,iC,j4,rd,bI,iX true rest];rfl
     | false =>
       simp only [ga,iC,j4,j',rd,bI,iX false rest];rfl
   | false =>
     simp only [ga,iC,Fz,rd,bI,iX ea rest];cases ea
     ·simp only [fo,sx,I.ka (I.df _)]
     ·rfl
 | .const v::rest,ts,T,K=>by
   simp only [hC,ga,rd,iX ea rest];cases ea <;> rfl
 | .func v::rest,ts,T,K=>by
   simp only [hC,ga,rd,iX ea rest];cases ea <;> rfl
 | .global v::rest,ts,T,K=>by
   simp only [hC,ga,rd,iX ea rest];cases ea <;> rfl
end
end Go.Proofs.YtfakoboiahbhaaaGreat.Ab


namespace Go.Proofs.YtfakoboiahbhaaaGreat.Ab
open Go
noncomputable section
def eO {α:Type}:List α→Nat→(α→Prop)→Prop
 | [],_,_=>False
 | h::_,0,K=>K h
 | _::t,n+1,K=>eO t n K
theorem fb {α:Type}:∀ {l:List α} {n:Nat} {K:α→Prop},eO l n K→∃ x,l[n]?=some x∧K x
 | [],_,_,h=>h.elim
 | h::_,0,_,k=>⟨h,rfl,k⟩
 | _::t,n+1,K,k=>by simpa using fb (l:=t) (n:=n) (K:=K) k
theorem DW {α:Type}:∀ {l:List α} {n:Nat} {x:α} {K:α→Prop},l[n]?=some x→K x→eO l n K
 | [],_,_,_,h,_=>by simp at h
 | h::_,0,_,_,e,k=>by simp at e;subst e;exact k
 | _::t,n+1,_,K,e,k=>DW (l:=t) (n:=n) (by simpa using e) k
def jc:List I→Nat→I→(List I→Prop)→Prop
 | [],_,_,_=>False
 | _::t,0,v,K=>K (v::t)
 | h::t,n+1,v,K=>jc t n v fun ja=>K (h::ja)
theorem k5:∀ {l:List I} {n:Nat} {v:I} {K:List I→Prop},jc l n v K→n<l.length∧K (l.set n v)
 | [],_,_,_,h=>h.elim
 | _::_,0,_,_,k=>⟨by simp,k⟩
 | h::t,n+1,v,K,k=>by
   obtain ⟨ad,af⟩:=k5 (l:=t) (n:=n) k;exact ⟨by simpa using ad,af⟩
theorem A_:∀ {l:List I} {n:Nat} {v:I} {K:List I→Prop},n<l.length→K (l.set n v)→jc l n v K
 | [],_,_,_,h,_=>by simp at h
 | _::_,0,_,_,_,k=>k
 | h::t,n+1,v,K,e,k=>A_ (l:=t) (n:=n) (by simpa using e) k
def k6:List I→Nat→List I→(List I→Prop)→Prop
 | l,_,[],K=>K l
 | l,n,v::vs,K=>jc l n v fun l'=>k6 l' (n+1) vs K
theorem oe:∀ {vs l:List I} {n:Nat} {K:List I→Prop},k6 l n vs K→(n+vs.length≤l.length∨vs=[])∧K (setCells n vs l)
 | [],_,_,_,h=>⟨.inr rfl,h⟩
 | v::vs,l,n,K,h=>by
   obtain ⟨ad,af⟩:=k5 h;obtain ⟨aG,a6⟩:=oe af;refine ⟨.inl ?_,a6⟩;rcases aG with aG | rfl
   ·simp only [ta] at aG;simp only [sL];omega
   ·simp only [sL,uK];omega
theorem FK:∀ {vs l:List I} {n:Nat} {K:List I→Prop},n+vs.length≤l.length→K (setCells n vs l)→k6 l n vs K
 | [],_,_,_,_,h=>h
 | v::vs,l,n,K,ad,h=>A_ (by simp only [sL] at ad;omega) (FK (by simp only [sL] at ad;simp only [ta];omega) h)
def nV:Nat→List I→Nat→(List I→Prop)→Prop
 | 0,_,_,K=>K []
 | s+1,l,off,K=>eO l off fun v=>j_ v fun v=>lQ v fun v=>nV s l (off+1) fun vs=>K (v::vs)
theorem zW:∀ {s:Nat} {l:List I} {off:Nat} {K:List I→Prop},nV s l off K→(off+s≤l.length∨s=0)∧K (((l.drop off).take s).map I.view)
 | 0,l,off,K,h=>⟨.inr rfl,by simpa [nV] using h⟩
 | s+1,l,off,K,h=>by
   obtain ⟨v,ae,h⟩:=fb h;rw [j',nh] at h;obtain ⟨ad,af⟩:=zW h;have aU:=(sa.1 ae).1;refine ⟨.inl (by rcases ad with ad | rfl <;> omega),?_⟩;have aZ:l.drop off=v::l.drop (off+1):=by
    rw [sQ aU,(sa.1 ae).2]
   rw [aZ];simpa using af
def nW:Nat→List I→Nat→(List I→Prop)→Prop
 | 0,_,_,K=>K []
 | s+1,l,off,K=>eO l off fun v=>lQ v fun v=>nW s l (off+1) fun vs=>K (v::vs)
theorem zX:∀ {s:Nat} {l:List I} {off:Nat} {K:List I→Prop},nW s l off K→(off+s≤l.length∨s=0)∧K ((l.drop off).take s)
 | 0,l,off,K,h=>⟨.inr rfl,by simpa [nW] using h⟩
 | s+1,l,off,K,h=>by
   obtain ⟨v,ae,h⟩:=fb h;rw [nh] at h;obtain ⟨ad,af⟩:=zX h;have aU:=(sa.1 ae).1;refine ⟨.inl (by rcases ad with ad | rfl <;> omega),?_⟩;have aZ:l.drop off=v::l.drop (off+1):=by
    rw [sQ aU,(sa.1 ae).2]
   rw [aZ];simpa using af
def mm (a:e0) (l:List I) (off:Nat) (K:I→Prop):Prop:=match a with
 | .one=>eO l off fun v=>j_ v K
 | .str s=>nV s l off fun vs=>K (.agg vs)
 | .arr s=>off+s≤l.length∧K (.agg (((l.drop off).take s).map I.view))
def zO (a:e0) (l:List I) (off:Nat) (K:I→Prop):Prop:=match a with
 | .one=>eO l off fun v=>j_ v K
 | .str s=>nW s l off fun vs=>K (.agg vs)
 | .arr s=>off+s≤l.length∧K (.agg ((l.drop off).take s))
def gN (P:Program) (t:TypeId):Option e0:=match dI P t,P.underlying t with
 | true,some (.struct _)=>(match bS P t with | some (s+1)=>some (.str (s+1)) | _=>none)
 | true,_=>(bS P t).map .arr
 | false,some _=>some .one
 | false,none=>none
section
variable {P:Program}
theorem oy {t:TypeId} {a:e0} (h:gN P t=some a):(a=.one∧dI P t=false∧∃ d,P.underlying t=some d)∨(∃ s,(a=.str (s+1)∧bS P t=some (s+1)∨a=.arr s∧bS P t=some s)∧dI P t=true):=by
 unfold gN at h;split at h
 ·rename_i ad _;split at h
  ·rename_i s ai;cases h;exact .inr ⟨_,.inl ⟨rfl,ai⟩,ad⟩
  ·cases h
 ·rename_i ad _;simp only [rZ] at h;obtain ⟨s,ai,rfl⟩:=h;exact .inr ⟨s,.inr ⟨rfl,ai⟩,ad⟩
 ·rename_i d ad af;cases h;exact .inl ⟨rfl,ad,d,af⟩
 ·cases h
theorem nD {t:TypeId} {a:e0} (cd:gN P t=some a) {l:List I} {off:Nat} {K:I→Prop} (h:mm a l off K):∃ v,er P t l off=some v∧K v:=by
 rcases oy cd with ⟨rfl,ad,d,af⟩ | ⟨s,af,ad⟩
 ·obtain ⟨v,ae,h⟩:=fb h;rw [j'] at h;exact ⟨v.view,by simp [er,ad,af,ae],h⟩
 ·rcases af with ⟨rfl,af⟩ | ⟨rfl,af⟩
  ·obtain ⟨aJ,aP⟩:=zW h;exact ⟨_,by simp only [er,ad,af,r_];rw [if_pos (by omega)],aP⟩
  ·exact ⟨_,by simp only [er,ad,af,r_];rw [if_pos h.1],h.2⟩
theorem Ea {t:TypeId} {a:e0} (cd:gN P t=some a) {l:List I} {off:Nat} {K:I→Prop} (h:zO a l off K):∃ v,iw P t l off=some v∧K v.view:=by
 rcases oy cd with ⟨rfl,ad,d,af⟩ | ⟨s,af,ad⟩
 ·obtain ⟨v,ae,h⟩:=fb h;rw [j'] at h;exact ⟨v,by simp [iw,ad,af,ae],h⟩
 ·rcases af with ⟨rfl,af⟩ | ⟨rfl,af⟩
  ·obtain ⟨aJ,aP⟩:=zX h;exact ⟨_,by simp only [iw,ad,af,r_];rw [if_pos (by omega)],show K (I.view (.agg _)) from aP⟩
  ·exact ⟨_,by simp only [iw,ad,af,r_];rw [if_pos h.1],show K (I.view (.agg _)) from h.2⟩
end
def n8 (v:I) (K:I→Prop):Prop:=match v with
 | .ay c n (.uniq z)=>K (.ay c n (.own z))
 | v=>K v
theorem xK (v:I) (K:I→Prop):n8 v K=K v.settle:=by
 cases v with
 | ay c n k=>cases k <;> rfl
 | _=>rfl
def ke (v:I) (mS:I→Prop) (mT:List I→Prop):Prop:=match v with
 | .agg bF=>mT bF
 | .junk=>False
 | .tuple _=>False
 | .raw _ _ _=>False
 | v=>mS v
theorem lz {v:I} {mS:I→Prop} {mT:List I→Prop} (h:ke v mS mT):(v.cells=some [v]∧mS v)∨∃ bF,v.cells=some bF∧v=.agg bF∧mT bF:=by
 cases v <;> first | exact .inl ⟨rfl,h⟩ | exact h.elim | exact .inr ⟨_,rfl,rfl,h⟩
def jv:List (Nat×Nat)→List I→List I→(List I→Prop)→Prop
 | [],[],cs,K=>K cs
 | (off,size)::bh,v::vs,cs,K=>ke v (fun v=>match Nat.beq size 1 with | true=>jc cs off v fun cs=>jv bh vs cs K | false=>False) (fun bF=>match Nat.beq bF.length size,Nat.blt 0 size with | true,true=>k6 cs off bF fun cs=>jv bh vs cs K | _,_=>False)
 | _,_,_,_=>False
theorem kj {place:Nat→Option (Nat×Nat)}:∀ {ix:List Nat} {bh:List (Nat×Nat)} {vs cs:List I} {K:List I→Prop},jv bh vs cs K→ix.map place=bh.map some →
  ∃ c8,gm place cs (ix.zip vs)=some c8∧K c8
 | [],[],[],cs,K,h,_=>⟨cs,rfl,h⟩
 | i::ix,(off,size)::bh,v::vs,cs,K,h,aC=>by
   simp only [sx,List.cons.injEq] at aC;obtain ⟨jJ,nq⟩:=aC;simp only [jv] at h;simp only [List.zip_cons_cons,gm,jJ];rcases lz h with ⟨ad,h⟩ | ⟨bF,ad,_,h⟩
   ·split at h
    ·rename_i af;have af:=s_ af;obtain ⟨aG,h⟩:=k5 h;obtain ⟨c8,q1,aW⟩:=kj h nq;subst af;exact ⟨c8,by simp only [ad];rw [if_pos ⟨rfl,by omega⟩];exact q1,aW⟩
    ·exact h.elim
   ·split at h
    ·rename_i af a6;have af:=s_ af;(have a6:0<size:=by simpa [th] using a6);obtain ⟨aG,h⟩:=oe h;obtain ⟨c8,q1,aW⟩:=kj h nq;have bL:off+size≤cs.length:=by
      rcases aG with aG | aG
      ·omega
      ·rw [aG] at af;simp only [uK] at af;omega
     refine ⟨c8,?_,aW⟩;simp only [ad];rw [if_pos ⟨af,bL⟩];exact q1
    ·exact h.elim
 | [],_::_,_,_,_,_,aC=>by simp at aC
 | _::_,[],_,_,_,_,aC=>by simp at aC
 | [],[],_::_,_,_,h,_=>h.elim
 | _::_,_::_,[],_,_,h,_=>h.elim
def AM:BinOp→Bool
 | .shl=>true
 | .shr=>true
 | _=>false
theorem EZ {op:BinOp} {k k':IntKind} (h:(decide (k=k') || AM op)=true):k=k'∨op=.shl∨op=.shr:=by
 rw [tL] at h;rcases h with h | h
 ·exact .inl (of_decide_eq_true h)
 ·cases op <;> first | exact .inr (.inl rfl) | exact .inr (.inr rfl) | cases h
def oz (op:BinOp) (k:IntKind) (a b:Int) (K:I→Prop):Prop:=match op with
 | .add=>K (.int k (k.wrap (a+b)))
 | .sub=>K (.int k (k.wrap (a-b)))
 | .mul=>K (.int k (k.wrap (a*b)))
 | .quo=>b≠0∧K (.int k (k.wrap (a.tdiv b)))
 | .rem=>b≠0∧K (.int k (a.tmod b))
 | .eql=>K (.bool (decide (a=b)))
 | .neq=>K (.bool (decide (a≠b)))
 | .lss=>K (.bool (decide (a<b)))
 | .leq=>K (.bool (decide (a≤b)))
 | .gtr=>K (.bool (decide (b<a)))
 | .geq=>K (.bool (decide (b≤a)))
 | .and=>K (.int k (k.wrap (BitVec.ofInt k.bits a &&& BitVec.ofInt k.bits b).toNat))
 | .or=>K (.int k (k.wrap (BitVec.ofInt k.bits a ||| BitVec.ofInt k.bits b).toNat))
 | .xor=>K (.int k (k.wrap (BitVec.ofInt k.bits a ^^^ BitVec.ofInt k.bits b).toNat))
 | .shl=>0≤b∧K (.int k (k.wrap (a*2 ^ (Nat.min b.toNat k.bits))))
 | .shr=>0≤b∧K (.int k (a.fdiv (2 ^ (Nat.min b.toNat k.bits))))
 | _=>False
section
variable {P:Program}
theorem Bo (op:BinOp) (t:TypeId) (k k':IntKind) (a b:Int):fg P op t (.int k a) (.int k' b)=match op with
  | .shl=>hk .shl k a b
  | .shr=>hk .shr k a b
  | op=>if k=k' then jm op k a b else none:=by cases op <;> rfl
theorem BB {op:BinOp} {t:TypeId} {k k':IntKind} {a b:Int} {K:I→Prop} (av:k=k'∨op=.shl∨op=.shr) (h:oz op k a b K):∃ v,fg P op t (.int k a) (.int k' b)=some v∧K v:=by
 rw [Bo];cases op <;> simp only [oz] at h <;> try exact h.elim
 case shl=>exact ⟨_,by simp only [hk];rw [if_neg (by omega)],h.2⟩
 case shr=>exact ⟨_,by simp only [hk];rw [if_neg (by omega)],h.2⟩
 all_goals (obtain rfl:k=k':=by rcases av with av | av | av <;> first | exact av | cases av)
 all_goals simp only [if_true,jm]
 case quo=>exact ⟨_,by rw [if_neg h.1],h.2⟩
 case rem=>exact ⟨_,by rw [if_neg h.1],h.2⟩
 case neq =>
  have e:(a != b)=decide (a≠b):=by by_cases jy:a=b <;> simp [jy]
  exact ⟨_,rfl,by rw [e];exact h⟩
 case eql=>exact ⟨_,rfl,h⟩
 all_goals exact ⟨_,rfl,h⟩
end
end
end Go.Proofs.YtfakoboiahbhaaaGreat.Ab


namespace Go.Proofs.YtfakoboiahbhaaaGreat.Ab
open Go
noncomputable section
def xD (v:I) (H:List au) (K:I→List au→Prop):Prop:=match v with
 | .ay cells len (.uniq z)=>(len≠0∧K (.ref H.length 0 len none z) (H++[.cells cells]))∨(len=0∧K (.ay cells len (.uniq z)) H)
 | .ay [] 0 .full=>K (.ay [] 0 .full) H
 | .ref id off len cap sz=>K (.ref id off len cap sz) H
 | _=>False
def xx (a:e0) (v:I) (H:List au) (K:I→List au→Prop):Prop:=match v with
 | .ptr id off=>eO H id fun o=>match o with | .cells l=>mm a l off fun v=>K v H | .grow l _ _=>mm a l off fun v=>K v H | _=>False
 | .bU cells=>mm a cells 0 fun v=>K v H
 | _=>False
def xB (lo:Nat) (v:I) (H:List au) (K:I→List au→Prop):Prop:=match v with
 | .ptr id off=>match Nat.ble lo id with
   | true=>eO H id fun o=>match o with
     | .cells l=>(eO l off fun v=>match v with | .ay c n (.own z)=>K (.ay c n (.own z)) (H.set id (.cells (l.set off (.ay c n .shared)))) | .ay c n .full=>K (.ay c n .full) H | .raw c n z=>K (.ay c n (.uniq z)) (H.set id (.cells (l.set off .junk))) | _=>False)
     | .grow l g cU=>(eO l off fun v=>match v with | .ay c n (.own z)=>K (.ay c n (.own z)) (H.set id (.grow (l.set off (.ay c n .shared)) g cU)) | .ay c n .full=>K (.ay c n .full) H | _=>False)
     | _=>False
   | false=>False
 | _=>False
def xC (lo:Nat) (v:I) (H:List au) (K:I→List au→Prop):Prop:=match v with
 | .ptr id off=>match Nat.ble lo id with
   | true=>eO H id fun o=>match o with | .cells l=>(eO l off fun v=>match v with | .raw c n z=>n≠0∧K (.ref H.length 0 n none z) (H.set id (.cells (l.set off (.ref H.length 0 n none z)))++[.cells c]) | .ay c n .full=>K (.ay c n .full) H | _=>False) | _=>False
   | false=>False
 | _=>False
def xA (lo:Nat) (p v:I) (H:List au) (K:I→List au→Prop):Prop:=match p with
 | .ptr id off=>match Nat.ble lo id with
   | true=>eO H id fun o=>match o with
     | .cells l=>(match v with | .ay c n (.uniq z)=>c.all gG=true∧n≠0∧jc l off (.raw c n z) fun l'=>K .junk (H.set id (.cells l')) | _=>False)
     | _=>False
   | false=>False
 | _=>False
def xz (lo s:Nat) (p v:I) (H:List au) (K:I→List au→Prop):Prop:=match p with
 | .ptr id off=>match Nat.ble lo id with
   | true=>eO H id fun o=>match o with
     | .cells l=>ke v (fun v=>match Nat.beq s 1 with | true=>n8 v fun v=>jc l off v fun l'=>K .junk (H.set id (.cells l')) | false=>False) (fun bF=>match Nat.beq bF.length s,Nat.blt 0 s with | true,true=>k6 l off (bF.map I.settle) fun l'=>K .junk (H.set id (.cells l')) | _,_=>False)
     | .grow l g z=>ke v (fun v=>match Nat.beq s 1 with | true=>n8 v fun v=>jc l off v fun l'=>K .junk (H.set id (.grow l' g z)) | false=>False) (fun bF=>match Nat.beq bF.length s,Nat.blt 0 s with | true,true=>k6 l off (bF.map I.settle) fun l'=>K .junk (H.set id (.grow l' g z)) | _,_=>False)
     | _=>False
   | false=>False
 | _=>False
def xv (v:I) (H:List au) (K:I→List au→Prop):Prop :=
 ke v (fun v=>n8 v fun v=>K (.ptr H.length 0) (H++[.cells [v]])) (fun bF=>K (.ptr H.length 0) (H++[.cells (bF.map I.settle)]))
def xw (v:I) (H:List au) (K:I→List au→Prop):Prop :=
 ke v (fun v=>v.plain=true∧K (.bU [v]) H) (fun bF=>bF.all I.plain=true∧K (.bU bF) H)
def xe:List I→Int→(Int→Prop)→Prop
 | [],a,K=>K a
 | .int _ b::r,a,K=>xe r (min a b) K
 | _::_,_,_=>False
def xd:List I→Int→(Int→Prop)→Prop
 | [],a,K=>K a
 | .int _ b::r,a,K=>xd r (max a b) K
 | _::_,_,_=>False
def xu (lo s bytes:Nat) (x y:I) (H:List au) (K:I→List au→Prop):Prop:=match y with
 | .ay new m _=>(new.length=m*s∧m*bytes≤140737488355328)∧match x with
   | .ay cells n .full=>(m≠0∧(n+m)*bytes≤140737488355328∧cells.length=n*s)∧K (.cl H.length (H.length+1) (n+m) s) (H++[.grow (cells++new) (H.length+1) s,.dead])
   | .ay cells n (.uniq z)=>(z=s∧m≠0∧(n+m)*bytes≤140737488355328)∧K (.cl H.length (H.length+1) (n+m) z) (H++[.grow (cells++new) (H.length+1) z,.dead])
   | .cl id gid n z=>match Nat.ble lo id with
     | true=>eO H id fun o=>match o with
       | .grow l g cU=>((g=gid∧cU=z∧z=s∧l.length=n*z∧0<m∧(n+m)*bytes≤140737488355328)∧K (.cl H.length (H.length+1) (n+m) z) (H.set id .dead++[.grow (l++new) (H.length+1) z,.dead])) ∨
         ((g=gid∧cU=z∧z=s∧n*z<l.length∧0<m∧(n+m)*bytes≤140737488355328)∧K (.cl H.length (H.length+1) (n+m) z) (H.set id .dead++[.grow (l.take (n*z)++new) (H.length+1) z,.dead]))
       | _=>False
     | false=>False
   | _=>False
 | _=>False
def Al (z:List I) (s bytes:Nat) (a b:I) (H:List au) (K:I→List au→Prop):Prop:=match a,b with
 | .int _ n,.int _ c=>0≤n∧n≤c∧c.toNat*bytes≤140737488355328∧K (.ref H.length 0 n.toNat (some c.toNat) s) (H++[.cells (eX c.toNat z)])
 | _,_=>False
def Ak (z:List I) (s bytes:Nat) (a b:I) (H:List au) (K:I→List au→Prop):Prop:=match a,b with
 | .int _ n,.int _ c=>n=c∧0≤n∧c.toNat*bytes≤140737488355328∧K (.ay (eX c.toNat z) n.toNat (.uniq s)) H
 | _,_=>False
def Ag (v:I) (H:List au) (K:I→List au→Prop):Prop:=match v with
 | .ay _ n _=>K (.int .i64 n) H
 | .ref _ _ n _ _=>K (.int .i64 n) H
 | _=>False
def n1 (s bytes:Nat) (x:I) (new:List I) (m:Nat) (H:List au) (K:I→List au→Prop):Prop:=new.length=m*s∧m*bytes≤140737488355328∧match x with
    | .ay cells n .shared=>m=0∧K (.ay cells n .shared) H
    | .ay cells n .full=>m≠0∧(n+m)*bytes≤140737488355328∧cells.length=n*s∧K (.ay (cells++new) (n+m) (.uniq s)) H
    | .ay cells n (.own z)=>z=s∧(n+m)*bytes≤140737488355328∧K (.ay (cells++new) (n+m) (.own z)) H
    | .ay cells n (.uniq z)=>z=s∧(n+m)*bytes≤140737488355328∧K (.ay (cells++new) (n+m) (.uniq z)) H
    | _=>False
def xt (s bytes:Nat) (x y:I) (H:List au) (K:I→List au→Prop):Prop:=match y with
 | .ay new m _=>n1 s bytes x new m H K
 | .ref id off m _ z=>eO H id fun o=>match o with
   | .cells l=>off+m*z≤l.length∧n1 s bytes x (((l.drop off).take (m*z)).map I.view) m H K
   | _=>False
 | _=>False
def xy (s:Nat) (l h m:Bool) (x:I) (vs:List I) (H:List au) (K:I→List au→Prop):Prop:=match x with
 | .ay cells n c=>match l,h,m,vs with
   | false,false,false,[]=>match c with
     | .uniq z=>K (.ay (cells.take (n*z)) n (.uniq z)) H
     | .shared=>K (.ay (cells.take (n*s)) n .shared) H
     | _=>False
   | true,false,false,[.int _ i]=>match c with
     | .own z=>(s=z∧0≤i∧i≤n)∧K (.ay (cells.drop (i.toNat*z)) (n-i.toNat) (.own z)) H
     | .shared | .uniq _=>(0≤i∧i≤n)∧K (.ay ((cells.drop (i.toNat*s)).take ((n-i.toNat)*s)) (n-i.toNat) .shared) H
     | _=>False
   | false,true,false,[.int _ j]=>match c with
     | .uniq z=>(0≤j∧j≤n)∧K (.ay (cells.take (j.toNat*z)) j.toNat (.uniq z)) H
     | .shared | .own _=>(0≤j∧j≤n)∧K (.ay (cells.take (j.toNat*s)) j.toNat .shared) H
     | _=>False
   | true,true,false,[.int _ i,.int _ j]=>match c with
     | .shared | .own _ | .uniq _=>(0≤i∧i≤j∧j≤n)∧K (.ay ((cells.drop (i.toNat*s)).take ((j.toNat-i.toNat)*s)) (j.toNat-i.toNat) .shared) H
     | _=>False
   | false,true,true,[.int _ j,.int _ k]=>(j=k∧0≤j∧j≤n)∧K (.ay (cells.take (j.toNat*s)) j.toNat .full) H
   | true,true,true,[.int _ i,.int _ j,.int _ k]=>(j=k∧0≤i∧i≤j∧j≤n)∧K (.ay ((cells.drop (i.toNat*s)).take ((j.toNat-i.toNat)*s)) (j.toNat-i.toNat) .full) H
   | _,_,_,_=>False
 | .ref id off n cap sz=>match l,h,m,vs with
   | true,false,false,[.int _ i]=>sz=s∧(0≤i∧i≤n)∧(i<n→K (.ref id (off+i.toNat*s) (n-i.toNat) (cap.map (·-i.toNat)) sz) H)∧(i=n→K (.ay [] 0 .shared) H)
   | false,true,false,[.int _ j]=>sz=s∧(0≤j∧j≤n∧0<n)∧K (.ref id off j.toNat cap sz) H
   | _,_,_,_=>False
 | .cl id gid n z=>match l,h,m,vs with
   | false,true,false,[.int _ j]=>(0≤j∧j≤n)∧K (.cl id gid j.toNat z) H
   | _,_,_,_=>False
 | _=>False
def Ac (off:Nat) (v:I) (H:List au) (K:I→List au→Prop):Prop:=match v with
 | .ptr id o=>K (.ptr id (o+off)) H
 | .bU cells=>K (.bU (cells.drop off)) H
 | _=>False
def Ad (s:Nat) (x i:I) (H:List au) (K:I→List au→Prop):Prop:=match i with
 | .int _ n=>match x with
   | .ay cells len _=>(0≤n∧n<len)∧K (.bU (cells.drop (n.toNat*s))) H
   | .ref id off len _ _=>(0≤n∧n<len)∧K (.ptr id (off+n.toNat*s)) H
   | _=>False
 | _=>False
def Ae (len s:Nat) (x i:I) (H:List au) (K:I→List au→Prop):Prop:=match i with
 | .int _ n=>match x with
   | .ptr id off=>(0≤n∧n<len)∧K (.ptr id (off+n.toNat*s)) H
   | .bU cells=>(0≤n∧n<len)∧K (.bU (cells.drop (n.toNat*s))) H
   | _=>False
 | _=>False
def kG (e':hQ) (k:I):Prop:=match e',k with
 | .int q,.int fL _=>q=fL
 | .str n,.agg cs=>cs.length=n
 | _,_=>False
def Aj (lo:Nat) (e':hQ) (m k v:I) (H:List au) (K:I→List au→Prop):Prop:=match m with
 | .map id=>match Nat.ble lo id with
   | true=>kG e' k∧∃ es clock,H[id]?=some (.map es clock)∧∃ r,fy k es 0=some r∧(match r with
     | some i=>K .junk (H.set id (.map (es.modify i fun e=>(e.1,k,v)) clock))
     | none=>K .junk (H.set id (.map (es++[(clock,k,v)]) (clock+1))))
   | false=>False
 | _=>False
def Ai (e':hQ) (ok:Bool) (zero:Option I) (m k:I) (H:List au) (K:I→List au→Prop):Prop:=match m with
 | .map id=>kG e' k∧∃ es clock,H[id]?=some (.map es clock)∧∃ r,fy k es 0=some r∧(match r with
   | some i=>∃ e,es[i]?=some e∧(match ok with | true=>K (.tuple [e.2.2,.bool true]) H | false=>K e.2.2 H)
   | none=>∃ z,zero=some z∧(match ok with | true=>K (.tuple [z,.bool false]) H | false=>K z H))
 | _=>False
def Ah (lo:Nat) (e':hQ) (m k:I) (H:List au) (K:I→List au→Prop):Prop:=match m with
 | .map id=>match Nat.ble lo id with
   | true=>kG e' k∧∃ es clock,H[id]?=some (.map es clock)∧∃ r,fy k es 0=some r∧(match r with
     | some i=>K (.tuple []) (H.set id (.map (es.eraseIdx i) clock))
     | none=>K (.tuple []) H)
   | false=>False
 | _=>False
def Am (m:I) (H:List au) (K:I→List au→Prop):Prop:=match m with
 | .map id=>∃ es clock,H[id]?=some (.map es clock)∧K (.ptr H.length 0) (H++[.iter id clock [] clock])
 | _=>False
def Aa (p:I) (H:List au) (K:I→List au→Prop):Prop:=match p with
 | .ptr r 0=>∃ m since seen clock gd es e,H[r]?=some (.iter m since seen clock)∧seen.getLast?=some gd∧H[m]?=some (.map es clock)∧es.find? (fun e=>e.1 == gd)=some e∧K (.tuple [e.2.1,e.2.2]) H
 | _=>False
def Af (m:I) (H:List au) (K:I→List au→Prop):Prop:=match m with
 | .map id=>∃ es clock,H[id]?=some (.map es clock)∧K (.int .i64 es.length) H
 | _=>False
def bN (P:Program) (lo:Nat) (k:hR) (vs:List I) (H:List au) (K:I→List au→Prop):Prop:=match k with
 | .iQ=>match vs with | [v]=>K v H | _=>False
 | .nil z=>match vs with | [_]=>K (.ay [] 0 (.uniq z)) H | _=>False
 | .A6=>match vs with | [v]=>xD v H K | _=>False
 | .pT a=>match vs with | [v]=>xx a v H K | _=>False
 | .zb a=>match vs with | [.bU cells]=>mm a cells 0 fun v=>K v H | _=>False
 | .take=>match vs with | [v]=>xB lo v H K | _=>False
 | .A5=>match vs with | [v]=>xC lo v H K | _=>False
 | .AZ=>match vs with | [p,v]=>xA lo p v H K | _=>False
 | .st s=>match vs with | [p,v]=>xz lo s p v H K | _=>False
 | .box=>match vs with | [v]=>xv v H K | _=>False
 | .x9=>match vs with | [v]=>xw v H K | _=>False
 | .alloc z=>K (.ptr H.length 0) (H++[.cells z])
 | .zy z s bytes=>match vs with | [a,b]=>Al z s bytes a b H K | _=>False
 | .zx z s bytes=>match vs with | [a,b]=>Ak z s bytes a b H K | _=>False
 | .pV=>match vs with | [v]=>Ag v H K | _=>False
 | .zd n=>match vs with | [.ay _ _ _] | [.ref _ _ _ _ _] | [.map _]=>False | [_]=>K (.int .i64 n) H | _=>False
 | .min=>match vs with | .int k a::r=>xe r a fun n=>K (.int k n) H | _=>False
 | .max=>match vs with | .int k a::r=>xd r a fun n=>K (.int k n) H | _=>False
 | .app s bytes=>match vs with | [x,y]=>xt s bytes x y H K | _=>False
 | .x3 s bytes=>match vs with | [x,y]=>xu lo s bytes x y H K | _=>False
 | .call _=>False
 | .pick=>match vs with | [.bool c,a,b]=>(match c with | true=>K a H | false=>K b H) | _=>False
 | .build z bh=>jv bh vs z fun cs=>K (.agg cs) H
 | .x' len s z ix=>jv (ix.map fun i=>(i*s,s)) vs (eX len z) fun cs=>K (.ay cs len (.uniq s)) H
 | .x_ len s z ix=>jv (ix.map fun i=>(i*s,s)) vs (eX len z) fun cs=>K (.ay cs len .full) H
 | .zB=>match vs with | [.ptr id off]=>K (.ptr id off) H | [.bU cells]=>K (.bU cells) H | _=>False
 | .bin op=>match vs with | [.int k a,.int k' b]=>(match decide (k=k') || AM op with | true=>oz op k a b fun v=>K v H | false=>False) | _=>False
 | .oB neq=>match vs with | [.bool a,.bool b]=>(match neq with | true=>K (.bool (!(a == b))) H | false=>K (.bool (a == b)) H) | _=>False
 | .un op=>match vs with
   | [.bool b]=>(match op with | .not=>K (.bool !b) H | _=>False)
   | [.int k n]=>(match op with | .neg=>K (.int k (k.wrap (-n))) H | _=>False)
   | _=>False
 | .conv k=>match vs with | [.int _ n]=>K (.int k (k.wrap n)) H | _=>False
 | .zv f n m=>(match Nat.beq vs.length (n+m) with | true=>K (.func f (vs.take n) (vs.drop n)) H | false=>False)
 | .AX s l h m=>match vs with | x::vs=>xy s l h m x vs H K | _=>False
 | .zw=>K (.map H.length) (H++[.map [] 0])
 | .zp e'=>match vs with | [m,k,v]=>Aj lo e' m k v H K | _=>False
 | .zo e' ok z=>match vs with | [m,k]=>Ai e' ok z m k H K | _=>False
 | .zn e'=>match vs with | [m,k]=>Ah lo e' m k H K | _=>False
 | .Ao=>match vs with | [m]=>Am m H K | _=>False
 | .yh=>match vs with | [m]=>Aa m H K | _=>False
 | .ze=>match vs with | [m]=>Af m H K | _=>False
 | .oP off=>match vs with | [v]=>Ac off v H K | _=>False
 | .yp off a=>match vs with | [.agg cs]=>zO a cs off fun v=>K v H | _=>False
 | .pM s=>match vs with | [x,i]=>Ad s x i H K | _=>False
 | .y3 len s=>match vs with | [x,i]=>Ae len s x i H K | _=>False
 | .ext i=>match vs with | [.tuple ws]=>(eO ws i fun v=>j_ v fun v=>K v H) | _=>False
 | .other o mode=>∃ v H',(∀ C,a8 P C lo o mode vs H=some (v,H'))∧K v H'
def nZ (P:Program) (o:Oper) (mode:Nat) (x:Operand):hR:=match mode with
 | 0=>match iO x,P.underlying o.type with
   | true,some (.slice e)=>(match bS P e with | some z=>.nil z | none=>.other o mode)
   | _,_=>.iQ
 | 1=>.A6
 | _=>.other o mode
def mj (P:Program) (t:TypeId):Option (hQ×TypeId):=match jP P t with
 | some (k,e)=>(match P.underlying k with
   | some (.int q)=>some (.int q,e)
   | some (.struct bE)=>some (.str bE.size,e)
   | _=>none)
 | none=>none
def hb (P:Program) (o:Oper) (mode:Nat):hR:=match o.op with
 | .move x | .assign x=>nZ P o mode x
 | .load t _=>match mode with
   | 0=>(match gN P t with | some a=>.pT a | none=>.other o mode)
   | 2=>(match P.underlying t with | some (.slice _)=>.A5 | _=>.other o mode)
   | 3=>(match gN P t with | some a=>.zb a | none=>.other o mode)
   | 5=>.other o mode
   | _=>match P.underlying t with | some (.slice _)=>.take | _=>.other o mode
 | .store t _ _=>match mode,bS P t with | 0,some s=>.st s | _+1,some 1=>.AZ | _,_=>.other o mode
 | .box _ _=>match mode with | 0=>.box | _=>.x9
 | .alloc t=>match mode with
   | 0=>(match zeroCells P t with | some z=>.alloc z | none=>.other o mode)
   | _=>(match zeroCells P t,P.underlying t with
     | some [.ay [] 0 .full],some (.slice e)=>(match bS P e with | some s=>.alloc [.ay [] 0 (.own s)] | none=>.other o mode)
     | _,_=>.other o mode)
 | .makeSlice t _ _=>match mode,P.underlying t with
   | 0,some (.slice e)=>(match bS P e,zeroCells P e,(P.info? e).map (·.bytes) with
     | some s,some z,some bytes=>(match Nat.beq z.length s && Nat.blt 0 s && Nat.ble 1 bytes with | true=>.zy z s bytes | false=>.other o mode)
     | _,_,_=>.other o mode)
   | _+1,some (.slice e)=>(match bS P e,zeroCells P e,(P.info? e).map (·.bytes) with
     | some s,some z,some bytes=>(match Nat.beq z.length s && Nat.blt 0 s && Nat.ble 1 bytes with | true=>.zx z s bytes | false=>.other o mode)
     | _,_,_=>.other o mode)
   | _,_=>.other o mode
 | .call c=>match c.callee with
   | .builtin b=>match b with
     | .len=>(match iP P c.argTypes[0]? with
       | true=>.pV
       | false=>match (c.argTypes[0]?).bind P.underlying with | some (.array n _)=>.zd n | some (.map _ _)=>.ze | _=>.other o mode)
     | .delete=>(match (c.argTypes[0]?).bind (mj P) with | some x=>.zn x.1 | none=>.other o mode)
     | .min=>.min
     | .max=>.max
     | .append=>(match c.argTypes.toList with
       | [t,dm]=>(match Nat.beq t dm,P.underlying t with
         | true,some (.slice e)=>(match bS P e,zeroCells P e,(P.info? e).map (·.bytes) with
           | some s,some z,some bytes=>(match Nat.beq z.length s && Nat.blt 0 s && Nat.ble 1 bytes,mode with | true,0=>.app s bytes | true,_=>.x3 s bytes | false,_=>.other o mode)
           | _,_,_=>.other o mode)
         | _,_=>.other o mode)
       | _=>.other o mode)
     | _=>.other o mode
   | .value _=>.call mode
   | .invoke _ _=>.other o mode
 | .makeMap t r=>match r,P.underlying t with | none,some (.map _ _)=>.zw | _,_=>.other o mode
 | .mapUpdate t _ _ _=>match mj P t with | some x=>.zp x.1 | none=>.other o mode
 | .lookup t _ _ ok=>match mj P t with | some x=>.zo x.1 ok (oj P x.2) | none=>.other o mode
 | .range t _=>match P.underlying t with | some (.map _ _)=>.Ao | _=>.other o mode
 | .entry _=>.yh
 | .pick _ _ _=>.pick
 | .build t parts=>match zeroCells P t,P.underlying t with
   | some z,some (.struct bE)=>(match bE.toList.all (fun f=>(bS P f.type).isSome),mr (fun i=>(bE[i]?).bind fun f=>(bS P f.type).map fun s=>(f.offset,s)) (parts.toList.map (·.1)) with
     | true,some bh=>.build z bh
     | _,_=>.other o mode)
   | some z,some (.array _ e)=>(match bS P e with | some s=>.build z (parts.toList.map fun p=>(p.1*s,s)) | none=>.other o mode)
   | _,_=>.other o mode
 | .buildSlice t len parts=>match P.underlying t with
   | some (.slice e)=>(match bS P e,zeroCells P e with
     | some s,some z=>(match Nat.beq z.length s && Nat.blt 0 s && Nat.ble (len*s) 16777216,mode with | true,0=>.x' len s z (parts.toList.map (·.1)) | true,_=>.x_ len s z (parts.toList.map (·.1)) | false,_=>.other o mode)
     | _,_=>.other o mode)
   | _=>.other o mode
 | .nilCheck _=>.zB
 | .binOp op t _ y _=>match iO y,P.underlying t with
   | false,some (.int _)=>.bin op
   | false,some .bool=>(match op with | .eql=>.oB false | .neq=>.oB true | _=>.other o mode)
   | _,_=>.other o mode
 | .unOp op _ _=>.un op
 | .convert src dst _=>match P.underlying src,P.underlying dst with
   | some _,some (.int k)=>.conv k
   | _,_=>.other o mode
 | .makeFunc fn first captured=>match fn with | .func f=>.zv f first.size captured.size | _=>.other o mode
 | .slice t _ l h m=>match P.underlying t with
   | some (.slice e)=>(match bS P e with | some s=>.AX s l.isSome h.isSome m.isSome | none=>.other o mode)
   | _=>.other o mode
 | .fieldAddr t _ f=>match P.underlying t with
   | some (.struct bE)=>(match (bE[f]?).bind fun g=>(bS P g.type).map fun s=>(s,g.offset) with
     | some (s+1,off)=>.oP off
     | _=>.other o mode)
   | _=>.other o mode
 | .field t _ f=>match P.underlying t with
   | some (.struct bE)=>(match (bE[f]?).bind fun g=>(gN P g.type).map fun a=>(a,g.offset) with
     | some (a,off)=>.yp off a
     | _=>.other o mode)
   | _=>.other o mode
 | .indexAddr t _ _=>match P.underlying t with
   | some (.slice e)=>(match bS P e with | some s=>.pM s | none=>.other o mode)
   | some (.array len e)=>(match bS P e with | some s=>.y3 len s | none=>.other o mode)
   | _=>.other o mode
 | .extract _ i=>.ext i
 | _=>.other o mode
where
 mr {α β:Type} (f:α→Option β):List α→Option (List β)
  | []=>some []
  | x::xs=>match f x with | some y=>(mr f xs).map (y::·) | none=>none
end
end Go.Proofs.YtfakoboiahbhaaaGreat.Ab


namespace Go.Proofs.YtfakoboiahbhaaaGreat.Ab
open Go
section
variable {P:Program} {H:List au}
theorem f' {n bytes:Nat} (ad:n*bytes≤140737488355328) (af:1≤bytes):fp n bytes=true:=by
 simp only [fp,sv,uw];exact ⟨ad,af⟩
theorem Er {lo:Nat} {t:TypeId} {a:e0} (cd:gN P t=some a) {v:I} {K:I→List au→Prop} (h:xx a v H K):∃ r H',dO P lo 0 t H [v]=some (r,H')∧K r H':=by
 unfold xx at h;split at h
 ·obtain ⟨x,ak,h⟩:=fb h;split at h
  ·obtain ⟨r,ad,af⟩:=nD cd h;exact ⟨r,H,by simp [dO,dR,ak,ad],af⟩
  ·obtain ⟨r,ad,af⟩:=nD cd h;exact ⟨r,H,by simp [dO,dR,ak,ad],af⟩
  ·exact h.elim
 ·obtain ⟨r,ad,af⟩:=nD cd h;exact ⟨r,H,by simp [dO,dR,ad],af⟩
 ·exact h.elim
theorem Ew {lo mode:Nat} {t e:TypeId} (hm:mode≠0) (pq:mode≠2) (yJ:mode≠3) (yK:mode≠5) (ax:P.underlying t=some (.slice e)) {v:I} {K:I→List au→Prop} (h:xB lo v H K):∃ r H',dO P lo mode t H [v]=some (r,H')∧K r H':=by
 unfold xB at h;split at h
 ·split at h
  ·rename_i bD;obtain ⟨x,ak,h⟩:=fb h;have bD:=tX bD;split at h
   ·obtain ⟨v,ae,h⟩:=fb h;split at h
    ·refine ⟨_,_,?_,h⟩;cases mode with
     | zero=>exact absurd rfl hm
     | succ m=>simp only [dO,ax,bD,if_true,ak,ae]
    ·refine ⟨_,_,?_,h⟩;cases mode with
     | zero=>exact absurd rfl hm
     | succ m=>simp only [dO,ax,bD,if_true,ak,ae];rfl
    ·refine ⟨_,_,?_,h⟩;cases mode with
     | zero=>exact absurd rfl hm
     | succ m=>simp only [dO,ax,bD,if_true,ak,ae];rw [if_neg pq]
    ·exact h.elim
   ·obtain ⟨v,ae,h⟩:=fb h;split at h
    ·refine ⟨_,_,?_,h⟩;cases mode with
     | zero=>exact absurd rfl hm
     | succ m=>simp only [dO,ax,bD,if_true,ak,ae]
    ·refine ⟨_,_,?_,h⟩;cases mode with
     | zero=>exact absurd rfl hm
     | succ m=>simp only [dO,ax,bD,if_true,ak,ae]
    ·exact h.elim
   ·exact h.elim
  ·exact h.elim
 ·exact h.elim
theorem Ev {lo:Nat} {t e:TypeId} (ax:P.underlying t=some (.slice e)) {v:I} {K:I→List au→Prop} (h:xC lo v H K):∃ r H',dO P lo 2 t H [v]=some (r,H')∧K r H':=by
 unfold xC at h;split at h
 ·split at h
  ·rename_i bD;obtain ⟨x,ak,h⟩:=fb h;have bD:=tX bD;split at h
   ·obtain ⟨v,ae,h⟩:=fb h;split at h
    ·exact ⟨_,_,by simp only [dO,ax,bD,if_true,ak,ae];rw [if_neg h.1],h.2⟩
    ·exact ⟨_,_,by simp only [dO,ax,bD,if_true,ak,ae];rfl,h⟩
    ·exact h.elim
   ·exact h.elim
  ·exact h.elim
 ·exact h.elim
theorem Et {lo mode:Nat} {t:TypeId} (hm:mode≠0) (ai:bS P t=some 1) {p v:I} {K:I→List au→Prop} (h:xA lo p v H K):∃ r H',hA P lo mode t H [p,v]=some (r,H')∧K r H':=by
 unfold xA at h;split at h
 ·split at h
  ·rename_i bD;have bD:=tX bD;obtain ⟨x,ak,h⟩:=fb h;split at h
   ·split at h
    ·obtain ⟨ad,af,h⟩:=h;obtain ⟨aG,h⟩:=k5 h;refine ⟨.junk,_,?_,h⟩;cases mode with
     | zero=>exact absurd rfl hm
     | succ m =>
       simp only [hA,lp,ai];rw [if_pos ⟨ad,af⟩];simp only [g6,bD,if_true,ak];rw [if_pos aG];rfl
    ·exact h.elim
   ·exact h.elim
  ·exact h.elim
 ·exact h.elim
theorem Eu {lo s:Nat} {t:TypeId} (ai:bS P t=some s) {p v:I} {K:I→List au→Prop} (h:xz lo s p v H K):∃ r H',hA P lo 0 t H [p,v]=some (r,H')∧K r H':=by
 unfold xz at h;split at h
 ·split at h
  ·rename_i bD;have bD:=tX bD;obtain ⟨x,ak,h⟩:=fb h;split at h
   ·rcases lz h with ⟨ad,av⟩ | ⟨bF,ad,_,av⟩
    ·split at av
     ·rename_i af;have af:=s_ af;rw [xK] at av;obtain ⟨aG,av⟩:=k5 av;clear h;subst af;exact ⟨.junk,_,by simp only [hA,iy,ai,ad,g7,bD,if_true,ak];rw [if_pos ⟨rfl,by omega⟩];rfl,av⟩
     ·exact av.elim
    ·split at av
     ·rename_i af a6;have af:=s_ af;(have a6:0<s:=by simpa [th] using a6);obtain ⟨aG,av⟩:=oe av;(have bL:=aG.resolve_right fun aG=>by simp only [List.map_eq_nil_iff] at aG;rw [aG] at af;simp only [uK] at af;omega);simp only [sV,af] at bL;exact ⟨.junk,_,by simp only [hA,iy,ai,ad,g7,bD,if_true,ak];rw [if_pos ⟨af,bL⟩];rfl,av⟩
     ·exact av.elim
   ·rcases lz h with ⟨ad,av⟩ | ⟨bF,ad,_,av⟩
    ·split at av
     ·rename_i af;have af:=s_ af;rw [xK] at av;obtain ⟨aG,av⟩:=k5 av;clear h;subst af;exact ⟨.junk,_,by simp only [hA,iy,ai,ad,g7,bD,if_true,ak];rw [if_pos ⟨rfl,by omega⟩];rfl,av⟩
     ·exact av.elim
    ·split at av
     ·rename_i af a6;have af:=s_ af;(have a6:0<s:=by simpa [th] using a6);obtain ⟨aG,av⟩:=oe av;(have bL:=aG.resolve_right fun aG=>by simp only [List.map_eq_nil_iff] at aG;rw [aG] at af;simp only [uK] at af;omega);simp only [sV,af] at bL;exact ⟨.junk,_,by simp only [hA,iy,ai,ad,g7,bD,if_true,ak];rw [if_pos ⟨af,bL⟩];rfl,av⟩
     ·exact av.elim
   ·exact h.elim
  ·exact h.elim
 ·exact h.elim
theorem Ep {v:I} {K:I→List au→Prop} (h:xv v H K):∃ r H',gC 0 H [v]=some (r,H')∧K r H':=by
 unfold xv at h;rcases lz h with ⟨ad,h⟩ | ⟨bF,ad,_,h⟩
 ·rw [xK] at h;exact ⟨_,_,by simp only [gC,ad,sd,sx,List.map_nil],h⟩
 ·exact ⟨_,_,by simp only [gC,ad,sd],h⟩
theorem Eo {mode:Nat} (hm:mode≠0) {v:I} {K:I→List au→Prop} (h:xw v H K):∃ r H',gC mode H [v]=some (r,H')∧K r H':=by
 unfold xw at h;cases mode with
 | zero=>exact absurd rfl hm
 | succ m =>
 rcases lz h with ⟨ad,af,h⟩ | ⟨bF,ad,_,af,h⟩
 ·have aG:[v].all I.plain=true:=by simp [af]
  exact ⟨_,_,by simp only [gC,ad,aG],h⟩
 ·exact ⟨_,_,by simp only [gC,ad,af],h⟩
theorem zu:∀ (l:List I) (a:Int) {K:Int→Prop},xe l a K→∃ n,kN l a=some n∧K n
 | [],a,K,h=>⟨a,rfl,h⟩
 | .int k b::r,a,K,h=>by
   obtain ⟨n,ad,af⟩:=zu r _ h;(have e:min a b=if b<a then b else a:=by split <;> omega);rw [e] at ad;exact ⟨n,ad,af⟩
 | .junk::_,_,_,h | .bool _::_,_,_,h | .eB::_,_,_,h | .ptr _ _::_,_,_,h | .bU _::_,_,_,h | .ay _ _ _::_,_,_,h | .ref _ _ _ _ _::_,_,_,h | .func _ _ _::_,_,_,h | .yield _::_,_,_,h | .map _::_,_,_,h
 | .agg _::_,_,_,h | .tuple _::_,_,_,h | .str _::_,_,_,h | .raw _ _ _::_,_,_,h | .cl _ _ _ _::_,_,_,h=>h.elim
theorem zt:∀ (l:List I) (a:Int) {K:Int→Prop},xd l a K→∃ n,kM l a=some n∧K n
 | [],a,K,h=>⟨a,rfl,h⟩
 | .int k b::r,a,K,h=>by
   obtain ⟨n,ad,af⟩:=zt r _ h;(have e:max a b=if b > a then b else a:=by split <;> omega);rw [e] at ad;exact ⟨n,ad,af⟩
 | .junk::_,_,_,h | .bool _::_,_,_,h | .eB::_,_,_,h | .ptr _ _::_,_,_,h | .bU _::_,_,_,h | .ay _ _ _::_,_,_,h | .ref _ _ _ _ _::_,_,_,h | .func _ _ _::_,_,_,h | .yield _::_,_,_,h | .map _::_,_,_,h
 | .agg _::_,_,_,h | .tuple _::_,_,_,h | .str _::_,_,_,h | .raw _ _ _::_,_,_,h | .cl _ _ _ _::_,_,_,h=>h.elim
theorem Ex {lo:Nat} {t:TypeId} {x:Operand} {v:I} {K:I→List au→Prop} (h:xD v H K):∃ r H',eP P lo 1 t x H [v]=some (r,H')∧K r H':=by
 unfold xD at h;split at h
 ·rcases h with h | h
  ·exact ⟨_,_,by simp only [eP];rw [if_neg h.1],h.2⟩
  ·exact ⟨_,_,by simp only [eP];rw [if_pos h.1],h.2⟩
 ·exact ⟨_,_,rfl,h⟩
 ·exact ⟨_,_,rfl,h⟩
 ·exact h.elim
theorem z' {t e:TypeId} {s bytes:Nat} (ax:P.underlying t=some (.slice e)) (ai:bS P e=some s) {z:List I} (bm:zeroCells P e=some z) (ag:(P.info? e).map (·.bytes)=some bytes)
  (eo:z.length=s) (aS:0<s) (ad:1≤bytes) {x y:I} {new:List I} {m:Nat} (eH:appended H y=some (m,new)) {K:I→List au→Prop} (h:n1 s bytes x new m H K):∃ r H',iU P #[t,t] H [x,y]=some (r,H')∧K r H':=by
 unfold n1 at h;obtain ⟨aB,aH,h⟩:=h;have ao:new.length=m*s∧0<s∧z.length=s∧fp m bytes=true:=⟨aB,aS,eo,f' aH ad⟩;have key:∀ {r:I},e4 P H t t x y=some r→iU P #[t,t] H [x,y]=some (r,H):=fun h=>by simp [iU,h]
 have beq:Nat.beq t t=true:=uL t;split at h
 ·obtain ⟨bo,h⟩:=h;subst bo;refine ⟨_,_,key ?_,h⟩;simp only [e4,ax,ai,ag,bm,beq,eH];rw [if_pos ao];rfl
 ·obtain ⟨bo,cI,ez,h⟩:=h;refine ⟨_,_,key ?_,h⟩;simp only [e4,ax,ai,ag,bm,beq,eH];rw [if_pos ao];simp only [bo,if_false];rw [if_pos ⟨f' cI ad,ez⟩]
 ·obtain ⟨bo,cI,h⟩:=h;refine ⟨_,_,key ?_,h⟩;simp only [e4,ax,ai,ag,bm,beq,eH];rw [if_pos ao];simp only [bo];rw [if_pos ⟨trivial,f' cI ad⟩]
 ·obtain ⟨bo,cI,h⟩:=h;refine ⟨_,_,key ?_,h⟩;simp only [e4,ax,ai,ag,bm,beq,eH];rw [if_pos ao];simp only [bo];rw [if_pos ⟨trivial,f' cI ad⟩]
 ·exact h.elim
theorem En {t e:TypeId} {s bytes:Nat} (ax:P.underlying t=some (.slice e)) (ai:bS P e=some s) {z:List I} (bm:zeroCells P e=some z) (ag:(P.info? e).map (·.bytes)=some bytes)
  (eo:z.length=s) (aS:0<s) (ad:1≤bytes) {x y:I} {K:I→List au→Prop} (h:xt s bytes x y H K):∃ r H',iU P #[t,t] H [x,y]=some (r,H')∧K r H':=by
 unfold xt at h;split at h
 ·rename_i new m c;exact z' ax ai bm ag eo aS ad (y:=.ay new m c) rfl h
 ·rename_i id off m c cU;obtain ⟨o,aq,h⟩:=fb h;split at h
  ·rename_i l;obtain ⟨bo,h⟩:=h;refine z' ax ai bm ag eo aS ad (y:=.ref id off m c cU) ?_ h;simp only [appended,lenOf,rowOf,aq,if_pos bo]
  ·exact h.elim
 ·exact h.elim
theorem Nat.BG {a b:Nat} (h:b=a):Nat.blt a b=false:=by
 cases ag:Nat.blt a b with
 | false=>rfl
 | true=>have:=tX ag;omega
theorem Em {lo:Nat} {t e:TypeId} {s bytes:Nat} (ax:P.underlying t=some (.slice e)) (ai:bS P e=some s) {z:List I} (bm:zeroCells P e=some z) (ag:(P.info? e).map (·.bytes)=some bytes)
  (eo:z.length=s) (aS:0<s) (ad:1≤bytes) {x y:I} {K:I→List au→Prop} (h:xu lo s bytes x y H K):∃ r H',iV P lo #[t,t] H [x,y]=some (r,H')∧K r H':=by
 unfold xu at h;split at h
 ·rename_i new m c;obtain ⟨⟨aB,aH⟩,h⟩:=h;have eH:appended H (.ay new m c)=some (m,new):=rfl;have ao:new.length=m*s∧0<s∧z.length=s∧fp m bytes=true:=⟨aB,aS,eo,f' aH ad⟩;have beq:Nat.beq t t=true:=uL t;split at h
  ·rename_i cells n;obtain ⟨⟨bo,cI,ez⟩,h⟩:=h;refine ⟨_,_,?_,h⟩;have q:e4 P H t t (.ay cells n .full) (.ay new m c)=some (.ay (cells++new) (n+m) (.uniq s)):=by
    simp only [e4,ax,ai,ag,bm,beq,eH];rw [if_pos ao];simp only [bo,if_false];rw [if_pos ⟨f' cI ad,ez⟩]
   simp only [iV,i_,h',q];rw [if_neg (by omega)]
  ·rename_i cells n cU;obtain ⟨⟨rfl,bo,cI⟩,h⟩:=h;refine ⟨_,_,?_,h⟩;have q:e4 P H t t (.ay cells n (.uniq cU)) (.ay new m c)=some (.ay (cells++new) (n+m) (.uniq cU)):=by
    simp only [e4,ax,ai,ag,bm,beq,eH];rw [if_pos ao];rw [if_pos ⟨trivial,f' cI ad⟩]
   simp only [iV,i_,h',q];rw [if_neg (by omega)]
  ·rename_i id gid n z;split at h
   ·rename_i bD;have bD:=tX bD;obtain ⟨o,aE,h⟩:=fb h;split at h
    ·rcases h with ⟨⟨cb,b8,dY,bo,cI,ez⟩,bL⟩ | ⟨⟨cb,b8,dY,bo,cI,ez⟩,bL⟩
     ·subst cb b8 dY;refine ⟨_,_,?_,bL⟩;have iE:=Nat.BG bo;simp only [iV,i_,aE,iE,Bool.false_and];simp only [h',bD,if_true,ax,aE,ai,ag,bm,eH];rw [if_pos ⟨trivial,trivial,trivial,trivial,bo,aB,aS,cI,eo,f' aH ad,f' ez ad⟩]
     ·rename_i l g cU;subst cb b8 dY;refine ⟨_,_,?_,bL⟩;have iE:Nat.blt (n*cU) l.length=true:=uc bo;have fj:Nat.ble lo id=true:=uc bD;have CA:=(sa.1 aE).1;(have pg:(H.set id (.grow (l.take (n*cU)) g cU))[id]?=some (.grow (l.take (n*cU)) g cU):=by rw [sg CA]);simp only [iV,i_,aE,iE,fj,Bool.and_self];simp only [h',bD,if_true,ax,pg,ai,ag,bm];have Ca:appended (H.set id (.grow (l.take (n*cU)) g cU)) (.ay new m c)=some (m,new):=rfl;simp only [Ca];rw [if_pos ⟨trivial,trivial,trivial,trivial,by rw [List.length_take];omega,aB,aS,cI,eo,f' aH ad,f' ez ad⟩,List.set_set,ta]
    ·exact h.elim
   ·exact h.elim
  ·exact h.elim
 ·exact h.elim
theorem Es {t e:TypeId} {s:Nat} (ax:P.underlying t=some (.slice e)) (ai:bS P e=some s) {l h m:Option Operand} {x:I} {vs:List I} {K:I→List au→Prop}
  (av:xy s l.isSome h.isSome m.isSome x vs H K):∃ r,eh P t l h m (x::vs)=some r∧K r H:=by
 unfold xy at av;split at av
 ·rename_i cells n c;split at av
  ·rename_i e1 ck dE;obtain rfl:=tj.1 e1 |> tn.1;obtain rfl:=tj.1 ck |> tn.1;obtain rfl:=tj.1 dE |> tn.1;split at av
   ·exact ⟨_,by simp [eh,ax,ai,cH,dk],av⟩
   ·exact ⟨_,by simp [eh,I.view,eR,ax,ai,cH,dk],av⟩
   ·exact av.elim
  ·rename_i k i e1 ck dE;obtain ⟨l,rfl⟩:=tz.1 e1;obtain rfl:=tj.1 ck |> tn.1;obtain rfl:=tj.1 dE |> tn.1;split at av
   ·obtain ⟨⟨rfl,ag⟩,av⟩:=av;exact ⟨_,by simp [eh,ax,ai,cH,dk,ag],av⟩
   ·obtain ⟨ag,av⟩:=av;exact ⟨_,by simp [eh,I.view,eR,ax,ai,cH,dk,ag],av⟩
   ·obtain ⟨ag,av⟩:=av;exact ⟨_,by simp [eh,I.view,eR,ax,ai,cH,dk,ag],av⟩
   ·exact av.elim
  ·rename_i k j e1 ck dE;obtain rfl:=tj.1 e1 |> tn.1;obtain ⟨h,rfl⟩:=tz.1 ck;obtain rfl:=tj.1 dE |> tn.1;split at av
   ·obtain ⟨ag,av⟩:=av;exact ⟨_,by simp [eh,ax,ai,cH,dk,ag],av⟩
   ·obtain ⟨ag,av⟩:=av;exact ⟨_,by simp [eh,I.view,eR,ax,ai,cH,dk,ag],av⟩
   ·obtain ⟨ag,av⟩:=av;exact ⟨_,by simp [eh,I.view,eR,ax,ai,cH,dk,ag],av⟩
   ·exact av.elim
  ·rename_i k i k' j e1 ck dE;obtain ⟨l,rfl⟩:=tz.1 e1;obtain ⟨h,rfl⟩:=tz.1 ck;obtain rfl:=tj.1 dE |> tn.1;have aw:0≤i∧i≤j∧j≤n→(0≤j∧j≤n)∧i≤max j 0:=fun ag=>⟨⟨by omega,ag.2.2⟩,by omega⟩;split at av
   ·obtain ⟨ag,av⟩:=av;obtain ⟨q1,aW⟩:=aw ag;exact ⟨_,by simp [eh,I.view,eR,ax,ai,cH,dk,q1,aW,ag.1],av⟩
   ·obtain ⟨ag,av⟩:=av;obtain ⟨q1,aW⟩:=aw ag;exact ⟨_,by simp [eh,I.view,eR,ax,ai,cH,dk,q1,aW,ag.1],av⟩
   ·obtain ⟨ag,av⟩:=av;obtain ⟨q1,aW⟩:=aw ag;exact ⟨_,by simp [eh,I.view,eR,ax,ai,cH,dk,q1,aW,ag.1],av⟩
   ·exact av.elim
  ·rename_i k j k' y7 e1 ck dE;obtain rfl:=tj.1 e1 |> tn.1;obtain ⟨h,rfl⟩:=tz.1 ck;obtain ⟨m,rfl⟩:=tz.1 dE;obtain ⟨⟨rfl,ag⟩,av⟩:=av;(have q:j≤max j 0:=by omega);refine ⟨_,?_,av⟩;cases c <;> simp [eh,I.view,eR,ax,ai,cH,dk,ag,q]
  ·rename_i k i k' j Gj y7 e1 ck dE;obtain ⟨l,rfl⟩:=tz.1 e1;obtain ⟨h,rfl⟩:=tz.1 ck;obtain ⟨m,rfl⟩:=tz.1 dE;obtain ⟨⟨rfl,ag⟩,av⟩:=av;(have q:j≤max j 0:=by omega);(have aW:i≤max j 0:=by omega);(have cz:0≤j:=by omega);refine ⟨_,?_,av⟩;cases c <;> simp [eh,I.view,eR,ax,ai,cH,dk,ag,q,aW,cz]
  ·exact av.elim
 ·rename_i id off n cap sz;split at av
  ·rename_i k i e1 ck dE;obtain ⟨l,rfl⟩:=tz.1 e1;obtain rfl:=tj.1 ck |> tn.1;obtain rfl:=tj.1 dE |> tn.1;obtain ⟨rfl,ag,aJ,aP⟩:=av;by_cases hi:i<n
   ·(have hi':i.toNat<n:=by omega);exact ⟨_,by simp [eh,I.view,eR,ax,ai,cH,dk,ag,hi'],aJ hi⟩
   ·(have hi':¬ i.toNat<n:=by omega);exact ⟨_,by simp [eh,I.view,eR,ax,ai,cH,dk,ag,hi'],aP (by omega)⟩
  ·rename_i k j e1 ck dE;obtain rfl:=tj.1 e1 |> tn.1;obtain ⟨h,rfl⟩:=tz.1 ck;obtain rfl:=tj.1 dE |> tn.1;obtain ⟨rfl,⟨bo,cI,ez⟩,av⟩:=av;(have ao:cap.map (·-0)=cap:=by cases cap <;> rfl);exact ⟨_,by simp [eh,I.view,eR,ax,ai,cH,dk,bo,cI,ez],av⟩
  ·exact av.elim
 ·rename_i id gid n z;split at av
  ·rename_i k j e1 ck dE;obtain rfl:=tj.1 e1 |> tn.1;obtain ⟨h,rfl⟩:=tz.1 ck;obtain rfl:=tj.1 dE |> tn.1;obtain ⟨ag,av⟩:=av;exact ⟨_,by simp [eh,ax,ai,cH,dk,ag],av⟩
  ·exact av.elim
 ·exact av.elim
end
end Go.Proofs.YtfakoboiahbhaaaGreat.Ab


namespace Go.Proofs.YtfakoboiahbhaaaGreat.Ab
open Go
section
variable {P:Program} {H:List au}
theorem zr {α β:Type} {f:α→Option β}:∀ {l:List α} {r:List β},hb.mr f l=some r→l.map f=r.map some
 | [],r,h=>by simp [hb.mr] at h;subst h;rfl
 | x::xs,r,h=>by
   simp only [hb.mr] at h;split at h
   ·rename_i y a0;simp only [rZ] at h;obtain ⟨ys,h,rfl⟩:=h;simp [a0,zr h]
   ·simp at h
theorem pS {t:TypeId} {x:hQ×TypeId} (h:mj P t=some x):∃ d',jP P t=some (d',x.2)∧∀ k,kG x.1 k→isKey P d' k=true:=by
 unfold mj at h;split at h
 ·rename_i d' e hm;split at h
  ·rename_i q a3;cases h;refine ⟨d',hm,fun k av=>?_⟩;cases k <;> simp only [kG] at av;subst av;simp [isKey,a3]
  ·rename_i bE ai;cases h;refine ⟨d',hm,fun k av=>?_⟩;cases k <;> simp only [kG] at av;simp [isKey,ai,av]
  ·cases h
 ·cases h
theorem z9 {lo:Nat} {o:Oper} {mode:Nat} {vs:List I} {K:I→List au→Prop} (h:bN P lo (hb P o mode) vs H K):∃ v H',(∀ C,a8 P C lo o mode vs H=some (v,H'))∧K v H':=by
 have Gr:∀ {x:hR},x=.other o mode→bN P lo x vs H K→∃ v H',(∀ C,a8 P C lo o mode vs H=some (v,H'))∧K v H':=fun e h=>by subst e;exact h
 have pure:∀ {r:I},(∀ C,a8 P C lo o mode vs H=(cy P o vs).map (·,H))→cy P o vs=some r→K r H→∃ v H',(∀ C,a8 P C lo o mode vs H=some (v,H'))∧K v H':=fun ad af aG=>⟨_,H,fun C=>by rw [ad C,af];rfl,aG⟩;have iQ:∀ x,(o.op=.move x∨o.op=.assign x)→(∀ C,a8 P C lo o mode vs H=eP P lo mode o.type x H vs)→bN P lo (nZ P o mode x) vs H K→∃ v H',(∀ C,a8 P C lo o mode vs H=some (v,H'))∧K v H':=fun x _ hm h=>by
  unfold nZ at h;split at h
  ·split at h
   ·rename_i e aN hu;split at h
    ·rename_i z bm;simp only [bN] at h;split at h
     ·exact ⟨_,_,fun C=>by rw [hm C];simp only [eP,aN,hu,bm,sd],h⟩
     ·exact h.elim
    ·exact h
   ·rename_i fU;simp only [bN] at h;split at h
    ·refine ⟨_,H,fun C=>?_,h⟩;rw [hm C];simp only [eP]
     try (split
          ·rename_i e ad af;exact absurd af (fU e ad)
          ·rfl)
    ·exact h.elim
  ·simp only [bN] at h;split at h
   ·obtain ⟨r,H',ad,af⟩:=Ex (P:=P) (lo:=lo) (t:=o.type) (x:=x) h;exact ⟨r,H',fun C=>by rw [hm C];exact ad,af⟩
   ·exact h.elim
  ·exact h
 unfold hb at h;cases aD:o.op <;> simp only [aD] at h <;> (try exact h)
 case move x=>exact iQ x (.inl aD) (fun C=>by simp [a8,aD]) h
 case assign x=>exact iQ x (.inr aD) (fun C=>by simp [a8,aD]) h
 case load t a =>
  split at h
  ·split at h
   ·rename_i Bt cd;simp only [bN] at h;split at h
    ·obtain ⟨r,H',ad,af⟩:=Er (P:=P) (lo:=lo) cd h;exact ⟨r,H',fun C=>by simp only [a8,aD];exact ad,af⟩
    ·exact h.elim
   ·exact h
  ·split at h
   ·rename_i e hu;simp only [bN] at h;split at h
    ·obtain ⟨r,H',ad,af⟩:=Ev (P:=P) (lo:=lo) hu h;exact ⟨r,H',fun C=>by simp only [a8,aD];exact ad,af⟩
    ·exact h.elim
   ·exact h
  ·split at h
   ·rename_i Bt cd;simp only [bN] at h;split at h
    ·obtain ⟨r,ad,af⟩:=nD cd h;exact ⟨r,H,fun C=>by simp only [a8,aD,dO,ad,sd],af⟩
    ·exact h.elim
   ·exact h
  ·exact h
  ·rename_i hm pq yJ yK;split at h
   ·rename_i e hu;simp only [bN] at h;split at h
    ·obtain ⟨r,H',ad,af⟩:=Ew (P:=P) (lo:=lo) (mode:=mode) (fun e=>hm e) (fun e=>pq e) (fun e=>yJ e) (fun e=>yK e) hu h;exact ⟨r,H',fun C=>by simp only [a8,aD];exact ad,af⟩
    ·exact h.elim
   ·exact h
 case store t a x =>
  split at h
  ·rename_i s ai;simp only [bN] at h;split at h
   ·obtain ⟨r,H',ad,af⟩:=Eu (P:=P) (lo:=lo) ai h;exact ⟨r,H',fun C=>by simp only [a8,aD];exact ad,af⟩
   ·exact h.elim
  ·rename_i m ai;simp only [bN] at h;split at h
   ·obtain ⟨r,H',ad,af⟩:=Et (P:=P) (lo:=lo) (mode:=m+1) (by omega) ai h;exact ⟨r,H',fun C=>by simp only [a8,aD];exact ad,af⟩
   ·exact h.elim
  ·exact h
 case box e x =>
  split at h
  ·simp only [bN] at h;split at h
   ·obtain ⟨r,H',ad,af⟩:=Ep h;exact ⟨r,H',fun C=>by simp only [a8,aD];exact ad,af⟩
   ·exact h.elim
  ·rename_i hm;simp only [bN] at h;split at h
   ·obtain ⟨r,H',ad,af⟩:=Eo (mode:=mode) (fun e=>hm e) h;exact ⟨r,H',fun C=>by simp only [a8,aD];exact ad,af⟩
   ·exact h.elim
 case alloc t =>
  split at h
  ·split at h
   ·rename_i z bm;exact ⟨_,_,fun C=>by simp only [a8,aD,kQ,bm,sd],h⟩
   ·exact h
  ·rename_i hm;split at h
   ·rename_i e bm hu;split at h
    ·rename_i s ai;refine ⟨_,_,fun C=>?_,h⟩;simp only [a8,aD];unfold kQ;split
     ·exact absurd rfl hm
     ·simp only [bm,hu,ai,sd]
    ·exact h
   ·exact h
 case makeSlice t a b =>
  split at h
  ·rename_i DX e hu;split at h
   ·rename_i s z bytes ai bm ag;split at h
    ·rename_i ao;simp only [sv,uM,th,uw] at ao;obtain ⟨⟨a',bk⟩,bq⟩:=ao;simp only [bN] at h;split at h
     ·unfold Al at h;split at h
      ·obtain ⟨d1,d2,d3,h⟩:=h;refine ⟨_,_,fun C=>?_,h⟩;simp only [a8,aD,jU];rw [if_pos ⟨d1,d2⟩];simp only [je,hu,ai,bm,ag];rw [if_pos ⟨a',bk,f' d3 bq⟩];rfl
      ·exact h.elim
     ·exact h.elim
    ·exact h
   ·exact h
  ·rename_i DX m e hu;split at h
   ·rename_i s z bytes ai bm ag;split at h
    ·rename_i ao;simp only [sv,uM,th,uw] at ao;obtain ⟨⟨a',bk⟩,bq⟩:=ao;simp only [bN] at h;split at h
     ·unfold Ak at h;split at h
      ·obtain ⟨d1,d2,d3,h⟩:=h;refine ⟨_,_,fun C=>?_,h⟩;simp only [a8,aD,jU];rw [if_pos ⟨by omega,by omega⟩,if_pos ⟨d1,d2⟩];simp only [je,hu,ai,bm,ag];rw [if_pos ⟨a',bk,f' d3 bq⟩];rfl
      ·exact h.elim
     ·exact h.elim
    ·exact h
   ·exact h
  ·exact h
 case call c =>
  split at h
  ·rename_i b ag;split at h
   ·split at h
    ·rename_i ai;simp only [bN] at h;split at h
     ·unfold Ag at h;split at h
      ·exact ⟨_,_,fun C=>by simp only [a8,aD,ag,et,g_,ai],h⟩
      ·exact ⟨_,_,fun C=>by simp only [a8,aD,ag,et,g_,ai],h⟩
      ·exact h.elim
     ·exact h.elim
    ·split at h
     ·rename_i n e hu;simp only [bN] at h;split at h
      ·exact h.elim
      ·exact h.elim
      ·exact h.elim
      ·rename_i x ca cn DS;refine ⟨_,_,fun C=>?_,h⟩;simp only [a8,aD,ag,et,g_,hu]
       try (cases x <;> first | rfl | exact absurd rfl (ca _ _ _) | exact absurd rfl (cn _ _ _ _ _) | exact absurd rfl (DS _))
      ·exact h.elim
     ·rename_i _ _ hu;simp only [bN] at h;split at h
      ·unfold Af at h;split at h
       ·obtain ⟨es,clock,ad,h⟩:=h;exact ⟨_,_,fun C=>by simp only [a8,aD,ag,et,g_,hu,ad],h⟩
       ·exact h.elim
      ·exact h.elim
     ·exact h
   ·split at h
    ·rename_i x al;simp only [se] at al;obtain ⟨t,ax,al⟩:=al;obtain ⟨d',hm,hv⟩:=pS al;simp only [bN] at h;split at h
     ·unfold Ah at h;split at h
      ·split at h
       ·rename_i bD;have bD:=tX bD;obtain ⟨ad,es,clock,af,r,aG,h⟩:=h;split at h
        ·exact ⟨_,_,fun C=>by simp only [a8,aD,ag,et,hz,ax,r_,hm,hv _ ad,bD,if_true,af,aG],h⟩
        ·exact ⟨_,_,fun C=>by simp only [a8,aD,ag,et,hz,ax,r_,hm,hv _ ad,bD,if_true,af,aG],h⟩
       ·exact h.elim
      ·exact h.elim
     ·exact h.elim
    ·exact h
   ·simp only [bN] at h;split at h
    ·obtain ⟨n,ad,af⟩:=zu _ _ h;exact ⟨_,_,fun C=>by simp only [a8,aD,ag,et,nL,ad,sd],af⟩
    ·exact h.elim
   ·simp only [bN] at h;split at h
    ·obtain ⟨n,ad,af⟩:=zt _ _ h;exact ⟨_,_,fun C=>by simp only [a8,aD,ag,et,nK,ad,sd],af⟩
    ·exact h.elim
   ·split at h
    ·rename_i t dm g1;split at h
     ·rename_i e nd hu;split at h
      ·rename_i s z bytes ai bm yA;split at h
       ·rename_i ao;simp only [sv,uM,th,uw] at ao;obtain ⟨⟨a',bk⟩,bq⟩:=ao;obtain rfl:t=dm:=s_ nd;(have o2:c.argTypes=#[t,t]:=by rw [←uq (xs:=c.argTypes),g1]);simp only [bN] at h;split at h
        ·obtain ⟨r,H',ad,af⟩:=En hu ai bm yA a' bk bq h;exact ⟨r,H',fun C=>by simp only [a8,aD,ag,et,o2];exact ad,af⟩
        ·exact h.elim
       ·rename_i ao hm;simp only [sv,uM,th,uw] at ao;obtain ⟨⟨a',bk⟩,bq⟩:=ao;obtain rfl:t=dm:=s_ nd;(have o2:c.argTypes=#[t,t]:=by rw [←uq (xs:=c.argTypes),g1]);simp only [bN] at h;split at h
        ·obtain ⟨r,H',ad,af⟩:=Em (lo:=lo) hu ai bm yA a' bk bq h;refine ⟨r,H',fun C=>?_,af⟩;simp only [a8,aD,ag,o2]
         first
         | exact ad
         | (split
            ·exact absurd rfl hm
            ·exact ad)
        ·exact h.elim
       ·exact h
      ·exact h
     ·exact h
    ·exact h
   ·exact h
  ·exact h.elim
  ·exact h
 case makeMap t r =>
  split at h
  ·rename_i _ _ hu;simp only [bN] at h;exact ⟨_,_,fun C=>by simp only [a8,aD,kT,hu],h⟩
  ·exact h
 case mapUpdate t m k v =>
  split at h
  ·rename_i x al;obtain ⟨d',hm,hv⟩:=pS al;simp only [bN] at h;split at h
   ·unfold Aj at h;split at h
    ·split at h
     ·rename_i bD;have bD:=tX bD;obtain ⟨ad,es,clock,af,r,aG,h⟩:=h;split at h
      ·exact ⟨_,_,fun C=>by simp only [a8,aD,iW,hm,hv _ ad,bD,if_true,af,aG],h⟩
      ·exact ⟨_,_,fun C=>by simp only [a8,aD,iW,hm,hv _ ad,bD,if_true,af,aG],h⟩
     ·exact h.elim
    ·exact h.elim
   ·exact h.elim
  ·exact h
 case lookup t m k ok =>
  split at h
  ·rename_i x al;obtain ⟨d',hm,hv⟩:=pS al;simp only [bN] at h;split at h
   ·unfold Ai at h;split at h
    ·obtain ⟨ad,es,clock,af,r,aG,h⟩:=h;split at h
     ·obtain ⟨e,he,h⟩:=h;cases ok
      ·exact ⟨_,_,fun C=>by simp only [a8,aD,ia,hm,hv _ ad,af,aG,r_,he,sd];rfl,h⟩
      ·exact ⟨_,_,fun C=>by simp only [a8,aD,ia,hm,hv _ ad,af,aG,r_,he,sd];rfl,h⟩
     ·obtain ⟨z,bm,h⟩:=h;cases ok
      ·exact ⟨_,_,fun C=>by simp only [a8,aD,ia,hm,hv _ ad,af,aG,Option.bind_none,bm,sd];rfl,h⟩
      ·exact ⟨_,_,fun C=>by simp only [a8,aD,ia,hm,hv _ ad,af,aG,Option.bind_none,bm,sd];rfl,h⟩
    ·exact h.elim
   ·exact h.elim
  ·exact h
 case range t m =>
  split at h
  ·rename_i _ _ hu;simp only [bN] at h;split at h
   ·unfold Am at h;split at h
    ·obtain ⟨es,clock,ad,h⟩:=h;exact ⟨_,_,fun C=>by simp only [a8,aD,kU,hu,ad],h⟩
    ·exact h.elim
   ·exact h.elim
  ·exact h
 case entry m =>
  simp only [bN] at h;split at h
  ·unfold Aa at h;split at h
   ·obtain ⟨m,since,seen,clock,gd,es,e,ad,af,aG,a6,h⟩:=h;exact ⟨_,_,fun C=>by simp only [a8,aD,kS,ad,af,aG,a6,if_true],h⟩
   ·exact h.elim
  ·exact h.elim
 case pick c a b =>
  simp only [bN] at h;split at h
  ·rename_i c a b;refine pure (fun C=>by simp only [a8,aD]) (r:=match c with | true=>a | false=>b) (by cases c <;> simp [cy,aD,xg]) ?_;cases c <;> exact h
  ·exact h.elim
 case build t parts =>
  have aq:∀ C,a8 P C lo o mode vs H=(cy P o vs).map (·,H):=fun C=>by simp only [a8,aD]
  split at h
  ·rename_i z bE bm hu;split at h
   ·rename_i bh c9 CU;simp only [bN] at h;obtain ⟨c8,q1,aW⟩:=kj h (zr CU);refine pure aq (r:=.agg c8) ?_ aW;simp only [cy,aD,lk,bm,hu,c9,fr,q1,sd]
   ·exact h
  ·rename_i z len e bm hu;split at h
   ·rename_i s ai;simp only [bN] at h;obtain ⟨c8,q1,aW⟩:=kj (place:=fun i=>some (i*s,s)) (ix:=parts.toList.map (·.1)) h (by simp);refine pure aq (r:=.agg c8) ?_ aW;simp only [cy,aD,lk,bm,hu,ai,fr,r_,q1,sd]
   ·exact h
  ·exact h
 case buildSlice t len parts =>
  split at h
  ·rename_i e hu;split at h
   ·rename_i s z ai bm;split at h
    ·rename_i ao;simp only [sv,uM,th,uw] at ao;obtain ⟨⟨a',bk⟩,bq⟩:=ao;simp only [bN] at h;obtain ⟨c8,q1,aW⟩:=kj (place:=fun i=>some (i*s,s)) (ix:=parts.toList.map (·.1)) h (by simp);refine pure (fun C=>by simp only [a8,aD]) (r:=.ay c8 len (.uniq s)) ?_ aW;simp only [cy,aD,iv,hu,ai,bm,fr];rw [if_pos ⟨bk,a',bq⟩,q1];rfl
    ·rename_i ao hm;simp only [sv,uM,th,uw] at ao;obtain ⟨⟨a',bk⟩,bq⟩:=ao;simp only [bN] at h;obtain ⟨c8,q1,aW⟩:=kj (place:=fun i=>some (i*s,s)) (ix:=parts.toList.map (·.1)) h (by simp);refine ⟨_,_,fun C=>?_,aW⟩;have q:iv P t len (fr parts.toList vs)=some (c8,s):=by
      simp only [iv,hu,ai,bm,fr];rw [if_pos ⟨bk,a',bq⟩,q1];rfl
     simp only [a8,aD]
     first
     | (rw [q];rfl)
     | (split
        ·exact absurd rfl hm
        ·rw [q];rfl)
    ·exact h
   ·exact h
  ·exact h
 case nilCheck x =>
  simp only [bN] at h;split at h
  ·exact pure (fun C=>by simp only [a8,aD]) (by simp only [cy,aD,nR]) h
  ·exact pure (fun C=>by simp only [a8,aD]) (by simp only [cy,aD,nR]) h
  ·exact h.elim
 case binOp op t x y ik =>
  have aq:∀ C,a8 P C lo o mode vs H=(cy P o vs).map (·,H):=fun C=>by simp only [a8,aD]
  split at h
  ·rename_i aN hu;simp only [bN] at h;split at h
   ·split at h
    ·rename_i av;obtain ⟨v,ad,af⟩:=BB (P:=P) (t:=t) (EZ av) h;exact pure aq (by simp only [cy,aD,aN,fY,ad]) af
    ·exact h.elim
   ·exact h.elim
  ·rename_i aN hu;split at h
   ·simp only [bN] at h;split at h
    ·exact pure aq (by simp only [cy,aD,aN,fY,fg,hu]) h
    ·exact h.elim
   ·simp only [bN] at h;split at h
    ·exact pure aq (by simp only [cy,aD,aN,fY,fg,hu]) h
    ·exact h.elim
   ·exact h
  ·exact h
 case unOp op t x =>
  have aq:∀ C,a8 P C lo o mode vs H=(cy P o vs).map (·,H):=fun C=>by simp only [a8,aD]
  simp only [bN] at h;split at h
  ·split at h
   ·exact pure aq (by simp only [cy,aD,eW,kb]) h
   ·exact h.elim
  ·split at h
   ·exact pure aq (by simp only [cy,aD,eW,kb]) h
   ·exact h.elim
  ·exact h.elim
 case convert s d x =>
  have aq:∀ C,a8 P C lo o mode vs H=(cy P o vs).map (·,H):=fun C=>by simp only [a8,aD]
  split at h
  ·rename_i ad af;simp only [bN] at h;split at h
   ·exact pure aq (by simp only [cy,aD,eW,ln,ad,af]) h
   ·exact h.elim
  ·exact h
 case makeFunc fn first captured =>
  have aq:∀ C,a8 P C lo o mode vs H=(cy P o vs).map (·,H):=fun C=>by simp only [a8,aD]
  split at h
  ·simp only [bN] at h;split at h
   ·rename_i ad;exact pure aq (by simp only [cy,aD,mA];rw [if_pos (s_ ad)]) h
   ·exact h.elim
  ·exact h
 case slice t x l bI m =>
  have aq:∀ C,a8 P C lo o mode vs H=(cy P o vs).map (·,H):=fun C=>by simp only [a8,aD]
  split at h
  ·rename_i e hu;split at h
   ·rename_i s ai;simp only [bN] at h;split at h
    ·obtain ⟨r,ad,af⟩:=Es hu ai h;exact pure aq (by simp only [cy,aD,ad]) af
    ·exact h.elim
   ·exact h
  ·exact h
 case fieldAddr t x f =>
  have aq:∀ C,a8 P C lo o mode vs H=(cy P o vs).map (·,H):=fun C=>by simp only [a8,aD]
  split at h
  ·rename_i bE hu;split at h
   ·rename_i s off aQ;simp only [se,rZ,Prod.mk.injEq] at aQ;obtain ⟨g,aO,aF,ai,rfl,rfl⟩:=aQ;simp only [bN] at h;split at h
    ·unfold Ac at h;split at h
     ·exact pure aq (by simp [cy,aD,eW,jn,hu,aO,ai]) h
     ·exact pure aq (by simp [cy,aD,eW,jn,hu,aO,ai]) h
     ·exact h.elim
    ·exact h.elim
   ·exact h
  ·exact h
 case field t x f =>
  have aq:∀ C,a8 P C lo o mode vs H=(cy P o vs).map (·,H):=fun C=>by simp only [a8,aD]
  split at h
  ·rename_i bE hu;split at h
   ·rename_i a off aQ;simp only [se,rZ,Prod.mk.injEq] at aQ;obtain ⟨g,aO,aM,cd,rfl,rfl⟩:=aQ;simp only [bN] at h;split at h
    ·obtain ⟨v,ad,af⟩:=Ea cd h;exact pure aq (by simp only [cy,aD,eW,mX,hu,aO,r_,ad,sd]) af
    ·exact h.elim
   ·exact h
  ·exact h
 case indexAddr t x i =>
  have aq:∀ C,a8 P C lo o mode vs H=(cy P o vs).map (·,H):=fun C=>by simp only [a8,aD]
  split at h
  ·rename_i e hu;split at h
   ·rename_i s ai;simp only [bN] at h;split at h
    ·unfold Ad at h;split at h
     ·split at h
      ·exact pure aq (by simp [cy,aD,fY,hS,hu,ai,gP,h.1]) h.2
      ·exact pure aq (by simp [cy,aD,fY,hS,hu,ai,gP,h.1]) h.2
      ·exact h.elim
     ·exact h.elim
    ·exact h.elim
   ·exact h
  ·rename_i len e hu;split at h
   ·rename_i s ai;simp only [bN] at h;split at h
    ·unfold Ae at h;split at h
     ·split at h
      ·exact pure aq (by simp [cy,aD,fY,hS,hu,ai,gP,h.1]) h.2
      ·exact pure aq (by simp [cy,aD,fY,hS,hu,ai,gP,h.1]) h.2
      ·exact h.elim
     ·exact h.elim
    ·exact h.elim
   ·exact h
  ·exact h
 case extract x i =>
  have aq:∀ C,a8 P C lo o mode vs H=(cy P o vs).map (·,H):=fun C=>by simp only [a8,aD]
  simp only [bN] at h;split at h
  ·obtain ⟨v,ae,h⟩:=fb h;rw [j'] at h;exact pure aq (by simp only [cy,aD,eW,mW,ae,sd]) h
  ·exact h.elim
end
end Go.Proofs.YtfakoboiahbhaaaGreat.Ab


namespace Go.Proofs.YtfakoboiahbhaaaGreat.Ab
open Go
noncomputable section
def om (P:Program) (mode lo:Nat) (b0:e3) (args:List I) (H:List au) (v:I) (H':List au):Prop:=∃ C,c_ P C∧eS C lo mode b0 args H=some (v,H')
def lx:List I→List I→(List I→Prop)→Prop
 | [],l,K=>K l
 | h::t,l,K=>lx t l fun r=>K (h::r)
theorem ly:∀ (a b:List I) (K:List I→Prop),lx a b K=K (a++b)
 | [],b,K=>rfl
 | h::t,b,K=>by rw [lx,ly t b];rfl
def yg (v:I) (K:I→Prop):Prop:=match v with
 | .ay c n .full=>K (.ay c n .shared)
 | .agg cs=>K (.agg (cs.map I.gR))
 | .tuple cs=>K (.tuple (cs.map I.gR))
 | v=>K v
theorem BQ (v:I) (K:I→Prop):yg v K=K v.cr:=by
 cases v with
 | ay c n k=>cases k <;> rfl
 | _=>rfl
def m4:List I→(List I→Prop)→Prop
 | [],K=>K []
 | h::t,K=>yg h fun aX=>m4 t fun ja=>K (aX::ja)
theorem oG:∀ (l:List I) (K:List I→Prop),m4 l K=K (l.map I.cr)
 | [],K=>rfl
 | h::t,K=>by rw [m4,BQ,oG t];rfl
def m1 (P:Program) (lo:Nat) (draw:Bool) (mode:Nat) (acc:dg) (vs:List I) (H:List au) (K:dg→I→List au→Prop):Prop:=match vs with
 | f::args=>match f with
   | .func k first cap=>lx args cap fun r=>lx first r fun as=>match mode with
     | 3=>as.all (cq 8)=true∧m4 as fun gp=>∃ v,lg P k gp v∧(match draw with
       | true=>(∀ p∈acc,p.1=k→p.2.1=gp→p.2.2=v)∧K ((k,gp,v)::acc) v.cr H
       | false=>K acc v.cr H)
     | 6=>match draw with
       | true=>(as.map (ij H)).all (cq 8)=true∧∃ gp,(as.map (ij H)).map I.cr=gp∧∃ v,gb v=true∧lg P k gp v∧(∀ p∈acc,p.1=k→p.2.1=gp→p.2.2=v)∧K ((k,gp,v)::acc) v.cr H
       | false=>∃ v H',om P 6 lo (.fn k) as H v H'∧K acc v H'
     | mode=>match draw with
       | true=>False
       | false=>∃ v H',om P mode lo (.fn k) as H v H'∧K acc v H'
   | .yield l=>match draw with
     | true=>False
     | false=>∃ v H',om P mode lo (.yield l) args H v H'∧K acc v H'
   | _=>False
 | []=>False
def k0 (P:Program) (lo:Nat) (draw:Bool) (k:hR) (acc:dg) (vs:List I) (H:List au) (K:dg→I→List au→Prop):Prop:=match k with
 | .call mode=>m1 P lo draw mode acc vs H K
 | k=>bN P lo k vs H (K acc)
def nC (ip:Option Nat) (T:List I) (v:I) (K:List I→Prop):Prop:=match ip with
 | none=>K T
 | some t=>j_ v fun v=>iZ T t v K
def oT (g:Option (Nat×Bool)) (T:List I) (skip run:Prop):Prop:=match g with
 | none=>run
 | some (t,want)=>ho T t fun v=>match v with
   | .bool b=>(match want with
     | true=>(match b with | true=>run | false=>skip)
     | false=>(match b with | true=>skip | false=>run))
   | .tuple []=>skip
   | _=>False
def hK (P:Program) (lo:Nat) (draw:Bool) (cP:cx) (acc:dg) (T:List I) (H:List au) (K:dg→List I→List au→Prop):Prop :=
 oT cP.guard T (mE T cP.dst (.tuple []) fun a7=>K acc a7 H) (ga cP.FA T fun vs ff=>k0 P lo draw cP.k acc vs H fun dw v H'=>lQ v fun v=>nC cP.ip ff v fun dQ=>mE dQ cP.dst v fun dC=>K dw dC H')
def gE (P:Program) (lo:Nat) (draw:Bool):List cx→dg→List I→List au→(List I→List au→Prop)→Prop
 | [],_,T,H,K=>K T H
 | cP::r,acc,T,H,K=>hK P lo draw cP acc T H fun dw a7 H'=>match draw with
   | true=>gE P lo draw r dw a7 H' K
   | false=>gE P lo draw r [] a7 H' K
def xo (P:Program) (lo:Nat) (a b:cx) (post:List cx):List cx→dg→List I→List au→(List I→List au→Prop)→Prop
 | [],acc,T,H,K=>gE P lo true (a::b::post) acc T H K∧gE P lo true (b::a::post) acc T H K
 | cP::r,acc,T,H,K=>hK P lo true cP acc T H fun dw a7 H'=>xo P lo a b post r dw a7 H' K
def zD (it:Nat) (dst:Option Nat) (T:List I) (H:List au) (K:List I→List au→Prop):Prop:=ho T it fun v=>match v with
 | .ptr r 0=>∃ m since seen clock es,H[r]?=some (.iter m since seen clock)∧H[m]?=some (.map es clock)∧since≤clock∧(∀ e∈es,e.1<since) ∧
   ((∀ e∈es,e.1∈seen)→mE T dst (.tuple [.bool false]) fun a7=>K a7 H) ∧
   ∀ e∈es,e.1 ∉ seen→mE T dst (.tuple [.bool true,e.2.1,e.2.2]) fun a7=>K a7 (H.set r (.iter m since (seen++[e.1]) clock))
 | _=>False
inductive Bk (f:List I→List au→(cB→List I→List au→Prop)→Prop) (T:List I) (H:List au) (Q:cB→List I→List au→Prop):Prop where
 | intro (hP:Nat→List I→List au→Prop) (m:Nat) (aS:hP m T H) (step:∀ m T H,hP m T H→f T H fun e a7 H'=>match e with
   | .normal=>∃ g4,g4<m∧hP g4 a7 H'
   | e=>Q e a7 H')
def pR (k:Option (List Bool)) (T:List I) (K:List I→Prop):Prop:=match k with
 | some k=>kF k T K
 | none=>K T
theorem Dj (k:Option (List Bool)) (T:List I) (K:List I→Prop):pR k T K=K (match k with | some k=>eQ k T | none=>T):=by
 cases k with
 | none=>rfl
 | some k=>exact y9 k T K
def nO:List I→(List I→Prop)→Prop
 | [],K=>K []
 | h::t,K=>nO t fun ja=>K (h::ja)
theorem zA:∀ (T:List I) (K:List I→Prop),nO T K=K T
 | [],K=>rfl
 | h::t,K=>by rw [nO,zA t]
def n2 (P:Program) (A:c7) (fn:FuncId) (lo:Nat) (rl:Option Nat) (f:I) (bh:List Nat) (as bY:Code) (T:List I) (H:List au) (Q:cB→List I→List au→Prop):Prop:=match f with
 | .func k first cap=>inLoop H rl=true∧∃ r H' st cF fn' a7 zN gp x7 iz,Sem P (.fn k) (first++[.yield H.length]++cap) (H++[.loop .ready none fn (T.map I.view) bh as bY A]) lo r H' ∧
   H'[H.length]?=some (.loop st cF fn' a7 zN gp x7 iz)∧st≠.busy∧(match cF with
    | none=>Q .normal (T.map I.settle) (H'.set H.length .dead)
    | some .ret=>Q .ret (T.map I.settle) (H'.set H.length .dead)
    | some (.exit id)=>Q (.exit id) (T.map I.settle) (H'.set H.length .dead)
    | _=>False)
 | _=>False
def dB (P:Program) (A:c7) (fn:FuncId) (lo:Nat) (rl:Option Nat):ey→List I→List au→(cB→List I→List au→Prop)→Prop
 | .skip,T,H,Q=>Q .normal T H
 | .j0 draw l,T,H,Q=>gE P lo draw l [] T H (Q .normal)
 | .seq a b,T,H,Q=>dB P A fn lo rl a T H fun e a7 H'=>match e with
   | .normal=>dB P A fn lo rl b a7 H' Q
   | e=>Q e a7 H'
 | .cond c a b,T,H,Q=>match c with
   | .sl t=>ho T t fun v=>(match v with
     | .bool x=>(match x with | true=>dB P A fn lo rl a T H Q | false=>dB P A fn lo rl b T H Q)
     | .dn=>dB P A fn lo rl a T H Q∧dB P A fn lo rl b T H Q
     | _=>False)
   | .iA v=>(match v with
     | .bool x=>(match x with | true=>dB P A fn lo rl a T H Q | false=>dB P A fn lo rl b T H Q)
     | .dn=>dB P A fn lo rl a T H Q∧dB P A fn lo rl b T H Q
     | _=>False)
   | _=>False
 | .block id c,T,H,Q=>dB P A fn lo rl c T H fun e a7 H'=>match e with
   | .exit bx=>(match Nat.beq bx id with | true=>Q .normal a7 H' | false=>Q (.exit bx) a7 H')
   | e=>Q e a7 H'
 | .loop cD c,T,H,Q=>pR cD T fun T=>Bk (fun T H Q=>nO T fun T=>dB P A fn lo rl c T H fun e a7 H'=>match e with
   | .normal=>pR cD a7 fun a7=>Q .normal a7 H'
   | e=>Q e a7 H') T H Q
 | .exit id,T,H,Q=>Q (.exit id) T H
 | .ret,T,H,Q=>Q .ret T H
 | .An f bh as bY,T,H,Q=>match f with
   | .sl t=>ho T t fun v=>n2 P A fn lo rl v bh as bY T H Q
   | .iA v=>n2 P A fn lo rl v bh as bY T H Q
   | _=>False
 | .zC it dst l,T,H,Q=>zD it dst T H fun a7 H'=>gE P lo false l [] a7 H' (Q .normal)
 | .two pre a b post,T,H,Q=>xo P lo a b post pre [] T H (Q .normal)
def mf (o:Oper) (mode:Nat):Option Nat:=match mode with
 | 0=>none
 | 4=>none
 | _=>match o.op with
   | .move (.tmp t) | .assign (.tmp t)=>some t
   | _=>none
def kZ (P:Program) (ops:Array Oper) (o:Oper) (an:b5):Option cx:=match o.guard with
 | none=>some ⟨o.dst,hC (dN o) an.takes (opsOf o),none,mf o an.mode,hb P o an.mode⟩
 | some (j,want)=>match (ops[j]?).bind (·.dst) with
   | some d=>some ⟨o.dst,hC (dN o) an.takes (opsOf o),some (d,want),mf o an.mode,hb P o an.mode⟩
   | none=>none
def g3 (P:Program) (ops:Array Oper):List Oper→List b5→Option (List cx)
 | [],_=>some []
 | o::r,as=>match kZ P ops o (as.headD {}),g3 P ops r as.tail with
   | some cP,some l=>some (cP::l)
   | _,_=>none
def w_ (P:Program) (ops:Array Oper) (draw:Bool) (as:List b5):Option ey:=match draw,ops.toList with
 | false,o::rest=>(match o.op,o.guard with
   | .next (.tmp it) false,none=>(g3 P ops rest as.tail).map (.zC it o.dst)
   | _,_=>(g3 P ops (o::rest) as).map (.j0 false))
 | d,l=>(g3 P ops l as).map (.j0 d)
def fa (P:Program) (ops:Array Oper) (an:List b5):List Nat→Option (List cx)
 | []=>some []
 | i::r=>match ops[i]? with
   | some o=>match kZ P ops o (an.getD i {}),fa P ops an r with
     | some cP,some l=>some (cP::l)
     | _,_=>none
   | none=>none
def nP (cP:cx):Bool:=match cP.k with | .call _=>false | _=>true
def nG (P:Program) (ops:Array Oper) (an:List b5) (p:Nat):Option ey :=
 match fa P ops an (List.range p),fa P ops an [p],fa P ops an [p+1],fa P ops an (List.range' (p+2) (ops.size-(p+2))) with
 | some pre,some [a],some [b],some post=>match (a::b::post).all nP with
   | true=>some (.two pre a b post)
   | false=>none
 | _,_,_,_=>none
def nY (x:Operand):ir:=match x with
 | .tmp t=>.sl t
 | x=>.iA (aA [] x)
def dS (P:Program) (A:c7):Code→Nat→Option ey
 | .skip,_=>some .skip
 | .region id ops draw,_=>match A.h8 with
   | []=>match j8 A id draw with
     | some p=>nG P ops (A.ops.getD id []) p
     | none=>w_ P ops draw (A.ops.getD id [])
   | _=>none
 | .seq a b,aY=>match dS P A a aY,dS P A b aY with
   | some x,some y=>some (.seq x y)
   | _,_=>none
 | .cond c a b,aY=>match dS P A a aY,dS P A b aY with
   | some x,some y=>some (.cond (nY c) x y)
   | _,_=>none
 | .block id c,_=>(dS P A c id).map (.block id)
 | .loop c,aY=>(dS P A c aY).map (.loop (lG aY A.h7))
 | .exit id,_=>some (.exit id)
 | .ret,_=>some .ret
 | .scope c,aY=>dS P A c aY
 | .label _,_=>some .skip
 | .rangeFunc f bh as bY,_=>some (.An (nY f) bh.toList as bY)
 | _,_=>none
end
section
variable {P:Program}
theorem y5 (o:Oper) (mode:Nat) (T:List I) (v:I) (K:List I→Prop):nC (mf o mode) T v K=K (inPlace o mode T v):=by
 by_cases aS:mode=0
 ·subst aS;rfl
 by_cases a6:mode=4
 ·subst a6;rfl
 have e1:mf o mode=(match o.op with | .move (.tmp t) | .assign (.tmp t)=>some t | _=>none):=by
  unfold mf;split
  ·exact absurd rfl aS
  ·exact absurd rfl a6
  ·rfl
 have ck:inPlace o mode T v=(match o.op with | .move (.tmp t) | .assign (.tmp t)=>gH T t v.view | _=>T):=by
  unfold inPlace;split
  ·exact absurd rfl aS
  ·exact absurd rfl a6
  ·rfl
 rw [e1,ck];cases o.op <;> try rfl
 case move x=>cases x <;> first | rfl | (simp only [nC,j',j4])
 case assign x=>cases x <;> first | rfl | (simp only [nC,j',j4])
theorem Bc {lo:Nat} {draw:Bool} {ops:Array Oper} {o:Oper} {an:b5} {cP:cx} (aj:kZ P ops o an=some cP) {acc:dg} {T:List I} {H:List au} {K:dg→List I→List au→Prop}
  (h:hK P lo draw cP acc T H K) :
  (eu ops o T=some false∧K acc (put T o.dst (.tuple [])) H) ∨
  (eu ops o T=some true∧k0 P lo draw (hb P o an.mode) acc (fo (dN o) (rd T an.takes (opsOf o)).1) H fun dw v H'=>K dw (put (inPlace o an.mode (rd T an.takes (opsOf o)).2 v) o.dst v) H'):=by
 unfold kZ at aj;split at aj
 ·rename_i aO;cases aj;simp only [hK,oT,iX,nh,y5,xj] at h;exact .inr ⟨by simp [eu,aO],h⟩
 ·rename_i j want aO;split at aj
  ·rename_i d aZ;cases aj;simp only [hK,oT,iX,nh,y5,xj,iC] at h;(have hw:∀ b,c4 T d=.bool b→eu ops o T=some (b == want):=fun b ag=>by simp [eu,aO,aZ,ag]);split at h
   ·rename_i b ag;have hw:=hw b ag;cases want <;> cases b <;> simp only at h
    ·exact .inr ⟨hw,h⟩
    ·exact .inl ⟨hw,h⟩
    ·exact .inl ⟨hw,h⟩
    ·exact .inr ⟨hw,h⟩
   ·rename_i ag;exact .inl ⟨by simp [eu,aO,aZ,ag],h⟩
   ·exact h.elim
  ·cases aj
theorem i' {C:b6} {lo:Nat} {ops:Array Oper} {o:Oper} {an:b5} {T:List I} {H:List au} {v:I} {H':List au} (hw:eu ops o T=some true)
  (h:a8 P C lo o an.mode (fo (dN o) (rd T an.takes (opsOf o)).1) H=some (v,H')):dt P C lo ops o an ⟨T,H⟩=some ⟨put (inPlace o an.mode (rd T an.takes (opsOf o)).2 v) o.dst v,H'⟩:=by
 simp only [dt,hw,Ab.execOp];unfold fo at h;cases ak:dN o <;> rw [ak] at h <;> simp only at h ⊢ <;> rw [h] <;> rfl
theorem A1 {C:b6} {lo:Nat} {ops:Array Oper} {o:Oper} {an:b5} {T:List I} {H:List au} (hw:eu ops o T=some false):dt P C lo ops o an ⟨T,H⟩=some ⟨put T o.dst (.tuple []),H⟩:=by
 simp only [dt,hw]
theorem z8 {o:Oper} {mode zz:Nat} (h:hb P o mode=.call zz):zz=mode∧∃ c f,o.op=.call c∧c.callee=.value f:=by
 cases aD:o.op
 case call c =>
  simp only [hb,aD] at h;cases ao:c.callee with
  | value f=>simp only [ao] at h;cases h;exact ⟨rfl,c,f,rfl,ao⟩
  | invoke x n=>simp only [ao] at h;cases h
  | builtin b =>
    simp only [ao] at h;repeat' (first | contradiction | split at h)
 all_goals simp only [hb,aD] at h
 all_goals (try unfold nZ at h)
 all_goals (repeat' (first | contradiction | split at h))
theorem z_ {lo:Nat} {draw:Bool} {k:hR} {acc:dg} {vs:List I} {H:List au} {K:dg→I→List au→Prop} (h:k0 P lo draw k acc vs H K) :
  (∃ mode,k=.call mode∧m1 P lo draw mode acc vs H K)∨bN P lo k vs H (K acc):=by
 unfold k0 at h;split at h
 ·exact .inl ⟨_,rfl,h⟩
 ·exact .inr h
theorem mz {C:b6} {lo mode:Nat} {k:FuncId} {first cap args:List I} {H:List au}:hy C lo mode H (.func k first cap::args)=eS C lo mode (.fn k) (first++args++cap) H:=rfl
theorem zP {C:b6} {acc:dg} (ch:hM C acc) {lo:Nat} {k:FuncId} {as:List I} {v:I} (aC:as.all (cq 8)=true) (hm:(k,as.map I.cr,v)∈acc) (H:List au) :
  eS C lo 3 (.fn k) as H=some (v.cr,H):=by
 obtain ⟨r,a2,ad,af⟩:=ch _ hm;simp only [eS,aC,ad,r_,af,sd]
theorem Eb {C:b6} {acc:dg} (ch:hM C acc) {lo:Nat} {k:FuncId} {as:List I} {v:I} (H:List au) (aC:(as.map (ij H)).all (cq 8)=true) (ai:gb v=true) (hm:(k,(as.map (ij H)).map I.cr,v)∈acc) :
  eS C lo 6 (.fn k) as H=some (v.cr,H):=by
 obtain ⟨r,a2,ad,af⟩:=ch _ hm;simp only [eS,aC,ad,r_,af,ai]
theorem xW {lo:Nat} {ops:Array Oper} {o:Oper} {an:b5} {cP:cx} (aj:kZ P ops o an=some cP) {acc:dg} (hq:hj P acc) {T:List I} {H:List au} {K:dg→List I→List au→Prop}
  (h:hK P lo true cP acc T H K):∃ dw a7 H',hj P dw∧(∀ p∈acc,p∈dw)∧(∀ C,hM C dw→dt P C lo ops o an ⟨T,H⟩=some ⟨a7,H'⟩)∧K dw a7 H':=by
 rcases Bc aj h with ⟨hw,av⟩ | ⟨hw,av⟩
 ·exact ⟨acc,_,_,hq,fun _ h=>h,fun C _=>A1 hw,av⟩
 ·rcases z_ av with ⟨mode,hm,av⟩ | av
  ·obtain ⟨rfl,c,f,aD,ao⟩:=z8 hm;generalize h6:fo (dN o) (rd T an.takes (opsOf o)).1=vs at av;(have aq:∀ C,a8 P C lo o an.mode vs H=hy C lo an.mode H vs:=fun C=>by simp only [a8,aD,ao]);unfold m1 at av;split at av
   ·split at av
    ·(rename_i args _ k first cap);rw [ly,ly] at av;split at av
     ·rename_i jF;obtain ⟨aC,av⟩:=av;rw [oG] at av;obtain ⟨v,l4,lP,av⟩:=av;refine ⟨_,_,_,⟨fun p aC=>?_,fun p aC q a3 ad af=>?_⟩,fun p aC=>tR _ aC,fun C ch=>i' hw ?_,av⟩
      ·rcases sj.1 aC with rfl | aC
       ·exact l4
       ·exact hq.1 p aC
      ·rcases sj.1 aC with rfl | aC <;> rcases sj.1 a3 with rfl | a3
       ·rfl
       ·exact (lP q a3 ad.symm af.symm).symm
       ·exact lP p aC ad af
       ·exact hq.2 p aC q a3 ad af
      ·rw [h6,aq C,jF,mz,sA];exact zP ch aC (ud) H
     ·rename_i jF;obtain ⟨aC,gp,rfl,v,ai,l4,lP,av⟩:=av;refine ⟨_,_,_,⟨fun p aC=>?_,fun p aC q a3 ad af=>?_⟩,fun p aC=>tR _ aC,fun C ch=>i' hw ?_,av⟩
      ·rcases sj.1 aC with rfl | aC
       ·exact l4
       ·exact hq.1 p aC
      ·rcases sj.1 aC with rfl | aC <;> rcases sj.1 a3 with rfl | a3
       ·rfl
       ·exact (lP q a3 ad.symm af.symm).symm
       ·exact lP p aC ad af
       ·exact hq.2 p aC q a3 ad af
      ·rw [h6,aq C,jF,mz,sA];exact Eb ch H aC ai (ud)
     ·exact av.elim
    ·exact av.elim
    ·exact av.elim
   ·exact av.elim
  ·obtain ⟨v,H',ad,af⟩:=z9 av;exact ⟨acc,_,_,hq,fun _ h=>h,fun C _=>i' hw (ad C),af⟩
theorem FQ {lo:Nat} {ops:Array Oper} {o:Oper} {an:b5} {cP:cx} (aj:kZ P ops o an=some cP) {acc:dg} {T:List I} {H:List au} {K:dg→List I→List au→Prop}
  (h:hK P lo false cP acc T H K):iu P lo ops o an ⟨T,H⟩ fun aF=>K acc aF.T aF.H:=by
 rcases Bc aj h with ⟨hw,av⟩ | ⟨hw,av⟩
 ·exact .inl ⟨_,_,ye,A1 hw,av⟩
 ·rcases z_ av with ⟨mode,hm,av⟩ | av
  ·obtain ⟨rfl,c,f,aD,ao⟩:=z8 hm;generalize h6:fo (dN o) (rd T an.takes (opsOf o)).1=vs at av;(have aq:∀ C,a8 P C lo o an.mode vs H=hy C lo an.mode H vs:=fun C=>by simp only [a8,aD,ao]);unfold m1 at av;split at av
   ·split at av
    ·(rename_i args _ k first cap);rw [ly,ly] at av;split at av
     ·rename_i jF;obtain ⟨aC,av⟩:=av;rw [oG] at av;obtain ⟨v,l4,av⟩:=av
      obtain ⟨C,bt,ch⟩:=ox (acc:=[(k,(first++(args++cap)).map I.cr,v)]) (P:=P) ⟨fun p aC=>by simp only [sK] at aC;subst aC;exact l4,fun p aC q a3 _ _=>by
       simp only [sK] at aC a3;subst aC;subst a3;rfl⟩
      refine .inl ⟨C,_,bt,i' hw (v:=v.cr) (H':=H) ?_,av⟩;rw [h6,aq C,jF,mz,sA];exact zP ch aC (ud) H
     ·rename_i jF;obtain ⟨v,H',⟨C,bt,e6⟩,av⟩:=av;refine .inl ⟨C,_,bt,i' hw (v:=v) (H':=H') ?_,av⟩;rw [h6,aq C,jF,mz,sA];exact e6
     ·obtain ⟨v,H',⟨C,bt,e6⟩,av⟩:=av;refine .inl ⟨C,_,bt,i' hw (v:=v) (H':=H') ?_,av⟩;rw [h6,aq C,mz,sA];exact e6
    ·obtain ⟨v,H',⟨C,bt,e6⟩,av⟩:=av;refine .inl ⟨C,_,bt,i' hw (v:=v) (H':=H') ?_,av⟩;rw [h6,aq C];exact e6
    ·exact av.elim
   ·exact av.elim
  ·obtain ⟨v,H',ad,af⟩:=z9 av;exact .inl ⟨_,_,ye,i' hw (ad _),af⟩
end
end Go.Proofs.YtfakoboiahbhaaaGreat.Ab


namespace Go.Proofs.YtfakoboiahbhaaaGreat.Ab
open Go
section
variable {P:Program}
theorem iu.mono {lo:Nat} {ops:Array Oper} {o:Oper} {an:b5} {s:a5} {K K':a5→Prop} (h:iu P lo ops o an s K) (av:∀ s,K s→K' s):iu P lo ops o an s K':=by
 rcases h with ⟨C,aF,ad,af,aG⟩ | ⟨it,r,m,since,seen,es,clock,aB,aH,aR,bj,bb,bf,c0,c',dD⟩
 ·exact .inl ⟨C,aF,ad,af,av _ aG⟩
 ·exact .inr ⟨it,r,m,since,seen,es,clock,aB,aH,aR,bj,bb,bf,c0,fun h=>av _ (c' h),fun e ad af=>av _ (dD e ad af)⟩
theorem As {lo:Nat} {ops:Array Oper} {K K':a5→Prop} (av:∀ s,K s→K' s):∀ {l:List Oper} {as:List b5} {s:a5},runN P lo ops l as s K→runN P lo ops l as s K'
 | [],_,s,h=>av s h
 | _::_,_,_,h=>iu.mono h fun _ aX=>As av aX
theorem zh {f g:a5→(cB→a5→Prop)→Prop} (kq:∀ s Q cG,(∀ e s,Q e s→cG e s)→f s Q→g s cG) {Q cG:cB→a5→Prop} (a3:∀ e s,Q e s→cG e s):∀ {n:Nat} {s:a5},ft f n s Q→ft g n s cG
 | 0,s,h=>h
 | n+1,s,h=>kq s _ _ (fun e aF aX=>by
   cases e with
   | normal=>exact zh kq a3 aX
   | ret=>exact a3 _ _ aX
   | exit id=>exact a3 _ _ aX) h
theorem k9 {A:c7} {fn:FuncId} {lo:Nat} {rl:Option Nat}:∀ {c:Code} {aY:Nat} {s:a5} {Q cG:cB→a5→Prop},(∀ e s,Q e s→cG e s)→c2 P A fn lo rl c aY s Q→c2 P A fn lo rl c aY s cG:=by
 intro c
 induction c with
 | skip=>intro aY s Q cG a3 h;exact a3 _ _ h
 | label l=>intro aY s Q cG a3 h;exact a3 _ _ h
 | ret=>intro aY s Q cG a3 h;exact a3 _ _ h
 | exit id=>intro aY s Q cG a3 h;exact a3 _ _ h
 | goto l=>intro aY s Q cG a3 h;exact h
 | refuse y=>intro aY s Q cG a3 h;exact h
 | region id ops draw =>
   intro aY s Q cG a3 h;simp only [c2] at h ⊢;split at h
   ·obtain ⟨acc,s1,s2,ad,af,aG,a6⟩:=h;exact ⟨acc,s1,s2,ad,af,a3 _ _ aG,a3 _ _ a6⟩
   cases draw with
   | true=>obtain ⟨acc,aF,ad,af,aG⟩:=h;exact ⟨acc,aF,ad,af,a3 _ _ aG⟩
   | false=>exact As (fun s h=>a3 _ _ h) h
 | seq a b e_ fm =>
   intro aY s Q cG a3 h;refine e_ (fun e aF aX=>?_) h;cases e with
   | normal=>exact fm a3 aX
   | ret=>exact a3 _ _ aX
   | exit id=>exact a3 _ _ aX
 | cond c a b e_ fm =>
   intro aY s Q cG a3 h;rcases h with ⟨t,ax,h⟩ | ⟨ax,ad,af⟩
   ·refine .inl ⟨t,ax,?_⟩;cases t with
    | true=>exact e_ a3 h
    | false=>exact fm a3 h
   ·exact .inr ⟨ax,e_ a3 ad,fm a3 af⟩
 | block id c a_ =>
   intro aY s Q cG a3 h;refine a_ (fun e aF aX=>?_) h;cases e with
   | normal=>exact a3 _ _ aX
   | ret=>exact a3 _ _ aX
   | exit bx =>
     simp only at aX ⊢;by_cases aE:bx=id
     ·simp only [aE,if_true] at aX ⊢;exact a3 _ _ aX
     ·simp only [aE,if_false] at aX ⊢;exact a3 _ _ aX
 | loop c a_ =>
   intro aY s Q cG a3 h;obtain ⟨n,h⟩:=h;refine ⟨n,?_⟩;refine zh ?_ a3 h;intro s Q cG a3 h;exact a_ a3 h
 | scope c a_=>intro aY s Q cG a3 h;exact a_ a3 h
 | rangeFunc f bh as bY _ _ =>
   intro aY s Q cG a3 h;obtain ⟨C,e,aF,ad,af,aG⟩:=h;exact ⟨C,e,aF,ad,af,a3 _ _ aG⟩
theorem nX {lo:Nat} {ops:Array Oper}:∀ {l:List Oper} {as:List b5} {rl:List cx} {acc:dg} {T:List I} {H:List au} {K:List I→List au→Prop},g3 P ops l as=some rl→gE P lo false rl acc T H K →
  runN P lo ops l as ⟨T,H⟩ fun aF=>K aF.T aF.H
 | [],as,rl,acc,T,H,K,ak,h=>by simp only [g3,Option.some.injEq] at ak;subst ak;exact h
 | o::r,as,rl,acc,T,H,K,ak,h=>by
   simp only [g3] at ak;split at ak
   ·rename_i cP l' ad af;simp only [Option.some.injEq] at ak;subst ak;exact iu.mono (FQ ad h) fun aF aX=>nX af aX
   ·cases ak
theorem BV {C:b6} {lo:Nat} {ops:Array Oper} {o:Oper} {r:List Oper} {as:List b5} {s:a5}:eG P C lo ops (o::r) as s=(dt P C lo ops o (as.headD {}) s).bind (eG P C lo ops r as.tail):=by
 rw [eG];unfold dt;cases hw:eu ops o s.T with
 | none=>rfl
 | some b=>cases b <;> rfl
theorem zZ {lo:Nat} {ops:Array Oper}:∀ {l:List Oper} {as:List b5} {rl:List cx} {acc:dg} {T:List I} {H:List au} {K:List I→List au→Prop},g3 P ops l as=some rl→hj P acc→gE P lo true rl acc T H K →
  ∃ dw a7 H',hj P dw∧(∀ p∈acc,p∈dw)∧(∀ C,hM C dw→eG P C lo ops l as ⟨T,H⟩=some ⟨a7,H'⟩)∧K a7 H'
 | [],as,rl,acc,T,H,K,ak,cd,h=>by simp only [g3,Option.some.injEq] at ak;subst ak;exact ⟨acc,T,H,cd,fun _ h=>h,fun _ _=>rfl,h⟩
 | o::r,as,rl,acc,T,H,K,ak,cd,h=>by
   simp only [g3] at ak;split at ak
   ·rename_i cP l' ad af;simp only [Option.some.injEq] at ak;subst ak;obtain ⟨x2,ff,H1,aB,aH,aR,bj⟩:=xW ad cd h;obtain ⟨ow,dQ,a2,bo,cI,ez,jq⟩:=zZ af aB bj;refine ⟨ow,dQ,a2,bo,fun p aC=>cI p (aH p aC),fun C ch=>?_,jq⟩;rw [BV,aR C (fun p aC=>ch p (cI p aC)),r_];exact ez C ch
   ·cases ak
theorem n3 {C:b6} {lo:Nat} {ops:Array Oper} {an:List b5}:∀ (a b:List Nat) (s:a5),cw P C lo ops an (a++b) s=(cw P C lo ops an a s).bind (cw P C lo ops an b)
 | [],b,s=>rfl
 | i::a,b,s=>by
   rw [List.cons_append];simp only [cw];cases ops[i]? with
   | none=>exact n3 a b s
   | some o =>
     dsimp only;cases dt P C lo ops o (an.getD i {}) s with
     | none=>rfl
     | some s1=>exact n3 a b s1
theorem FR {lo:Nat} {cP:cx} (aN:nP cP=true) {acc:dg} {T:List I} {H:List au} {K K':dg→List I→List au→Prop} (fB:K acc=K' acc) (h:hK P lo true cP acc T H K):hK P lo true cP acc T H K':=by
 have e:∀ (vs:List I) (H:List au) (F:dg→I→List au→Prop),k0 P lo true cP.k acc vs H F=bN P lo cP.k vs H (F acc):=fun vs H F=>by
  unfold nP at aN;unfold k0;split
  ·rename_i m av;rw [av] at aN;cases aN
  ·rfl
 unfold hK at h ⊢;simp only [e,fB] at h ⊢;exact h
theorem xm {lo:Nat} {ops:Array Oper} {an:List b5}:∀ {O:List Nat} {rl:List cx} {acc:dg} {T:List I} {H:List au} {K:List I→List au→Prop},fa P ops an O=some rl→rl.all nP=true→hj P acc→gE P lo true rl acc T H K →
  ∃ a7 H',(∀ C,hM C acc→cw P C lo ops an O ⟨T,H⟩=some ⟨a7,H'⟩)∧K a7 H'
 | [],rl,acc,T,H,K,ak,_,cd,h=>by simp only [fa,Option.some.injEq] at ak;subst ak;exact ⟨T,H,fun _ _=>rfl,h⟩
 | i::r,rl,acc,T,H,K,ak,aN,cd,h=>by
   simp only [fa] at ak;split at ak
   ·rename_i o hi;split at ak
    ·rename_i cP l' ad af;simp only [Option.some.injEq] at ak;subst ak;simp only [tE,sv] at aN;have aX:=FR aN.1 (K':=fun dw a7 H'=>dw=acc∧gE P lo true l' acc a7 H' K) (by funext a7 H';simp) h;obtain ⟨x2,ff,H1,_,_,aR,rfl,bj⟩:=xW ad cd aX;obtain ⟨dQ,a2,ez,jq⟩:=xm af aN.2 cd bj;refine ⟨dQ,a2,fun C ch=>?_,jq⟩;simp only [cw,hi];rw [aR C ch,r_];exact ez C ch
    ·cases ak
   ·cases ak
theorem z0 {lo:Nat} {ops:Array Oper} {an:List b5} {a b:cx} {post:List cx}:∀ {O:List Nat} {rl:List cx} {acc:dg} {T:List I} {H:List au} {K:List I→List au→Prop},fa P ops an O=some rl→hj P acc→xo P lo a b post rl acc T H K →
  ∃ dw a7 H',hj P dw∧(∀ p∈acc,p∈dw)∧(∀ C,hM C dw→cw P C lo ops an O ⟨T,H⟩=some ⟨a7,H'⟩)∧gE P lo true (a::b::post) dw a7 H' K∧gE P lo true (b::a::post) dw a7 H' K
 | [],rl,acc,T,H,K,ak,cd,h=>by simp only [fa,Option.some.injEq] at ak;subst ak;exact ⟨acc,T,H,cd,fun _ h=>h,fun _ _=>rfl,h.1,h.2⟩
 | i::r,rl,acc,T,H,K,ak,cd,h=>by
   simp only [fa] at ak;split at ak
   ·rename_i o hi;split at ak
    ·rename_i cP l' ad af;simp only [Option.some.injEq] at ak;subst ak;obtain ⟨x2,ff,H1,aB,aH,aR,bj⟩:=xW ad cd h;obtain ⟨ow,dQ,a2,bo,cI,ez,jq⟩:=z0 af aB bj;refine ⟨ow,dQ,a2,bo,fun p aC=>cI p (aH p aC),fun C ch=>?_,jq⟩;simp only [cw,hi];rw [aR C (fun p aC=>ch p (cI p aC)),r_];exact ez C ch
    ·cases ak
   ·cases ak
theorem nF {ops:Array Oper} {an:List b5} {i:Nat} {r:List Nat} {a:cx} {l:List cx} (ad:fa P ops an [i]=some [a]) (af:fa P ops an r=some l):fa P ops an (i::r)=some (a::l):=by
 simp only [fa] at ad ⊢;split at ad
 ·rename_i o aq;split at ad
  ·rename_i cP l' aG a6;simp only [Option.some.injEq,List.cons.injEq] at ad a6;obtain ⟨rfl,rfl⟩:=ad;simp only [aG,af]
  ·cases ad
 ·cases ad
theorem zU {n p:Nat} (a3:p+1<n):List.range n=List.range p++(p::(p+1)::List.range' (p+2) (n-(p+2))):=by
 apply List.ext_getElem?;intro i;rw [List.getElem?_append];simp only [List.length_range];by_cases h:i<p
 ·rw [if_pos h,uY h,uY (by omega)]
 ·rw [if_neg h];obtain ⟨k,rfl⟩:∃ k,i=p+k:=⟨i-p,by omega⟩;rw [show p+k-p=k by omega]
  match k with
  | 0=>rw [uY (by omega)];rfl
  | 1=>rw [uY (by omega)];rfl
  | k+2 =>
    simp only [List.getElem?_cons_succ];by_cases af:p+(k+2)<n
    ·rw [uY af,List.getElem?_range' (by omega)];congr 1;omega
    ·rw [td (by simp;omega),td (by simp;omega)]
theorem FD {n p:Nat} (a3:p+1<n):fe n p (p+1)=List.range p++((p+1)::p::List.range' (p+2) (n-(p+2))):=by
 unfold fe;rw [zU a3,List.map_append];congr 1
 ·conv=>rhs;rw [←uN (List.range p)]
  refine ti fun i hi=>?_;have:=sG.1 hi;rw [if_neg (by omega),if_neg (by omega)];rfl
 ·rw [sx,sx,if_pos rfl,if_neg (by omega),if_pos rfl];congr 2;conv=>rhs;rw [←uN (List.range' _ _)]
  refine ti fun i hi=>?_;have:=List.mem_range'_1.1 hi;rw [if_neg (by omega),if_neg (by omega)];rfl
theorem Dp {A:c7} {fn:FuncId} {lo:Nat} {rl:Option Nat} {id:Nat} {ops:Array Oper} {draw:Bool} {aY p:Nat} {rc:ey} (aK:A.h8=[]) (ax:j8 A id draw=some p) (a3:p+1<ops.size) (ak:nG P ops (A.ops.getD id []) p=some rc)
  {T:List I} {H:List au} {Q:cB→List I→List au→Prop} (h:dB P A fn lo rl rc T H Q):c2 P A fn lo rl (.region id ops draw) aY ⟨T,H⟩ fun e s=>Q e s.T s.H:=by
 have av:eV A.h8 id ⟨T,H⟩=⟨T,H⟩:=by rw [aK];rfl
 unfold nG at ak;split at ak
 ·rename_i pre a b post ad af aG a6;split at ak
  ·rename_i aN;simp only [Option.some.injEq] at ak;subst ak;obtain ⟨acc,ff,H1,aB,_,aR,bj,bb⟩:=z0 ad ⟨fun p aC=>by simp at aC,fun p aC=>by simp at aC⟩ h;simp only [tE,sv] at aN;obtain ⟨dQ,a2,bo,cI⟩:=xm (nF af (nF aG a6)) (by simp only [tE,sv];exact aN) aB bj;obtain ⟨dC,hO,a',bk⟩:=xm (nF aG (nF af a6)) (by simp only [tE,sv];exact ⟨aN.2.1,aN.1,aN.2.2⟩) aB bb;simp only [c2,ax,av];refine ⟨acc,⟨dQ,a2⟩,⟨dC,hO⟩,aB,fun C _ ch=>⟨?_,?_⟩,cI,bk⟩
   ·rw [zU a3,n3,aR C ch];exact bo C ch
   ·rw [FD a3,n3,aR C ch];exact a' C ch
  ·cases ak
 ·cases ak
theorem Dn {A:c7} {fn:FuncId} {lo:Nat} {rl:Option Nat} {id:Nat} {ops:Array Oper} {draw:Bool} {aY:Nat} {rc:ey} (aK:A.h8=[]) (ax:j8 A id draw=none) (ak:w_ P ops draw (A.ops.getD id [])=some rc)
  {T:List I} {H:List au} {Q:cB→List I→List au→Prop} (h:dB P A fn lo rl rc T H Q):c2 P A fn lo rl (.region id ops draw) aY ⟨T,H⟩ fun e s=>Q e s.T s.H:=by
 have av:eV A.h8 id ⟨T,H⟩=⟨T,H⟩:=by rw [aK];rfl
 have gen:∀ {d:Bool} {l:List Oper},ops.toList=l→draw=d→(g3 P ops l (A.ops.getD id [])).map (.j0 d)=some rc→c2 P A fn lo rl (.region id ops draw) aY ⟨T,H⟩ fun e s=>Q e s.T s.H:=fun {d l} l3 aZ e9=>by
  clear ak;simp only [rZ] at e9;obtain ⟨Ey,e9,rfl⟩:=e9;subst aZ;cases draw with
  | true =>
    obtain ⟨dw,a7,H',aB,_,aR,bj⟩:=zZ e9 ⟨fun p aC=>by simp at aC,fun p aC=>by simp at aC⟩ h;simp only [c2,ax];exact ⟨dw,⟨a7,H'⟩,aB,fun C _ ch=>by rw [av,l3];exact aR C ch,bj⟩
  | false =>
    simp only [c2,ax];rw [av,l3];exact nX e9 h
 unfold w_ at ak;split at ak
 ·rename_i o rest l3;split at ak
  ·rename_i it aD aO;simp only [rZ] at ak;obtain ⟨Ey,ak,rfl⟩:=ak;simp only [c2,ax];rw [av,l3];refine .inr ?_;simp only [dB,zD,iC] at h;split at h
   ·rename_i r aj;obtain ⟨m,since,seen,clock,es,aB,aH,aR,bj,bb,bf⟩:=h;simp only [xj] at bb bf;exact ⟨.tmp it,r,m,since,seen,es,clock,aD,aO,aj,aB,aH,aR,bj,fun h=>nX ak (bb h),fun e ad af=>nX ak (bf e ad af)⟩
   ·exact h.elim
  ·exact gen l3 rfl ak
 ·exact gen rfl rfl ak
theorem ft.more {f:a5→(cB→a5→Prop)→Prop} {Q:cB→a5→Prop} (aQ:∀ s Q cG,(∀ e s,Q e s→cG e s)→f s Q→f s cG):∀ {n:Nat} {s:a5},ft f n s Q→ft f (n+1) s Q
 | 0,s,h=>h.elim
 | n+1,s,h=>aQ _ _ _ (fun e aF aX=>by
    cases e with
    | normal=>exact ft.more aQ aX
    | ret=>exact aX
    | exit id=>exact aX) h
theorem Ds {f:a5→(cB→a5→Prop)→Prop} {Q:cB→a5→Prop} (hP:Nat→a5→Prop) (step:∀ m s,hP m s→f s fun e aF=>match e with | .normal=>∃ g4,g4<m∧hP g4 aF | e=>Q e aF)
  (aQ:∀ s Q cG,(∀ e s,Q e s→cG e s)→f s Q→f s cG):∀ (m:Nat) (s:a5),hP m s→ft f (m+1) s Q:=by
 intro m
 induction m using Nat.strongRecOn with
 | _ m a_ =>
   intro s h;refine aQ _ _ _ (fun e aF aX=>?_) (step m s h);cases e with
   | normal =>
     obtain ⟨g4,hm,aX⟩:=aX
     have:∀ k,ft f (g4+1+k) aF Q:=fun k=>by
      induction k with
      | zero=>exact a_ g4 hm aF aX
      | succ k Dd=>exact ft.more aQ Dd
     (have e:m=g4+1+(m-(g4+1)):=by omega);rw [e];exact this _
   | ret=>exact aX
   | exit id=>exact aX
theorem xa {A:c7} {fn:FuncId} {lo:Nat} {rl:Option Nat}:∀ {c:Code} {aY:Nat} {rc:ey} {T:List I} {H:List au} {Q:cB→List I→List au→Prop},dS P A c aY=some rc→dB P A fn lo rl rc T H Q →
  c2 P A fn lo rl c aY ⟨T,H⟩ fun e s=>Q e s.T s.H:=by
 intro c
 induction c with
 | skip=>intro aY rc T H Q ak h;simp only [dS,Option.some.injEq] at ak;subst ak;exact h
 | label l=>intro aY rc T H Q ak h;simp only [dS,Option.some.injEq] at ak;subst ak;exact h
 | ret=>intro aY rc T H Q ak h;simp only [dS,Option.some.injEq] at ak;subst ak;exact h
 | exit id=>intro aY rc T H Q ak h;simp only [dS,Option.some.injEq] at ak;subst ak;exact h
 | goto l=>intro aY rc T H Q ak h;simp [dS] at ak
 | refuse y=>intro aY rc T H Q ak h;simp [dS] at ak
 | region id ops draw =>
   intro aY rc T H Q ak h;simp only [dS] at ak;split at ak
   ·rename_i aK;split at ak
    ·rename_i p ax;by_cases a3:p+1<ops.size
     ·exact Dp aK ax a3 ak h
     ·exact absurd ak (by unfold nG;simp only [fa,Array.getElem?_eq_none (show ops.size≤p+1 by omega)];split <;> simp_all)
    ·rename_i ax;exact Dn aK ax ak h
   ·cases ak
 | seq a b e_ fm =>
   intro aY rc T H Q ak h;simp only [dS] at ak;split at ak
   ·rename_i x y al a0;simp only [Option.some.injEq] at ak;subst ak;show c2 P A fn lo rl a aY ⟨T,H⟩ _;refine k9 (fun e s aX=>?_) (e_ al h);cases e with
    | normal=>exact fm a0 aX
    | ret=>exact aX
    | exit id=>exact aX
   ·cases ak
 | cond c a b e_ fm =>
   intro aY rc T H Q ak h;simp only [dS] at ak;split at ak
   ·rename_i x y al a0;simp only [Option.some.injEq] at ak;subst ak
    have key:∀ v,aA T c=v→(match v with
      | .bool t=>(match t with | true=>dB P A fn lo rl x T H Q | false=>dB P A fn lo rl y T H Q)
      | .dn=>dB P A fn lo rl x T H Q∧dB P A fn lo rl y T H Q
      | _=>False)→c2 P A fn lo rl (.cond c a b) aY ⟨T,H⟩ fun e s=>Q e s.T s.H:=fun v ae h=>by
     cases v with
     | bool t =>
       refine .inl ⟨t,ae,?_⟩;cases t with
       | true=>exact e_ al h
       | false=>exact fm a0 h
     | dn=>exact .inr ⟨ae,e_ al h.1,fm a0 h.2⟩
     | _=>exact h.elim
    cases c with
    | tmp t=>simp only [nY,dB,iC] at h;exact key _ rfl h
    | const v=>exact key (aA [] (.const v)) rfl h
    | func f=>exact key (aA [] (.func f)) rfl h
    | global g=>exact key (aA [] (.global g)) rfl h
   ·cases ak
 | block id c a_ =>
   intro aY rc T H Q ak h;simp only [dS,rZ] at ak;obtain ⟨x,al,rfl⟩:=ak;show c2 P A fn lo rl c id ⟨T,H⟩ _;refine k9 (fun e s aX=>?_) (a_ al h);cases e with
   | normal=>exact aX
   | ret=>exact aX
   | exit bx =>
     simp only at aX ⊢;by_cases aE:bx=id
     ·subst aE;simp only [if_true];rw [uL] at aX;exact aX
     ·simp only [aE,if_false]
      have:Nat.beq bx id=false:=by
       cases ag:Nat.beq bx id with
       | false=>rfl
       | true=>exact absurd (s_ ag) aE
      rw [this] at aX;exact aX
 | loop c a_ =>
   intro aY rc T H Q ak h;simp only [dS,rZ] at ak;obtain ⟨x,al,rfl⟩:=ak;simp only [dB,Dj,zA] at h;obtain ⟨hP,m,hm,Da⟩:=h;have ks:∀ s:a5,eV A.h7 aY s=⟨match lG aY A.h7 with | some k=>eQ k s.T | none=>s.T,s.H⟩:=fun s=>by
    unfold eV;cases lG aY A.h7 <;> rfl
   refine ⟨m+1,Ds (f:=fun aF=>c2 P A fn lo rl c aY (eV A.h7 aY aF)) (fun m s=>hP m (eV A.h7 aY s).T s.H) ?_ (fun s Q cG a3 h=>k9 a3 h) m ⟨T,H⟩ (by rw [ks];exact hm)⟩;intro m s kl;rw [ks] at kl;have h:=a_ al (Da m _ s.H kl);show c2 P A fn lo rl c aY (eV A.h7 aY s) _;rw [ks];refine k9 (fun e aF aX=>?_) h;cases e with
   | normal=>simp only at aX ⊢;rw [ks];exact aX
   | ret=>exact aX
   | exit id=>exact aX
 | scope c a_=>intro aY rc T H Q ak h;exact a_ ak h
 | rangeFunc f bh as bY _ _ =>
   intro aY rc T H Q ak h;simp only [dS,Option.some.injEq] at ak;subst ak;have key:∀ v,aA T f=v→n2 P A fn lo rl v bh.toList as bY T H Q→c2 P A fn lo rl (.rangeFunc f bh as bY) aY ⟨T,H⟩ fun e s=>Q e s.T s.H:=fun v ae h=>by
    unfold n2 at h;split at h
    ·(rename_i k first cap);obtain ⟨gX,r,H',st,cF,fn',a7,zN,gp,x7,iz,ai,ak,cJ,a3⟩:=h;have fin:∀ (e:cB) (a2:List au),exec P A (kP (.fn k) (first++[.yield H.length]++cap) (H++[.loop .ready none fn (T.map I.view) bh.toList as bY A]) lo r H') fn lo 0 rl (.rangeFunc f bh as bY) aY ⟨T,H⟩=some (e,⟨T.map I.settle,a2⟩)→Q e (T.map I.settle) a2 →
       c2 P A fn lo rl (.rangeFunc f bh as bY) aY ⟨T,H⟩ fun e s=>Q e s.T s.H:=fun e a2 he a3=>⟨_,e,_,D2 ai,he,a3⟩
     have hex:∀ (e:cB),(match cF with | none=>some cB.normal | some .ret=>some .ret | some (.exit id)=>some (.exit id) | _=>none)=some e →
       exec P A (kP (.fn k) (first++[.yield H.length]++cap) (H++[.loop .ready none fn (T.map I.view) bh.toList as bY A]) lo r H') fn lo 0 rl (.rangeFunc f bh as bY) aY ⟨T,H⟩=some (e,⟨T.map I.settle,H'.set H.length .dead⟩):=fun e he=>by
      simp only [exec,ae,gX,D1,ak,cJ,if_false];split at he <;> simp_all
     split at a3
     ·exact fin _ _ (hex .normal rfl) a3
     ·exact fin _ _ (hex .ret rfl) a3
     ·exact fin _ _ (hex (.exit _) rfl) a3
     ·exact a3.elim
    ·exact h.elim
   cases f with
   | tmp t=>simp only [nY,dB,iC] at h;exact key _ rfl h
   | const v=>exact key (aA [] (.const v)) rfl h
   | func g=>exact key (aA [] (.func g)) rfl h
   | global g=>exact key (aA [] (.global g)) rfl h
end
end Go.Proofs.YtfakoboiahbhaaaGreat.Ab


namespace Go.Proofs.YtfakoboiahbhaaaGreat.Ab
open Go
inductive ji where
 | tmp (t:Nat) | cell (a:Nat) (g:e0)
def kJ (g:e0) (cs:List I) (off:Nat):Option I:=match g with
 | .one=>(cs[off]?).map I.view
 | .str s=>if off+s≤cs.length then some (.agg (((cs.drop off).take s).map I.view)) else none
 | .arr s=>if off+s≤cs.length then some (.agg (((cs.drop off).take s).map I.view)) else none
theorem Dm {P:Program} {t:TypeId} {g:e0} (h:gN P t=some g) (cs:List I) (off:Nat):er P t cs off=kJ g cs off:=by
 rcases oy h with ⟨rfl,ad,d,af⟩ | ⟨s,af,ad⟩
 ·simp [er,kJ,ad,af]
 ·rcases af with ⟨rfl,af⟩ | ⟨rfl,af⟩ <;> simp [er,kJ,ad,af]
def oA (H:List au) (g:e0):I→Option I
 | .ptr id off=>match H[id]? with
   | some (.cells l)=>kJ g l off
   | some (.grow l _ _)=>kJ g l off
   | _=>none
 | .bU cells=>kJ g cells 0
 | _=>none
theorem BC {P:Program} {t:TypeId} {g:e0} (h:gN P t=some g) (H:List au) (a:I):dR P H t a=oA H g a:=by
 cases a <;> simp only [dR,oA,Dm h] <;> rfl
noncomputable def jZ (H:List au) (T:List I):List ji→Option (List I)
 | []=>some []
 | .tmp t::r=>(jZ H T r).map (c4 T t::·)
 | .cell a g::r=>match oA H g (c4 T a),jZ H T r with
   | some v,some vs=>some (v::vs)
   | _,_=>none
def j1 (P:Program):List ResultVar→Option (List ji)
 | []=>some []
 | .tmp t::r=>(j1 P r).map (.tmp t::·)
 | .cell a t::r=>match gN P t,j1 P r with
   | some g,some l=>some (.cell a g::l)
   | _,_=>none
theorem xl {P:Program} (H:List au) (T:List I):∀ {rs:List ResultVar} {l:List ji},j1 P rs=some l→fc P H T rs=jZ H T l
 | [],l,h=>by simp [j1] at h;subst h;rfl
 | .tmp t::r,l,h=>by
   simp only [j1,rZ] at h;obtain ⟨l,h,rfl⟩:=h;simp only [fc,jZ,xl H T h]
 | .cell a t::r,l,h=>by
   simp only [j1] at h;split at h
   ·rename_i g l' ad af;simp only [Option.some.injEq] at h;subst h;simp only [fc,jZ,xl H T af,BC ad];rfl
   ·cases h
inductive ot (rs:List ji) (v:I) (e:cB) (T:List I) (H:List au):Prop where
 | mk (he:e=.normal∨e=.ret) (vs:List I) (aj:jZ H T rs=some vs) (r:I) (aQ:bJ H 0 H.length 0 8 (g' vs)=some r) (ae:r=v∨r.settle=v)
theorem Gv {rs:List ji} {v:I} {e:cB} {T:List I} {H:List au} (he:e=.normal∨e=.ret) (aC:cq 8 v=true) (h:(jZ H T rs).map g'=some v):ot rs v e T H:=by
 simp only [rZ] at h;obtain ⟨vs,ad,af⟩:=h;exact ⟨he,vs,ad,v,by rw [af];exact oR aC,.inl rfl⟩
noncomputable def zf (P:Program) (A:c7) (k:Nat):Option (ey×Nat×List ji):=match P.funcs[k]? with
 | some f=>match f.body with
   | some c => match codeOk A c, f.name == "runtime.NumGoroutine", dS P A c 0, j1 P f.results.toList with
     | true,false,some rc,some ts=>some (rc,f.ntmps,ts)
     | _,_,_,_=>none
   | none=>none
 | none=>none
theorem F7 {P:Program} (dH:P.follows .mixedOrders=true) {k:Nat} {A:c7} {rc:ey} {n:Nat} {ts:List ji} (ak:zf P A k=some (rc,n,ts)) {args T:List I} (bX:args++List.replicate (n-args.length) .junk=T) {v:I} (aC:cq 8 v=true)
  (h:dB P A k 0 none rc T [] (ot ts v)):lg P k args v:=by
 unfold zf at ak;split at ak
 ·rename_i f aQ;split at ak
  ·rename_i c ag;split at ak
   ·rename_i Gu FF ad af aG a6;simp only [Option.some.injEq,Prod.mk.injEq] at ak;obtain ⟨rfl,rfl,rfl⟩:=ak;subst bX;have a3:∀ e s,ot FF v e (a5.T s) (a5.H s)→(e=.normal∨e=.ret)∧∃ vs r,fc P s.H s.T f.results.toList=some vs∧bJ s.H 0 s.H.length 0 8 (g' vs)=some r∧(r=v∨r.settle=v):=fun e s ⟨cb,vs,B0,r,b8,dY⟩=>by
     exact ⟨cb,vs,r,by rw [xl _ _ a6,B0],b8,dY⟩
    exact Ec dH aQ ag (by simpa using af) ad aC (k9 a3 (xa aG h))
   ·cases ak
  ·cases ak
 ·cases ak
def n_:Nat→Nat→List (Nat×I)→List I
 | 0,_,_=>[]
 | n+1,i,[]=>.junk::n_ n (i+1) []
 | n+1,i,(j,v)::r=>match Nat.beq i j with
   | true=>v::n_ n (i+1) r
   | false=>.junk::n_ n (i+1) ((j,v)::r)
abbrev GG (n:Nat) (l:List (Nat×I)):List I:=n_ n 0 l
abbrev gL (d:Nat) (s:List ir) (k:hR):cx:=⟨some d,s,none,none,k⟩
noncomputable section
def hc:Code→List (Code×Code)
 | .rangeFunc _ _ a b=>(a,b)::(hc a++hc b)
 | .seq a b=>hc a++hc b
 | .cond _ a b=>hc a++hc b
 | .block _ c=>hc c
 | .loop c=>hc c
 | .scope c=>hc c
 | _=>[]
def x8 (P:Program) (k:Nat):Code:=match P.funcs[k]? with
 | some f=>match f.body with
   | some c=>c
   | none=>.skip
 | none=>.skip
def Gw (P:Program) (k i:Nat):Code:=match (hc (x8 P k))[i]? with
 | some x=>x.1
 | none=>.skip
def Gx (P:Program) (k i:Nat):Code:=match (hc (x8 P k))[i]? with
 | some x=>x.2
 | none=>.skip
end
end Go.Proofs.YtfakoboiahbhaaaGreat.Ab


namespace Go.Proofs.YtfakoboiahbhaaaGreat.Ab
open Go
section
variable {P:Program} {B:Nat} {J:List Nat} {w:World} {H:List au} {U:Nat→Option aI} {S:Nat→Nat→Prop}
end
end Go.Proofs.YtfakoboiahbhaaaGreat.Ab


namespace Go.Proofs.YtfakoboiahbhaaaGreat.Ab
open Go
section
variable {P:Program} {B N:Nat} {J:List Nat} {w:World} {H:List au} {U:Nat→Option aI} {S:Nat→Nat→Prop}
theorem FP (dH:P.follows .mixedOrders=true) {l lo:Nat} {fn:FuncId} {T a7:List I} {bh:List Nat} {as bY:Code} {an:c7} {args:List I} {H':List au}
  (ak:H[l]?=some (.loop .ready none fn T bh as bY an)) (eg:hf bh args T=some a7) (po:ba lo H H')
  (h:c2 P an fn lo (some l) as 0 ⟨a7,H⟩ fun e s1=>e=.normal∧s1.H[l]?=some (.loop .ready none fn T bh as bY an) ∧
   c2 P an fn lo (some l) bY 0 ⟨s1.T,s1.H.set l (.loop .busy none fn T bh as bY an)⟩ fun e s2=>e=.normal∧s2.H[l]?=some (.loop .busy none fn T bh as bY an)∧jg (s2.H.set l (.loop .ready none fn T bh as bY an)) H') :
  Sem P (.yield l) args H lo (.bool true) H':=by
 refine ⟨po,fun B U J S w xs b ah _ ae ag=>?_⟩;obtain ⟨a',bk,ar,L,aB,aH,aR,bj,bb,bf,c0,c',dD,fu,ou⟩:=ah.obj l _ ak;rw [ag] at aB;cases aB;have cJ:=xJ bh args T a7 xs L.tmps.toList eg ae.len (by simpa using c0.symm);obtain ⟨cb,b8,dY,hn⟩:=cJ;refine ⟨L,aR,by rw [←ae.len,←cb,←dD];simp,?_⟩;refine roundIn_of_wpIn trivial ?_;have l8:(hD L xs).toList=(bh.zip xs).foldl (fun (l:List Value) (p:Nat×Value)=>l.set p.1 p.2) L.tmps.toList:=by rw [Ap,dD]
 obtain ⟨da,fA⟩:=A7 bh ah;have aK:ct B w.heap.size (gJ bh U) J S w ⟨a7,H⟩ { tmps:=hD L xs,defers:=[] }:=by
  refine ⟨?_,fA,sc _,fun d aZ=>by simp at aZ,List.Pairwise.nil⟩;simp only [l8];have key:∀ (i:Nat) (u:I) (x:Value),a7[i]?=some u→((bh.zip xs).foldl (fun (l:List Value) (p:Nat×Value)=>l.set p.1 p.2) L.tmps.toList)[i]?=some x →
    Rel J S w u x∧aV (gJ bh U) J S w (.slot i) u x:=fun i u x hu al=>by
   rcases hn i u x hu al with ⟨aJ,aP⟩ | ⟨j,aJ,aP,cj⟩
   ·obtain ⟨bR,b4⟩:=c' i u x aJ (by simpa using aP);exact ⟨b4,aV.b3 bR⟩
   ·exact ⟨ae.rel j u x aP cj,(ae.own j u x aP cj).mono (Ext.refl J) (fun _ _ h=>⟨h,rfl⟩) fun b ag=>⟨by simp [gJ,ag,aJ],rfl,fun _ h=>h⟩⟩
  exact ⟨by rw [b8,dY,←c0];simp,fun i u x hu al=>(key i u x hu al).1,fun i u x hu al=>(key i u x hu al).2⟩
 rw [fu,ou];refine og dH as 0 _ _ h a' _ _ B w.heap.size J w (gJ bh U) S _ (.inr ⟨l,b,rfl,ag,rfl⟩) (fun l a w aO=>aO) aK fun e1 s1 av aB bC ai=>?_;obtain ⟨rfl,hx,af⟩:=av;obtain ⟨b2,cQ,a4,aJ,aP,b'⟩:=ai;have eT:cQ[l]?=some b:=aJ _ _ ag;obtain ⟨_,_,ar,jh,d1,d2,d3,d4,d5,_⟩:=b'.H.obj l _ hx;rw [eT] at d1;cases d1;obtain ⟨dX,oV⟩:=b'.loop hx eT d3 .busy none;have o3:(Instr.beginRound b).run P bC=.ok () (bC.putObj b (.loop { jh with state:=.busy,pending:=none })):=by
  rw [run_beginRound d3 d4]
  have:({ jh with state:=.busy,pending:=none }:Loop)={ jh with state:=.busy }:=by rw [←d5]
  rw [this]
 refine ⟨_,o3,?_⟩;refine wpIn_mono (Q:=fun cM aM w'=>(∀ t,cM≠Exit.goto t)∧roundPost P b (fs B U J S w H' (.bool true)) cM aM w') ?_ (fun e a w h=>h.2);refine og dH bY 0 _ _ af bk _ _ B w.heap.size cQ _ b2 a4 _ (.inr ⟨l,b,rfl,eT,rfl⟩) (fun l a w aO=>aO.1 l rfl) oV fun ck s2 av aH bT ai=>?_;obtain ⟨rfl,e9,kq⟩:=av;obtain ⟨bn,cg,bH,cj,jM,lJ⟩:=ai;have fj:cg[l]?=some b:=cj _ _ eT;obtain ⟨_,_,ar,iq,f1,f2,f3,f4,f5,_⟩:=lJ.H.obj l _ e9;rw [fj] at f1;cases f1;have ju:bg U S w bn bH bT:=((da.trans aP).trans dX).trans jM;refine ⟨fun t ax=>(by cases ax),?_⟩;refine ⟨_,_,run_endRound none f3,?_⟩;obtain ⟨oL,oW⟩:=lJ.loop e9 fj f3 .ready none;exact a1.m' kq ⟨bn,cg,bH,aJ.trans cj,ju.trans oL,oW.H,.bool _,aV.b3 rfl⟩
theorem GF (dH:P.follows .mixedOrders=true) {l lo:Nat} {fn:FuncId} {T a7:List I} {bh:List Nat} {as bY:Code} {an:c7} {args:List I} {H':List au} {zS zV:ey}
  (cd:dS P an as 0=some zS) (ag:dS P an bY 0=some zV)
  (ak:H[l]?=some (.loop .ready none fn T bh as bY an)) (eg:hf bh args T=some a7) (po:ba lo H H')
  (h:dB P an fn lo (some l) zS a7 H fun e ff H1=>e=.normal∧H1[l]?=some (.loop .ready none fn T bh as bY an) ∧
   dB P an fn lo (some l) zV ff (H1.set l (.loop .busy none fn T bh as bY an)) fun e dQ a2=>e=.normal∧a2[l]?=some (.loop .busy none fn T bh as bY an)∧jg (a2.set l (.loop .ready none fn T bh as bY an)) H') :
  Sem P (.yield l) args H lo (.bool true) H' :=
 FP dH ak eg po (k9 (fun e s a3=>⟨a3.1,a3.2.1,xa ag a3.2.2⟩) (xa cd h))
end
end Go.Proofs.YtfakoboiahbhaaaGreat.Ab


namespace Go.Proofs.YtfakoboiahbhaaaGreat.Ab
open Go
abbrev Gn (d s:Nat):cx:=gL d [.sl s] .iQ
abbrev Gp (d s:Nat):cx:=gL d [.hG s] .iQ
abbrev Gm (d:Nat) (n:Int):cx:=gL d [.iA (.int .i64 n)] .iQ
abbrev FZ (d s:Nat) (n:Int):cx:=gL d [.hJ s,.iA (.int .i64 n)] (.bin .add)
abbrev F1 (d s t:Nat) (o:BinOp):cx:=gL d [.hJ s,.hJ t] (.bin o)
abbrev F0 (d s:Nat) (n:Int) (o:BinOp):cx:=gL d [.hJ s,.iA (.int .i64 n)] (.bin o)
abbrev Gk (d s:Nat):cx:=gL d [.hG s] .pV
abbrev Gl (d s:Nat):cx:=gL d [.hJ s] (.pT .one)
abbrev F6 (d s k:Nat):cx:=gL d [.hJ s] (.oP k)
abbrev Gh (d s t k:Nat):cx:=gL d [.hJ s,.hJ t] (.pM k)
abbrev GJ (d s k:Nat):cx:=gL d [.sl s] (.ext k)
abbrev cP (d:Nat) (l:List ir) (g:Nat) (b:Bool) (k:hR):cx:=⟨some d,l,some (g,b),none,k⟩
abbrev Gs (l:List cx):ey:=.j0 false l
abbrev Gt (l:List cx):ey:=.j0 true l
abbrev Gz (l:List cx) (c:ey):ey:=.seq (.j0 false l) c
abbrev Gi (n:Nat):ey:=.cond (.sl n) .skip .skip
def Ar (b:Bool):Nat→List Bool→List Bool
 | 0,l=>l
 | n+1,l=>b::Ar b n l
def Ez:Bool→List Nat→List Bool
 | _,[]=>[]
 | b,n::r=>Ar b n (Ez (!b) r)
end Go.Proofs.YtfakoboiahbhaaaGreat.Ab
