
import Derived.Test.YtfakoboiahbhaaaGreatJr2
import Derived.Maps.RangeRun
set_option linter.unusedSimpArgs false
set_option linter.unusedVariables false
set_option linter.unusedSectionVars false

open Array renaming getD_eq_getD_getElem?→sy,getElem?_eq_getElem→sD,getElem?_eq_some_iff→sW,getElem?_setIfInBounds_ne→vv,toArray_toList→uC
open Bool renaming and_eq_true→sx,false_eq_true→tM,or_eq_true→tH
open Classical renaming choose_spec→vA
open List renaming all_cons→tr,all_eq_true→sC,append_assoc→sj,drop_eq_getElem_cons→sT,eq_nil_iff_forall_not_mem→uO,getD_eq_getElem?_getD→sG,getElem?_append_left→sA,getElem?_append_right→sL,getElem?_cons_zero→uD,getElem?_eq_getElem→sq,getElem?_eq_none→tB,getElem?_eq_some_iff→sa,getElem?_map→su,getElem?_range→u7,getElem?_set_ne→si,getElem?_set_self→sg,length_cons→sH,length_map→sZ,length_nil→uF,length_set→td,mapM_cons→vT,map_congr_left→tR,map_cons→se,map_id→u_,mem_cons→sk,mem_cons_of_mem→tX,mem_cons_self→ur,mem_iff_getElem?→tF,mem_map→ss,mem_of_getElem?→sK,mem_range→sJ,mem_singleton→sB,nodup_range→uc,pairwise_cons→tg,pairwise_lt_range→uP,pairwise_map→uQ
open Nat renaming beq_eq→uR,beq_refl→v3,ble_eq→uG,ble_eq_true_of_le→ue,blt_eq→tC,eq_of_beq_eq_true→ta,le_of_ble_eq_true→ub,le_refl→sb,lt_or_ge→sU
open Option renaming bind_eq_some_iff→sf,bind_some→r_,isNone_iff_eq_none→tw,isSome_eq_false_iff→tu,isSome_iff_exists→tG,map_eq_some_iff→rZ,map_some→sd
namespace Go.Proofs.YtfakoboiahbhaaaGreat.Ab
open Go
section
variable {P:Program} {B N:Nat} {J:List Nat} {w:World} {H:List au} {U:Nat→Option aI} {S:Nat→Nat→Prop}
theorem FL {bz:Nat→aI} {us:List I} {xs:List Value} (ak:us.length=xs.length) (h:∀ (j:Nat) (u:I) (v:Value),us[j]?=some u→xs[j]?=some v→Rel J S w u v∧u.plain=true):a9 bz U J S w us xs :=
 ⟨ak,fun j u v hu ae=>(h j u v hu ae).1,fun j u v hu ae=>aV.b3 (h j u v hu ae).2⟩
def pS (F:Fence) (P:Program) (Q:Exit→Act→World→Prop) (cF:Option Code) (aM:Act) (w':World):Prop:=match cF with
 | none=>Q .normal aM w'
 | some c=>c.wpIn F 0 P Q aM w'
theorem zS {F:Fence} (bB:ek F) {C:b6} (bt:c' P C) {T:List I} {a:Act} (aK:ct B N U J S w ⟨T,H⟩ a) (l_:a9 .slot U J S w (T.map I.view) a.tmps.toList)
  {lo k:Nat} {first cap:List I} {vs ws:Array Value} (aQ:Rel J S w (.func k first cap) (.func (.func k) vs ws))
  {as bY:Code} {an:c8} {fn fn':FuncId} {bh:Array Tmp} (a':codeOk an as=true) (bk:codeOk an bY=true) {r:I} {H':List au}
  (h:C (.fn k) (first++[.yield H.length]++cap) (H++[.loop .ready none fn (T.map I.view) bh.toList as bY an]) lo=some (r,H'))
  {st:LoopState} {cF:Option Code} {fU:FuncId} {dS:List I} {gG:List Nat} {gv gw:Code} {gr:c8} (ak:H'[H.length]?=some (.loop st cF fU dS gG gv gw gr)) (cJ:st≠.busy)
  {bC:World} (m':bg (dk U) S w (dk U) S bC) (bW:aL B (dk U) J S bC H) {mark:List Deferred} {dfr:Nat} (hm:Marks N (dk U) bC mark) (yK:∀ d∈mark,∀ r,d.target=.collected r→U r=none∧w.heap.size≤r) {Q:Exit→Act→World→Prop}
  (bl:∀ aM w',Step B N U J S w ⟨T,H'.set H.length .dead⟩ aM w'→pS F P Q cF aM w') :
  CallsIn F 0 P k (vs++#[Value.func (.yield bC.heap.size) #[] #[]]++ws) (bC.alloc (.loop { state:=.ready,pending:=none,fn:=fn',tmps:=a.tmps,params:=bh,assign:=as,body:=bY,defers:=dfr }))
   (rangePost F 0 P bC.heap.size Q { a with defers:=mark++a.defers }):=by
 generalize fl:({ state:=.ready,pending:=none,fn:=fn',tmps:=a.tmps,params:=bh,assign:=as,body:=bY,defers:=dfr }:Loop)=L;have yj:=kj bW (.loop L) (.obj H.length);have CW:=nv bW (.loop L) (.obj H.length);have me:Ext J (J++[bC.heap.size]):=Ext.append J _;have o1:∀ b o,S b o→S b o∧(bC.alloc (.loop L)).cell? ⟨b,o,none⟩=w.cell? ⟨b,o,none⟩:=(m'.trans yj).set;have B5:=CW.push bC.heap.size (o:=.loop .ready none fn (T.map I.view) bh.toList as bY an)
  ⟨a',bk,bC.heap.size,L,Ext.last bW _,by simp [lay],World.alloc_heap_new bC _,by rw [←fl],by rw [←fl],trivial,by rw [←fl];simpa using l_.len.symm,
   fun i u v hu ae=>by
    rw [←fl] at ae;refine ⟨?_,((l_.rel i u v hu (by simpa using ae)).mono me o1)⟩;simp only [su,rZ] at hu;obtain ⟨x,_,rfl⟩:=hu
    exact I.dh x,by rw [←fl],by rw [←fl],by rw [←fl]⟩
 have fX:mW (lay (dk U) bC.heap.size (.obj H.length)):=fun b i ag=>by
  unfold lay at ag;split at ag
  ·simp at ag
  ·exact Cx b i ag
 have B':a9 (fun i=>.arg i) (lay (dk U) bC.heap.size (.obj H.length)) (J++[bC.heap.size]) S (bC.alloc (.loop L)) (first++[.yield H.length]++cap) (vs.toList++[Value.func (.yield bC.heap.size) #[] #[]]++ws.toList):=by
  cases aQ with
  | func _ _ _ _ _ aJ aP bR b4 r1 r2 =>
    refine FL (by simp [aJ,aP]) fun j u v hu ae=>?_;rcases sU j first.length with ad | ad
    ·rw [sj,sA ad] at hu;rw [sj,sA (by simp;omega)] at ae;exact ⟨(r1 j u v hu (by simpa using ae)).mono me o1,bR u (sK hu)⟩
    ·rw [sj,sL ad] at hu;rw [sj,sL (by simp;omega)] at ae;(have bP:vs.toList.length=first.length:=by simp [aJ]);rw [bP] at ae;rcases sU (j-first.length) 1 with af | af
     ·(have aS:j-first.length=0:=by omega);rw [aS] at hu ae;simp at hu ae;subst hu ae;exact ⟨.yield _ _ (Ext.last bW _),rfl⟩
     ·rw [sL (by simpa using af)] at hu ae;exact ⟨(r2 _ u v hu (by simpa using ae)).mono me o1,b4 u (sK hu)⟩
 have e9:=(bt.ok h).2 B _ _ S _ _ B5 fX B';have ht:(vs.toList++[Value.func (.yield bC.heap.size) #[] #[]]++ws.toList).toArray=vs++#[Value.func (.yield bC.heap.size) #[] #[]]++ws:=by
  apply Array.ext';simp
 rw [ht] at e9;refine bB.calls (CallsIn.mono e9 fun e bT he=>?_);cases e with
 | panicked c=>exact he.elim
 | outgrown=>exact he.elim
 | returned x =>
   obtain ⟨bn,cg,bH,pN,dZ,cp,_,_⟩:=he;obtain ⟨_,_,ar,iu,aB,aH,aR,bj,bb,_⟩:=cp.obj _ _ ak;have dH:cg[H.length]?=some bC.heap.size:=pN _ _ (Ext.last bW _);rw [dH] at aB;cases aB;obtain ⟨BR,B4,_⟩:=zh cp aH aR { iu with state:=.exhausted };have jw:bg (dk U) S bC bn bH (bT.putObj bC.heap.size (.loop { iu with state:=.exhausted })):=(yj.trans dZ).trans BR;obtain ⟨q1,aW⟩:=zD none aK (me.trans pN) (m'.trans jw) B4 (.junk undef) (aV.b3 rfl);refine ⟨iu.pending,_,run_endLoop aR (by rw [bj];exact cJ),?_⟩;rw [←bb] at bl;refine bl _ _ ⟨_,cg,bH,me.trans pN,q1,⟨aW.T,aW.H,aW.M.1,fun d aZ=>?_,List.pairwise_append.2 ⟨hm.2.2,aW.M.2.2,fun d aZ gS ni e=>?_⟩⟩⟩
   rotate_left
   ·obtain ⟨hD,de,_⟩:=hm.2.1 d aZ;obtain ⟨r1,ca,_,_,DR⟩:=aK.M.2.1 gS ni;have:=(yK d aZ hD de).2;have:=(sW.1 DR).1;rw [de,ca] at e;cases e;omega
   rcases List.mem_append.1 aZ with aZ | aZ
   ·obtain ⟨hD,de,df,jP,kN⟩:=hm.2.1 d aZ;have dr:hD<bC.heap.size:=(sW.1 kN).1;refine ⟨hD,de,df,?_,(jw.cD hD dr jP).trans kN⟩;have aS:=(yK d aZ hD de).1;have af:bn hD=none:=by
     cases bL:bn hD with
     | none=>rfl
     | some l =>
       rcases jw.own hD (by simp [bL]) with bV | bV
       ·exact absurd jP bV
       ·omega
    simp [back,aS,af]
   ·exact aW.M.2.1 d aZ
end
end Go.Proofs.YtfakoboiahbhaaaGreat.Ab


namespace Go.Proofs.YtfakoboiahbhaaaGreat.Ab
open Go
def toExit:cB→Exit
 | .normal=>.normal
 | .ret=>.ret
 | .exit id=>.exit id
def jh (F:Fence) (rl:Option Nat) (J:List Nat):Prop:=(rl=none∧F=Fence.wide)∨∃ l b,rl=some l∧J[l]?=some b∧F=Fence.wide.inRound b
theorem jh.lF {F:Fence} {rl:Option Nat} {J:List Nat} (h:jh F rl J):ek F:=by
 rcases h with ⟨_,rfl⟩ | ⟨l,b,_,_,rfl⟩
 ·exact .inl rfl
 ·exact .inr ⟨b,rfl⟩
theorem jh.ext {F:Fence} {rl:Option Nat} {J bZ:List Nat} (h:jh F rl J) (bK:Ext J bZ):jh F rl bZ:=by
 rcases h with h | ⟨l,b,ad,af,aG⟩
 ·exact .inl h
 ·exact .inr ⟨l,b,ad,bK _ _ af,aG⟩
theorem kk {p:Nat→Prop} (h:∃ n,p n):∃ n,p n∧∀ m,p m→n≤m:=by
 obtain ⟨n,aN⟩:=h
 induction n using Nat.strongRecOn with
 | _ n a_ =>
   by_cases ak:∃ m,m<n∧p m
   ·obtain ⟨m,hm,aC⟩:=ak;exact a_ m hm aC
   ·exact ⟨n,aN,fun m hm=>Nat.le_of_not_lt fun aU=>ak ⟨m,aU,hm⟩⟩
section
variable {P:Program}
theorem Ds {F:Fence} {c:Code} {f:a5→Option (cB×a5)} {e:cB} {aF:a5} {Q:Exit→Act→World→Prop} {B N:Nat} {J:List Nat} {w:World} {U:Nat→Option aI} {S:Nat→Nat→Prop} {s:a5} {a:Act} {n:Nat}
  (h:h' f n s=some (e,aF)) (aK:ct B N U J S w s a) (bl:∀ aM w',Step B N U J S w aF aM w'→Q (toExit e) aM w')
  (kq:∀ (s1:a5) (e1:cB) (s2:a5),f s1=some (e1,s2)→∀ (cG:Exit→Act→World→Prop) (aB:Act) (bC:World),(∀ l a w,cG (.goto l) a w→Q (.goto l) a w)→Step B N U J S w s1 aB bC →
   (∀ aM w',Step B N U J S w s2 aM w'→cG (toExit e1) aM w')→c.wpIn F 0 P cG aB bC):(Code.loop c).wpIn F 0 P Q a w:=by
 classical
 let Inv:Nat→Act→World→Prop:=fun n aM w'=>∃ s1,h' f n s1=some (e,aF)∧Step B N U J S w s1 aM w'
 let gl:Act→World→Nat:=fun aM w'=>if h:∃ n,Inv n aM w' then Classical.choose (kk h) else 0
 have mf:∀ aM w',(∃ n,Inv n aM w')→Inv (gl aM w') aM w'∧∀ m,Inv m aM w'→gl aM w'≤m:=fun aM w' h=>by
  have:gl aM w'=Classical.choose (kk h):=by simp only [gl,dif_pos h]
  rw [this];exact vA (kk h)
 refine wpIn_loop (fun aM w'=>∃ n,Inv n aM w') gl ⟨n,s,h,Step.here aK⟩ fun aB bC kn=>?_;obtain ⟨⟨s1,ad,gA⟩,_⟩:=mf aB bC kn;cases aN:gl aB bC with
 | zero=>rw [aN] at ad;simp [h'] at ad
 | succ m =>
   rw [aN] at ad;simp only [h'] at ad;split at ad
   ·rename_i s2 Cm;refine kq s1 .normal s2 Cm _ aB bC (fun l a w h=>h) gA fun aM w' dO=>?_;have hinv:Inv m aM w':=⟨s2,ad,dO⟩;exact ⟨⟨m,hinv⟩,Nat.lt_succ_of_le ((mf aM w' ⟨m,hinv⟩).2 m hinv)⟩
   ·rename_i fX;refine kq s1 e aF ad _ aB bC (fun l a w h=>h) gA fun aM w' dO=>?_;cases e with
    | normal=>exact absurd ad (fX aF)
    | ret=>exact bl aM w' dO
    | exit id=>exact bl aM w' dO
theorem na {C:b6} (bt:c' P C) (dJ:P.follows .mixedOrders=true) {A:c8} {fn:FuncId} {lo d:Nat} {rl:Option Nat} :
  ∀ (c:Code) (aY:Nat) (s:a5) (e:cB) (aF:a5),exec P A C fn lo d rl c aY s=some (e,aF)→codeOk A c=true →
    ∀ (F:Fence) (Q:Exit→Act→World→Prop) (B N:Nat) (J:List Nat) (w:World) (U:Nat→Option aI) (S:Nat→Nat→Prop) (a:Act),jh F rl J→(∀ l a w,¬ Q (.goto l) a w) →
      ct B N U J S w s a→(∀ aM w',Step B N U J S w aF aM w'→Q (toExit e) aM w')→c.wpIn F 0 P Q a w:=by
 intro c
 induction c with
 | skip =>
   intro aY s e aF h _ F Q B N J w U S a bB aO aK bl;simp only [exec,Option.some.injEq,Prod.mk.injEq] at h;obtain ⟨rfl,rfl⟩:=h;exact wpIn_skip (bl a w (Step.here aK))
 | label l =>
   intro aY s e aF h _ F Q B N J w U S a bB aO aK bl;simp only [exec,Option.some.injEq,Prod.mk.injEq] at h;obtain ⟨rfl,rfl⟩:=h;exact wpIn_label (bl a w (Step.here aK))
 | ret =>
   intro aY s e aF h _ F Q B N J w U S a bB aO aK bl;simp only [exec,Option.some.injEq,Prod.mk.injEq] at h;obtain ⟨rfl,rfl⟩:=h;exact wpIn_ret (bl a w (Step.here aK))
 | exit id =>
   intro aY s e aF h _ F Q B N J w U S a bB aO aK bl;simp only [exec,Option.some.injEq,Prod.mk.injEq] at h;obtain ⟨rfl,rfl⟩:=h;exact wpIn_exit (bl a w (Step.here aK))
 | goto l=>intro aY s e aF h;simp [exec] at h
 | refuse y=>intro aY s e aF h;simp [exec] at h
 | region id ops draw =>
   intro aY s e aF h bO F Q B N J w U S a bB aO aK bl;simp only [exec] at h;split at h
   ·cases h
   rename_i kE;simp only [rZ,Prod.mk.injEq] at h;obtain ⟨s1,h,rfl,rfl⟩:=h;refine z0 bB.lF dJ bt (fun aZ=>?_) h (aK.cD _ _) bl;simp only [codeOk,xm,kE] at bO;simpa [aZ] using bO
 | seq x y nD pR =>
   intro aY s e aF h bO F Q B N J w U S a bB aO aK bl;simp only [codeOk,sx] at bO;simp only [exec] at h;split at h
   ·rename_i s1 ad;refine wpIn_seq (nD _ _ _ _ ad bO.1 F _ B N J w U S a bB (fun l a w=>aO l a w) aK fun aM w' ai=>?_);obtain ⟨b2,cQ,a4,aJ,aP,b'⟩:=ai;exact pR _ _ _ _ h bO.2 F Q B N cQ w' b2 a4 aM (bB.ext aJ) aO b' fun gP hk dO=>bl gP hk (dO.trans aJ aP)
   ·rename_i fX;refine wpIn_seq (nD _ _ _ _ h bO.1 F _ B N J w U S a bB (fun l a w=>aO l a w) aK fun aM w' ai=>?_);cases e with
    | normal=>exact absurd h (fX aF)
    | ret=>exact bl aM w' ai
    | exit id=>exact bl aM w' ai
 | cond x t f nC nB =>
   intro aY s e aF h bO F Q B N J w U S a bB aO aK bl;simp only [codeOk,sx] at bO;simp only [exec] at h;have aj:=aK.aA x;split at h
   ·rename_i ag;rw [ag] at aj;exact wpIn_cond_true aj.hW (nC _ _ _ _ h bO.1 F Q B N J w U S a bB aO aK bl)
   ·rename_i ag;rw [ag] at aj;exact wpIn_cond_false aj.hW (nB _ _ _ _ h bO.2 F Q B N J w U S a bB aO aK bl)
   ·simp at h
 | block id c a_ =>
   intro aY s e aF h bO F Q B N J w U S a bB aO aK bl;simp only [exec] at h;refine wpIn_block ?_;split at h
   ·rename_i bx s1 ad;refine a_ _ _ _ _ ad bO F _ B N J w U S a bB (fun l a w=>aO l a w) aK fun aM w' ai=>?_;by_cases aE:bx=id
    ·simp only [aE,if_true,Option.some.injEq,Prod.mk.injEq] at h;obtain ⟨rfl,rfl⟩:=h;simp only [toExit,Exit.inBlock,aE,if_true];exact bl aM w' ai
    ·simp only [aE,if_false,Option.some.injEq,Prod.mk.injEq] at h;obtain ⟨rfl,rfl⟩:=h;simp only [toExit,Exit.inBlock,aE,if_false];exact bl aM w' ai
   ·rename_i fX;refine a_ _ _ _ _ h bO F _ B N J w U S a bB (fun l a w=>aO l a w) aK fun aM w' ai=>?_;cases e with
    | normal=>exact bl aM w' ai
    | ret=>exact bl aM w' ai
    | exit bx=>exact absurd h (fX bx aF)
 | scope c a_ =>
   intro aY s e aF h bO F Q B N J w U S a bB aO aK bl;simp only [exec] at h;exact Bb (a_ _ _ _ _ h bO F Q B N J w U S a bB aO aK bl) aO
 | loop c a_ =>
   intro aY s e aF h bO F Q B N J w U S a bB aO aK bl;simp only [exec] at h;refine Ds h aK bl fun s1 e1 s2 ad cG aB bC CT gA oZ=>?_;obtain ⟨b2,cQ,a4,aJ,aP,b'⟩:=gA;exact a_ _ _ _ _ ad bO F cG B N cQ bC b2 a4 aB (bB.ext aJ) (fun l a w a3=>aO l a w (CT l a w a3)) (b'.cD _ _) fun aM w' dO=>oZ aM w' (dO.trans aJ aP)
 | rangeFunc g bh as bY fb fq =>
   intro aY s e aF h bO F Q B N J w U S a bB aO aK bl;simp only [codeOk,sx] at bO;simp only [exec] at h;split at h
   ·(rename_i k first cap gZ lT);have yU:=aK.aA g;rw [lT] at yU;split at h
    ·rename_i r H' ao;split at h
     ·rename_i st cF fU dS gG gv gw gr ak;split at h
      ·simp at h
      ·rename_i cJ;have oZ:∀ aM w',Step B N U J S w ⟨s.T.map I.settle,H'.set s.H.length .dead⟩ aM w'→pS F P Q cF aM w':=fun aM w' ai=>by
        split at h
        ·simp only [Option.some.injEq,Prod.mk.injEq] at h;obtain ⟨rfl,rfl⟩:=h;exact bl aM w' ai
        ·simp only [Option.some.injEq,Prod.mk.injEq] at h;obtain ⟨rfl,rfl⟩:=h;exact wpIn_ret (bl aM w' ai)
        ·simp only [Option.some.injEq,Prod.mk.injEq] at h;obtain ⟨rfl,rfl⟩:=h;exact wpIn_exit (bl aM w' ai)
        ·simp at h
       obtain ⟨a4,du,dm,bW,kp,o2⟩:=AK s.T a.tmps.toList .slot S (fun i j h=>by cases h;rfl) (fun i id=>by simp) (fun i id j=>by simp) aK.T aK.H;have db:bg U S w U a4 w:=bg.settle du fun b o h=>(dm b o h).imp id fun ⟨i,h⟩=>⟨_,h⟩;have b':ct B N U J a4 w ⟨s.T.map I.settle,s.H⟩ a:=⟨kp,bW,aK.M.aA db⟩;have kF:(s.T.map I.settle).map I.view=s.T.map I.view:=by
        rw [List.map_map];apply tR;intro u _;exact xT u
       (have l_:a9 .slot U J a4 w ((s.T.map I.settle).map I.view) a.tmps.toList:=by rw [kF];exact o2);rw [←kF] at ao;have yv:∀ aM w',Step B N U J a4 w ⟨s.T.map I.settle,H'.set s.H.length .dead⟩ aM w'→pS F P Q cF aM w':=fun aM w' ai=>oZ aM w' (Step.trans (Ext.refl J) db ai);have dr:=yU.mono (Ext.refl J) (S':=a4) (w':=w) (fun b o h=>⟨du b o h,rfl⟩);obtain ⟨⟨f0,Cl,iG,CL⟩,_⟩:=bt.ok ao;have yx:U w.heap.size=none:=by
        cases al:U w.heap.size with
        | none=>rfl
        | some l=>have:=(aK.H.base _ l al).2;omega
       generalize Cv:a.eval g=F7 at dr;cases dr with
       | func _ _ _ vs ws aJ aP bR b4 r1 r2 =>
         refine wpIn_rangeFunc fun fn' _=>?_;have kC:∀ (l:Nat) (w0:World),(resolve a.eval (rangeCall g l) 0).run P w0=.ok { target:=.fn (.func k) ws,args:=vs++#[Value.func (.yield l) #[] #[]] } w0:=fun l w0=>by
          have:(#[Operand.const (Value.func (.yield l) #[] #[])]:Array Operand).map a.eval=#[Value.func (.yield l) #[] #[]]:=by simp [Act.eval]
          simp only [resolve,rangeCall,Cv,Deferred.ofValue,this,Sem.run_pure]
         have hinv:∀ (l:Nat) (w0:World),(invoke (.fn (.func k) ws) (vs++#[Value.func (.yield l) #[] #[]])).run P w0=.ok (.enter k (vs++#[Value.func (.yield l) #[] #[]]++ws)) w0:=fun l w0=>by
          simp only [invoke,Av Cl iG CL]
         (have pd:Rel J a4 w (.func k first cap) (.func (.func k) vs ws):=.func k first cap vs ws aJ aP bR b4 r1 r2);(have yA:F.depth.isSome=true→1≤0:=fun iJ=>by rw [bB.lF.depth] at iJ;cases iJ);rcases bB with ⟨rfl,rfl⟩ | ⟨cv,dz,rfl,ag,rfl⟩
         ·have cp:=l8 b'.H;have e9:=zS (.inl rfl) bt b' l_ pd bO.1 bO.2 ao ak cJ (yi cp (.deferred (some []))) (CY cp (.deferred (some []))) (fn':=fn') (dfr:=w.heap.size)
           (mark:=[{ target:=.collected w.heap.size,args:=#[] }]) ⟨by have:=aK.M.1;simp;omega,fun d aZ=>by
            simp only [sB] at aZ;subst aZ;exact ⟨w.heap.size,rfl,aK.M.1,nn yx,World.alloc_heap_new w _⟩,List.pairwise_singleton _ _⟩ (fun d aZ hD nu=>by
            simp only [sB] at aZ;subst aZ
            cases nu;exact ⟨yx,sb _⟩) yv
          (have bP:(w.alloc (.deferred (some []))).heap.size=w.heap.size+1:=by simp);rw [bP] at e9;exact ⟨_,_,_,_,_,k,_,_,run_enterLoop_outer fn' a.tmps bh as bY,kC _ _,fun _ _=>trivial,hinv _ _,yA,e9⟩
         ·have cp:=l8 b'.H;simp only [inLoop] at gZ;split at gZ
          ·rename_i bD;obtain ⟨_,_,ar,ot,aB,aH,aR,_⟩:=aK.H.obj cv _ bD;rw [ag] at aB;cases aB;have e9:=zS (.inr ⟨dz,rfl⟩) bt b' l_ pd bO.1 bO.2 ao ak cJ (bg.refl _ _ _) cp (fn':=fn') (dfr:=ot.defers)
            (mark:=[]) ⟨aK.M.1,fun d aZ=>by simp at aZ,List.Pairwise.nil⟩ (fun d aZ=>by simp at aZ) yv
           exact ⟨_,_,_,_,_,k,_,_,run_enterLoop_inner aR fn' a.tmps bh as bY,kC _ _,fun _ _=>trivial,hinv _ _,yA,e9⟩
          ·simp at gZ
     ·simp at h
    ·simp at h
   ·simp at h
end
end Go.Proofs.YtfakoboiahbhaaaGreat.Ab


namespace Go.Proofs.YtfakoboiahbhaaaGreat.Ab
open Go
def hK (U:Nat→Option aI):Nat→Option aI:=fun b=>match U b with
 | some (.arg i)=>some (.slot i)
 | some (.obj id)=>some (.obj id)
 | some (.cell id j)=>some (.cell id j)
 | _=>none
def kY (t:Nat) (U:Nat→Option aI):Nat→Option aI:=fun b=>match U b with
 | some (.slot i)=>if i=t then some .res else none
 | some (.obj id)=>some (.obj id)
 | some (.cell id j)=>some (.cell id j)
 | _=>none
section
variable {P:Program} {B N:Nat} {J:List Nat} {w:World} {H:List au} {U:Nat→Option aI} {S:Nat→Nat→Prop}
theorem relabel {az:Nat→Option aI} (ah:aL B U J S w H) (ad:∀ b,U b=none→az b=none) (af:∀ b l,U b=some l→((∃ id,l=.obj id)∨∃ id j,l=.cell id j)→az b=some l) :
  bg U S w az S w∧aL B az J S w H:=by
 have aN:∀ b,az b≠none→U b≠none:=fun b h aS=>h (ad b aS);refine ⟨⟨rfl,rfl,rfl,sb _,fun _ _ _=>rfl,fun _ _ h=>⟨h,rfl⟩,fun _ _ h=>.inl h,fun b h=>.inl (aN b h)⟩,⟨ah.cE,fun id o aq=>?_,ah.cf,fun b l ag=>?_,ah.cX⟩⟩
 ·refine (ah.obj id o aq).frame (Ext.refl J) (fun _ _ h=>⟨h,rfl⟩) fun b l ag ak=>⟨af b l ag ?_,rfl,fun _ h=>h⟩;rcases ak with rfl | ⟨j,rfl⟩
  ·exact .inl ⟨id,rfl⟩
  ·exact .inr ⟨id,j,rfl⟩
 ·cases h:U b with
  | none=>rw [ad b h] at ag;cases ag
  | some l'=>exact ah.base b l' h
theorem oe (ah:aL B U J S w H):bg U S w (hK U) S w∧aL B (hK U) J S w H :=
 relabel ah (fun b h=>by simp [hK,h]) fun b l h ak=>by
  rcases ak with ⟨id,rfl⟩ | ⟨id,j,rfl⟩ <;> simp [hK,h]
theorem D2 (t:Nat) (ah:aL B U J S w H):bg U S w (kY t U) S w∧aL B (kY t U) J S w H :=
 relabel ah (fun b h=>by simp [kY,h]) fun b l h ak=>by
  rcases ak with ⟨id,rfl⟩ | ⟨id,j,rfl⟩ <;> simp [kY,h]
theorem xM (ah:aL B U J S w H) {args:List I} {vs:List Value} (ae:a9 (fun i=>.arg i) U J S w args vs) (n:Nat) :
  ct B w.heap.size (hK U) J S w ⟨args++List.replicate (n-args.length) .junk,H⟩ { tmps:=vs.toArray++Array.replicate (n-vs.toArray.size) undef,defers:=[] }:=by
 have ak:=ae.len;refine ⟨?_,(oe ah).2,sb _,fun d aZ=>by simp at aZ,List.Pairwise.nil⟩;have l9:(vs.toArray++Array.replicate (n-vs.toArray.size) undef).toList=vs++List.replicate (n-vs.length) undef:=by simp
 simp only [l9];have key:∀ (i:Nat) (u:I) (v:Value),(args++List.replicate (n-args.length) .junk)[i]?=some u→(vs++List.replicate (n-vs.length) undef)[i]?=some v →
   Rel J S w u v∧aV (hK U) J S w (.slot i) u v:=fun i u v hu al=>by
  rcases sU i args.length with ad | ad
  ·rw [sA ad] at hu;rw [sA (by omega)] at al;exact ⟨ae.rel i u v hu al,(ae.own i u v hu al).mono (Ext.refl J) (fun _ _ h=>⟨h,rfl⟩) fun b ag=>⟨by simp [hK,ag],rfl,fun _ h=>h⟩⟩
  ·rw [sL ad] at hu;rw [List.getElem?_replicate] at hu;split at hu
   ·cases hu;exact ⟨.junk v,aV.b3 rfl⟩
   ·simp at hu
 exact ⟨by simp [ak],fun i u v hu al=>(key i u v hu al).1,fun i u v hu al=>(key i u v hu al).2⟩
theorem nG {fn:Func} {tmps:Array Value} {R:Ending→World→Prop} {lg:Nat→Option aI} {S0:Nat→Nat→Prop} {w0:World} :
  ∀ (ds:List Deferred) (w:World),(∀ d∈ds,∃ r,d.target=.collected r∧w0.heap.size≤r∧U r=none∧w.heap[r]?=some (.deferred (some [])))→ds.Pairwise (fun a b=>a.target≠b.target)→bg lg S0 w0 U S w→aL B U J S w H →
    (∀ w',(∀ b l,U b=some l→w'.heap[b]?=w.heap[b]?)→(∀ b o,S b o→w'.cell? ⟨b,o,none⟩=w.cell? ⟨b,o,none⟩)→bg lg S0 w0 U S w'→aL B U J S w' H→∃ v,(results fn tmps).run P w'=.ok v w'∧R (.returned v) w')→LeavesInM Fence.wide 0 P fn tmps R ds .returning w
 | [],w,_,_,aA,ah,jy=>jy w (fun _ _ _=>rfl) (fun _ _ _=>rfl) aA ah
 | d::ds,w,aZ,aC,aA,ah,jy=>by
   obtain ⟨r,ad,af,aG,a6⟩:=aZ d (by simp);have aj:r<w.heap.size:=(sW.1 a6).1;(have bP:(w.putObj r (.deferred none)).heap.size=w.heap.size:=by simp [World.putObj]);have h4:∀ b,b≠r→(w.putObj r (.deferred none)).heap[b]?=w.heap[b]?:=fun b h=>World.putObj_heap_other h;have bM:∀ b o,S b o→b≠r:=fun b o ai e=>by
    subst e;obtain ⟨v,ae⟩:=ah.cf b o ai;simp [World.cell?,a6] at ae
   have bu:∀ b o,b≠r→(w.putObj r (.deferred none)).cell? ⟨b,o,none⟩=w.cell? ⟨b,o,none⟩:=fun b o h=>by
    simp only [World.cell?,h4 b h]
   (have kv:∀ b l,U b=some l→b≠r:=fun b l h e=>by subst e;rw [aG] at h;cases h);have db:bg lg S0 w0 U S (w.putObj r (.deferred none)):=by
    refine ⟨aA.os,aA.tape,aA.output,by rw [bP];exact aA.size,fun b ag aN=>?_,fun b o ai=>?_,aA.fresh,aA.own⟩
    ·rw [h4 b (by omega)];exact aA.cD b ag aN
    ·obtain ⟨aJ,aP⟩:=aA.set b o ai;exact ⟨aJ,(bu b o (bM b o aJ)).trans aP⟩
   have cm:∀ b o,S b o→S b o∧(w.putObj r (.deferred none)).cell? ⟨b,o,none⟩=w.cell? ⟨b,o,none⟩:=fun b o ai=>⟨ai,bu b o (bM b o ai)⟩;have fD:aL B U J S (w.putObj r (.deferred none)) H :=
    ⟨ah.cE,fun id o aq=>(ah.obj id o aq).frame (Ext.refl J) cm fun b l ag _=>⟨ag,h4 b (kv b l ag),fun _ h=>h⟩,fun b o ai=>by
     obtain ⟨v,ae⟩:=ah.cf b o ai
     exact ⟨v,(bu b o (bM b o ai)).trans ae⟩,fun b l ag=>by rw [bP];exact ah.base b l ag,by rw [bP];exact ah.cX⟩
   refine ⟨by simp,.inl ⟨r,_,ad,run_takeDeferred a6,?_⟩⟩;have yP:=tg.1 aC;refine nG ds _ (fun gS ni=>?_) yP.2 db fD (fun w' dd aJ aP cj=>jy w' (fun b l h=>(dd b l h).trans (h4 b (kv b l h))) (fun b o h=>(aJ b o h).trans (bu b o (bM b o h))) aP cj)
   ·obtain ⟨r',q1,aW,cz,dR⟩:=aZ gS (by simp [ni])
    have:r'≠r:=fun e=>yP.1 gS ni (by rw [ad,q1,e])
    exact ⟨r',q1,aW,cz,(h4 r' this).trans dR⟩
end
end Go.Proofs.YtfakoboiahbhaaaGreat.Ab


namespace Go.Proofs.YtfakoboiahbhaaaGreat.Ab
open Go
section
variable {P:Program} {B N:Nat} {J:List Nat} {w:World} {H:List au} {U:Nat→Option aI} {S:Nat→Nat→Prop}
theorem oU {bz:Nat→aI} {T:List I} {bd:Array Value} (bX:a9 bz U J S w T bd.toList) (t:Nat):Rel J S w (c5 T t) (bd.getD t undef)∧aV U J S w (bz t) (c5 T t) (bd.getD t undef):=by
 rw [fV,sG];cases h:T[t]? with
 | none=>exact ⟨.junk _,aV.b3 rfl⟩
 | some u =>
   have ak:=bX.len;have aU:t<T.length:=(sa.1 h).1;(have l1:t<bd.size:=by rw [←Array.length_toList,←ak];exact aU);(have al:bd.toList[t]?=some (bd.getD t undef):=by simp [sy,l1]);exact ⟨bX.rel t u _ h al,bX.own t u _ h al⟩
theorem mH (ah:aL B U J S w H) {T:List I} {bd:Array Value} (bX:a9 .slot U J S w T bd.toList) {g:ResultVar→Sem Value} (cb:∀ t,g (.tmp t)=pure (bd.getD t undef))
  (b8:∀ a t,g (.cell a t)=do loadVar t (←asAddr (bd.getD a undef))):∀ (rs:List ResultVar) (vs:List I),fg P H T rs=some vs →
  ∃ xs,(rs.mapM g).run P w=.ok xs w∧vs.length=xs.length∧∀ (j:Nat) (u:I) (x:Value),vs[j]?=some u→xs[j]?=some x→Rel J S w u x∧((u.plain=true∧True)∨∃ t,(u=c5 T t∧x=bd.getD t undef)∧aV U J S w (.slot t) u x)
 | [],vs,h=>by
   simp only [fg,Option.some.injEq] at h;subst h;exact ⟨[],by simp,rfl,by simp⟩
 | .tmp t::r,vs,h=>by
   simp only [fg,rZ] at h;obtain ⟨dw,h,rfl⟩:=h;obtain ⟨xs,q1,aW,cz⟩:=mH ah bX cb b8 r dw h;obtain ⟨r1,r2⟩:=oU bX t;refine ⟨bd.getD t undef::xs,by rw [vT];simp [cb,q1],by simp [aW],fun j u x hu al=>?_⟩;cases j with
   | zero=>simp only [uD,Option.some.injEq] at hu al;subst hu al;exact ⟨r1,.inr ⟨t,⟨rfl,rfl⟩,r2⟩⟩
   | succ j=>exact cz j u x (by simpa using hu) (by simpa using al)
 | .cell a t::r,vs,h=>by
   simp only [fg] at h;split at h
   ·rename_i v dw ae h8;simp only [Option.some.injEq] at h;subst h;obtain ⟨xs,q1,aW,cz⟩:=mH ah bX cb b8 r dw h8;have aj:=(oU bX a).1;obtain ⟨x,aJ,aP,cj⟩:=k4 ah ae aj;have aC:∃ lu,bd.getD a undef=.pointer (some lu):=by
     unfold dT at ae;generalize bd.getD a undef=GG at aj ⊢;split at ae
     ·rename_i heq;rw [heq] at aj;cases aj;exact ⟨_,rfl⟩
     ·rename_i heq;rw [heq] at aj;cases aj;exact ⟨_,rfl⟩
     ·simp at ae
    obtain ⟨lu,aC⟩:=aC;rw [aC] at aJ;(have De:(loadVar t lu).run P w=.ok x w:=by simpa [Instr.loadAt,Instr.sureAddr] using aJ);refine ⟨x::xs,by rw [vT];simp [b8,aC,asAddr,De,q1],by simp [aW],fun j u y hu al=>?_⟩;cases j with
    | zero=>simp only [uD,Option.some.injEq] at hu al;subst hu al;exact ⟨aP,.inl ⟨cj,trivial⟩⟩
    | succ j=>exact cz j u y (by simpa using hu) (by simpa using al)
   ·simp at h
theorem xq (ah:aL B U J S w H) {T:List I} {bd:Array Value} (bX:a9 .slot U J S w T bd.toList) {fn:Func} {vs:List I} (h:fg P H T fn.results.toList=some vs) :
  ∃ v,(results fn bd).run P w=.ok v w∧a1 B U J S w H (hb vs) v w:=by
 have run:∀ xs,(fn.results.toList.mapM (fun (x:ResultVar)=>match x with | .tmp t=>(pure (bd.getD t undef):Sem Value) | .cell a t=>do loadVar t (←asAddr (bd.getD a undef)))).run P w=.ok xs w →
   (results fn bd).run P w=.ok (if h:xs.toArray.size=1 then xs.toArray[0] else .tuple xs.toArray) w:=fun xs al=>by
  have aO:results fn bd=(do
    let vs ←fn.results.mapM (fun (x:ResultVar)=>match x with | .tmp t=>(pure (bd.getD t undef):Sem Value) | .cell a t=>do loadVar t (←asAddr (bd.getD a undef)))
    pure (if h:vs.size=1 then vs[0] else .tuple vs)):=by
   unfold results;congr 1
  rw [aO,Array.mapM_eq_mapM_toList];simp only [Sem.run_bind,Sem.run_map,al,Result.andThen_ok,Sem.run_pure]
 match vs,h with
 | [u],h =>
   obtain ⟨xs,q1,aW,cz⟩:=mH ah bX (g:=fun x=>match x with | .tmp t=>pure (bd.getD t undef) | .cell a t=>do loadVar t (←asAddr (bd.getD a undef))) (fun _=>rfl) (fun _ _=>rfl) _ _ h
   match xs,aW with
   | [x],_ =>
     obtain ⟨r1,r2⟩:=cz 0 u x rfl rfl;refine ⟨x,by rw [run _ q1];rfl,?_⟩;rcases r2 with ⟨aC,_⟩ | ⟨t,_,aq⟩
     ·exact a1.same ah r1 aC
     ·obtain ⟨aA,cc⟩:=D2 t ah;exact ⟨kY t U,J,S,Ext.refl J,aA,cc,r1,aq.mono (Ext.refl J) (fun _ _ h=>⟨h,rfl⟩) fun b ag=>⟨by simp [kY,ag],rfl,fun _ h=>h⟩⟩
 | [],h =>
   obtain ⟨xs,q1,aW,cz⟩:=mH ah bX (g:=fun x=>match x with | .tmp t=>pure (bd.getD t undef) | .cell a t=>do loadVar t (←asAddr (bd.getD a undef))) (fun _=>rfl) (fun _ _=>rfl) _ _ h
   match xs,aW with
   | [],_=>exact ⟨.tuple #[],by rw [run _ q1];rfl,a1.same ah (.tuple [] #[] rfl (by simp) (by simp)) rfl⟩
 | ft::gi::us,h =>
   obtain ⟨a4,du,dm,bW,kp,o2⟩:=AK T bd.toList .slot S (fun i j h=>by cases h;rfl) (fun i id=>by simp) (fun i id j=>by simp) bX ah;have db:bg U S w U a4 w:=bg.settle du fun b o h=>(dm b o h).imp id fun ⟨i,h⟩=>⟨_,h⟩;obtain ⟨xs,q1,aW,cz⟩:=mH ah bX (g:=fun x=>match x with | .tmp t=>pure (bd.getD t undef) | .cell a t=>do loadVar t (←asAddr (bd.getD a undef))) (fun _=>rfl) (fun _ _=>rfl) _ _ h
   refine ⟨.tuple xs.toArray,by
    rw [run _ q1]
    have:¬ xs.toArray.size=1:=by simp at aW ⊢;omega
    rw [dif_neg this],a1.after (Ext.refl J) db (a1.same bW (.tuple _ _ (by simp at aW ⊢;omega) ?_ ?_) rfl)⟩
   ·intro y a0;obtain ⟨x,_,rfl⟩:=ss.1 a0;exact I.dh x
   ·intro j y x a0 al;simp only [su,rZ] at a0;obtain ⟨u,hu,rfl⟩:=a0;obtain ⟨r1,r2⟩:=cz j u x hu (by simpa using al);rcases r2 with ⟨aC,_⟩ | ⟨t,⟨rfl,rfl⟩,_⟩
    ·rw [I.kc aC];exact r1.mono (Ext.refl J) fun b o h=>⟨du b o h,rfl⟩
    ·have:=(oU o2 t).1;have ae:c5 (T.map I.view) t=(c5 T t).view:=by
      rw [fV,fV,sG,sG,su];cases T[t]? <;> rfl
     rw [ae] at this;exact this
end
end Go.Proofs.YtfakoboiahbhaaaGreat.Ab


namespace Go.Proofs.YtfakoboiahbhaaaGreat.Ab
open Go
def gM (bh:List Nat) (U:Nat→Option aI):Nat→Option aI:=fun b=>match U b with
 | some (.arg i)=>(bh[i]?).map .slot
 | some (.obj id)=>some (.obj id)
 | some (.cell id j)=>some (.cell id j)
 | _=>none
section
variable {P:Program} {B N:Nat} {J:List Nat} {w:World} {H:List au} {U:Nat→Option aI} {S:Nat→Nat→Prop}
theorem A6 (bh:List Nat) (ah:aL B U J S w H):bg U S w (gM bh U) S w∧aL B (gM bh U) J S w H :=
 relabel ah (fun b h=>by simp [gM,h]) fun b l h ak=>by
  rcases ak with ⟨id,rfl⟩ | ⟨id,j,rfl⟩ <;> simp [gM,h]
theorem xI:∀ (bh:List Nat) (us:List I) (T a7:List I) (xs bd:List Value),hh bh us T=some a7→us.length=xs.length→T.length=bd.length →
  bh.length=us.length∧a7.length=T.length∧((bh.zip xs).foldl (fun (l:List Value) (p:Nat×Value)=>l.set p.1 p.2) bd).length=bd.length ∧
  ∀ (i:Nat) (u:I) (x:Value),a7[i]?=some u→((bh.zip xs).foldl (fun (l:List Value) (p:Nat×Value)=>l.set p.1 p.2) bd)[i]?=some x →
    (T[i]?=some u∧bd[i]?=some x)∨∃ (j:Nat),bh[j]?=some i∧us[j]?=some u∧xs[j]?=some x
 | [],[],T,a7,xs,bd,h,ak,ax=>by
   simp only [hh,Option.some.injEq] at h;subst h;exact ⟨rfl,rfl,by simp,fun i u x hu al=>.inl ⟨hu,by simpa using al⟩⟩
 | p::bh,xS::us,T,a7,jf::xs,bd,h,ak,ax=>by
   simp only [hh,gL] at h;obtain ⟨ad,af,aG,a6⟩:=xI bh us (T.set p xS) a7 xs (bd.set p jf) h (by simpa using ak) (by simpa using ax);refine ⟨by simp [ad],by simpa using af,by simpa using aG,fun i u x hu al=>?_⟩;rcases a6 i u x hu (by simpa using al) with ⟨aJ,aP⟩ | ⟨j,aJ,aP,cj⟩
   ·by_cases yO:p=i
    ·subst yO;(have dL:p<T.length:=by have:=(sa.1 aJ).1;simpa using this);(have kK:p<bd.length:=by omega);rw [sg dL] at aJ;rw [sg kK] at aP;exact .inr ⟨0,rfl,by simpa using aJ,by simpa using aP⟩
    ·rw [si yO] at aJ aP;exact .inl ⟨aJ,aP⟩
   ·exact .inr ⟨j+1,by simpa using aJ,by simpa using aP,by simpa using cj⟩
 | [],_::_,T,a7,xs,bd,h,ak,ax=>by simp [hh] at h
 | _::_,[],T,a7,xs,bd,h,ak,ax=>by simp [hh] at h
 | _::_,_::_,T,a7,[],bd,h,ak,ax=>by simp at ak
theorem Ao (L:Loop) (vs:List Value):(hF L vs).toList=(L.params.toList.zip vs).foldl (fun (l:List Value) (p:Nat×Value)=>l.set p.1 p.2) L.tmps.toList:=by
 unfold hF;rw [←Array.foldl_toList,Array.toList_zip];generalize L.params.toList.zip vs=gj;generalize L.tmps=bd
 induction gj generalizing bd with
 | nil=>rfl
 | cons z gj a_=>simp only [List.foldl_cons];rw [a_];simp
theorem ct.loop {s:a5} {a:Act} (aK:ct B N U J S w s a) {id b:Nat} {L:Loop} {st:LoopState} {cF:Option Code} {fn:FuncId} {T:List I} {bh:List Nat} {as bY:Code} {an:c8}
  (aE:s.H[id]?=some (.loop st cF fn T bh as bY an)) (ag:J[id]?=some b) (fl:w.heap[b]?=some (.loop L)) (hj:LoopState) (hc:Option Code) :
  bg U S w U S (w.putObj b (.loop { L with state:=hj,pending:=hc }))∧ct B N U J S (w.putObj b (.loop { L with state:=hj,pending:=hc })) ⟨s.T,s.H.set id (.loop hj hc fn T bh as bY an)⟩ a:=by
 obtain ⟨aA,ah,_⟩:=Dt aK.H aE ag fl hj hc;obtain ⟨_,_,ar,ot,aB,aH,_⟩:=aK.H.obj id _ aE;rw [ag] at aB;cases aB;refine ⟨aA,⟨⟨aK.T.len,fun i u v hu ae=>(aK.T.rel i u v hu ae).mono (Ext.refl J) aA.set,fun i u v hu ae=>?_⟩,ah,aK.M.aA aA⟩⟩;refine (aK.T.own i u v hu ae).mono (Ext.refl J) aA.set fun ar bp=>⟨bp,World.putObj_heap_other (fun e=>?_),fun _ h=>h⟩;subst e;rw [aH] at bp;cases bp
theorem BH (dJ:P.follows .mixedOrders=true) {C:b6} (bt:c' P C) {k:Nat} {f:Func} {c:Code} (aQ:P.funcs[k]?=some f) (ag:f.body=some c) {A:c8} (bO:codeOk A c=true)
  {lo d:Nat} {args:List I} {e:cB} {s:a5} (h:exec P A C k lo d none c 0 ⟨args++List.replicate (f.ntmps-args.length) .junk,H⟩=some (e,s)) (he:e=.normal∨e=.ret) {vs:List I}
  (aj:fg P s.H s.T f.results.toList=some vs) {xs:List Value} (ah:aL B U J S w H) (ae:a9 (fun i=>.arg i) U J S w args xs) :
  CallsIn Fence.wide 0 P k xs.toArray w (fv B U J S w s.H (hb vs)):=by
 refine callsIn_of_wp_marks aQ ag trivial ?_;have aK:=xM ah ae f.ntmps;have db:=(oe ah).1;refine na bt dJ c 0 _ _ _ h bO Fence.wide _ B w.heap.size J w (hK U) S _ (.inl ⟨rfl,rfl⟩) (fun l a w aO=>aO.elim) aK fun aM w' ai=>?_;obtain ⟨b2,cQ,a4,aJ,aP,b'⟩:=ai;have iK:LeavesInM Fence.wide 0 P f aM.tmps (fv B U J S w s.H (hb vs)) aM.defers .returning w':=by
  refine nG (U:=b2) (S:=a4) (J:=cQ) (B:=B) (H:=s.H) (lg:=U) (S0:=S) (w0:=w) aM.defers w' b'.M.2.1 b'.M.2.2 (db.trans aP) b'.H fun bT du dm mi mj=>?_
  have bX:a9 .slot b2 cQ a4 bT s.T aM.tmps.toList:=⟨b'.T.len,fun i u v hu ae=>(b'.T.rel i u v hu ae).mono (Ext.refl _) (fun b o h=>⟨h,dm b o h⟩),fun i u v hu ae =>
   (b'.T.own i u v hu ae).mono (Ext.refl _) (fun b o h=>⟨h,dm b o h⟩) fun b ag=>⟨ag,du b _ ag,fun _ h=>h⟩⟩
  obtain ⟨v,q1,aW⟩:=xq mj bX aj;exact ⟨v,q1,a1.after aJ mi aW⟩
 rcases he with rfl | rfl
 ·exact iK
 ·exact iK
end
end Go.Proofs.YtfakoboiahbhaaaGreat.Ab


namespace Go.Proofs.YtfakoboiahbhaaaGreat.Ab
open Go
section
variable {P:Program} {B N:Nat} {J:List Nat} {w:World} {H:List au} {U:Nat→Option aI} {S:Nat→Nat→Prop}
def k3 (l:Nat) (H:List au) (fn:FuncId) (T:List I) (bh:List Nat) (as bY:Code) (an:c8):cB→I×List au
 | .normal=>(.bool true,H.set l (.loop .ready none fn T bh as bY an))
 | .ret=>(.bool false,H.set l (.loop .done (some .ret) fn T bh as bY an))
 | .exit id=>(.bool false,H.set l (.loop .done (some (.exit id)) fn T bh as bY an))
theorem BI (dJ:P.follows .mixedOrders=true) {C:b6} (bt:c' P C) {l lo d:Nat} {fn fn':FuncId} {jX cF:Option Code} {T a7 dS dE:List I} {bh gG fN:List Nat} {as bY gv gw fz fA:Code} {an gr fy:c8} {fU fC:FuncId} {args:List I}
  (ak:H[l]?=some (.loop .ready jX fn T bh as bY an)) (ei:hh bh args T=some a7) {s1 s2:a5} {e:cB} {jY:Option Code}
  (ad:exec P an C fn lo d (some l) as 0 ⟨a7,H⟩=some (.normal,s1)) (hz:s1.H[l]?=some (.loop .ready cF fU dS gG gv gw gr))
  (af:exec P an C fn' lo d (some l) bY 0 ⟨s1.T,s1.H.set l (.loop .busy cF fU dS gG gv gw gr)⟩=some (e,s2)) (fa:s2.H[l]?=some (.loop .busy jY fC dE fN fz fA fy))
  {xs:List Value} {b:Nat} (ah:aL B U J S w H) (ae:a9 (fun i=>.arg i) U J S w args xs) (ag:J[l]?=some b) :
  ∃ L,w.heap[b]?=some (.loop L)∧xs.length=L.params.size ∧
    RoundIn Fence.wide 0 P b L.fn (hF L xs) L.assign L.body w (fv B U J S w (k3 l s2.H fC dE fN fz fA fy e).2 (k3 l s2.H fC dE fN fz fA fy e).1):=by
 obtain ⟨a',bk,ar,L,aB,aH,aR,bj,bb,bf,c1,da,dF,fx,ow⟩:=ah.obj l _ ak;rw [ag] at aB;cases aB;have cJ:=xI bh args T a7 xs L.tmps.toList ei ae.len (by simpa using c1.symm);obtain ⟨cb,b8,d_,hp⟩:=cJ;refine ⟨L,aR,by rw [←ae.len,←cb,←dF];simp,?_⟩;refine roundIn_of_wpIn trivial ?_;have l9:(hF L xs).toList=(bh.zip xs).foldl (fun (l:List Value) (p:Nat×Value)=>l.set p.1 p.2) L.tmps.toList:=by rw [Ao,dF]
 obtain ⟨db,fD⟩:=A6 bh ah;have aK:ct B w.heap.size (gM bh U) J S w ⟨a7,H⟩ { tmps:=hF L xs,defers:=[] }:=by
  refine ⟨?_,fD,sb _,fun d aZ=>by simp at aZ,List.Pairwise.nil⟩;simp only [l9];have key:∀ (i:Nat) (u:I) (x:Value),a7[i]?=some u→((bh.zip xs).foldl (fun (l:List Value) (p:Nat×Value)=>l.set p.1 p.2) L.tmps.toList)[i]?=some x →
    Rel J S w u x∧aV (gM bh U) J S w (.slot i) u x:=fun i u x hu al=>by
   rcases hp i u x hu al with ⟨aJ,aP⟩ | ⟨j,aJ,aP,cj⟩
   ·obtain ⟨bR,b4⟩:=da i u x aJ (by simpa using aP);exact ⟨b4,aV.b3 bR⟩
   ·exact ⟨ae.rel j u x aP cj,(ae.own j u x aP cj).mono (Ext.refl J) (fun _ _ h=>⟨h,rfl⟩) fun b ag=>⟨by simp [gM,ag,aJ],rfl,fun _ h=>h⟩⟩
  exact ⟨by rw [b8,d_,←c1];simp,fun i u x hu al=>(key i u x hu al).1,fun i u x hu al=>(key i u x hu al).2⟩
 rw [fx,ow];refine na bt dJ as 0 _ _ _ ad a' _ _ B w.heap.size J w (gM bh U) S _ (.inr ⟨l,b,rfl,ag,rfl⟩) (fun l a w aO=>aO) aK fun aB bC ai=>?_;obtain ⟨b2,cQ,a4,aJ,aP,b'⟩:=ai;have eW:cQ[l]?=some b:=aJ _ _ ag;obtain ⟨_,_,ar,jj,d1,d2,d3,d4,d5,_⟩:=b'.H.obj l _ hz;rw [eW] at d1;cases d1;obtain ⟨dZ,oX⟩:=b'.loop hz eW d3 .busy cF;have o5:(Instr.beginRound b).run P bC=.ok () (bC.putObj b (.loop { jj with state:=.busy,pending:=cF })):=by
  rw [run_beginRound d3 d4]
  have:({ jj with state:=.busy,pending:=cF }:Loop)={ jj with state:=.busy }:=by rw [←d5]
  rw [this]
 refine ⟨_,o5,?_⟩;refine wpIn_mono (Q:=fun cM aM w'=>(∀ t,cM≠Exit.goto t)∧roundPost P b (fv B U J S w (k3 l s2.H fC dE fN fz fA fy e).2 (k3 l s2.H fC dE fN fz fA fy e).1) cM aM w') ?_ (fun e a w h=>h.2);refine na bt dJ bY 0 _ _ _ af bk _ _ B w.heap.size cQ _ b2 a4 _ (.inr ⟨l,b,rfl,eW,rfl⟩) (fun l a w aO=>aO.1 l rfl) oX fun aH bT ai=>?_;obtain ⟨bn,cg,bH,cj,jO,lK⟩:=ai;have fm:cg[l]?=some b:=cj _ _ eW;obtain ⟨_,_,ar,iu,f1,f2,f3,f4,f5,_⟩:=lK.H.obj l _ fa;rw [fm] at f1;cases f1;have jw:bg U S w bn bH bT:=((db.trans aP).trans dZ).trans jO;have fin:∀ (st:LoopState) (jump:Option Code),a1 B U J S w (s2.H.set l (.loop st jump fC dE fN fz fA fy)) (.bool jump.isNone) (.bool jump.isNone) (bT.putObj b (.loop { iu with state:=st,pending:=jump })):=fun st jump=>by
  obtain ⟨oN,oY⟩:=lK.loop fa fm f3 st jump;exact ⟨bn,cg,bH,aJ.trans cj,jw.trans oN,oY.H,.bool _,aV.b3 rfl⟩
 refine ⟨fun t ax=>(by cases e <;> cases ax),?_⟩;cases e with
 | normal=>exact ⟨_,_,run_endRound none f3,fin .ready none⟩
 | ret=>exact ⟨_,_,run_endRound (some .ret) f3,fin .done (some .ret)⟩
 | exit id=>exact ⟨_,_,run_endRound (some (.exit id)) f3,fin .done (some (.exit id))⟩
theorem BJ (dJ:P.follows .mixedOrders=true) (A:FuncId→c8) {tab:b6} (ax:c' P tab)
  (bO : ∀ k f c, (A k).bad = false → P.funcs[k]? = some f → f.body = some c → codeOk (A k) c = true ∧ f.name ≠ "runtime.NumGoroutine") : ∀ d, c' P (fS P A tab d)
 | 0=>⟨fun h=>by simp [fS] at h,fun h=>by simp [fS] at h⟩
 | d+1=>by
   have bt:=BJ dJ A ax bO d;have yp:∀ {k:FuncId} {args:List I} {H:List au} {lo:Nat} {r:I} {H':List au},fS P A tab (d+1) (.fn k) args H lo=some (r,H')→tab (.fn k) args H lo=some (r,H') ∨
     ∃ f c e s vs,(A k).bad=false∧P.funcs[k]?=some f∧f.body=some c∧exec P (A k) (fS P A tab d) k lo d none c 0 ⟨args++List.replicate (f.ntmps-args.length) .junk,H⟩=some (e,s)∧(e=.normal∨e=.ret) ∧
       fg P s.H s.T f.results.toList=some vs∧r=hb vs∧H'=s.H:=fun {k args H lo r H'} h=>by
    simp only [fS] at h;split at h
    ·rename_i x al;cases h;exact .inl al
    ·right;split at h
     ·simp at h
     rename_i nf;split at h
     ·rename_i f aQ;split at h
      ·rename_i c ag;split at h
       ·rename_i s ai;simp only [rZ,Prod.mk.injEq] at h;obtain ⟨vs,aj,rfl,rfl⟩:=h;exact ⟨f,c,_,s,vs,nf,aQ,ag,ai,.inl rfl,aj,rfl,rfl⟩
       ·rename_i s ai;simp only [rZ,Prod.mk.injEq] at h;obtain ⟨vs,aj,rfl,rfl⟩:=h;exact ⟨f,c,_,s,vs,nf,aQ,ag,ai,.inr rfl,aj,rfl,rfl⟩
       ·simp at h
      ·simp at h
     ·simp at h
   have Bg:∀ {l:Nat} {args:List I} {H:List au} {lo:Nat} {r:I} {H':List au},fS P A tab (d+1) (.yield l) args H lo=some (r,H') →
     ∃ jX fn T bh as bY an a7 s1 cF fU dS gG gv gw gr e s2 jY fC dE fN fz fA fy,lo≤l∧H[l]?=some (.loop .ready jX fn T bh as bY an)∧hh bh args T=some a7 ∧
       exec P an (fS P A tab d) fn lo d (some l) as 0 ⟨a7,H⟩=some (.normal,s1)∧s1.H[l]?=some (.loop .ready cF fU dS gG gv gw gr) ∧
       exec P an (fS P A tab d) fU lo d (some l) bY 0 ⟨s1.T,s1.H.set l (.loop .busy cF fU dS gG gv gw gr)⟩=some (e,s2)∧s2.H[l]?=some (.loop .busy jY fC dE fN fz fA fy) ∧
       (r,H')=k3 l s2.H fC dE fN fz fA fy e:=fun {l args H lo r H'} h=>by
    simp only [fS] at h;split at h
    ·simp at h
    ·rename_i bD;split at h
     ·rename_i jX fn T bh as bY an ak;split at h
      ·rename_i a7 ei;split at h
       ·rename_i s1 ad;split at h
        ·rename_i cF fU dS gG gv gw gr hz;split at h
         ·rename_i e s2 af;split at h
          ·rename_i jY fC dE fN fz fA fy fa;refine ⟨jX,fn,T,bh,as,bY,an,a7,s1,cF,fU,dS,gG,gv,gw,gr,e,s2,jY,fC,dE,fN,fz,fA,fy,by omega,ak,ei,ad,hz,af,fa,?_⟩;cases e <;> simp only [Option.some.injEq] at h <;> exact h.symm
          ·simp at h
         ·simp at h
        ·simp at h
       ·simp at h
      ·simp at h
     ·simp at h
   refine ⟨fun {b0 args H lo r H'} h=>?_,fun {b0 args H lo r H'} h=>?_⟩
   ·cases b0 with
    | fn k =>
      rcases yp h with h | ⟨f,c,e,s,vs,_,_,_,aG,_,_,_,rfl⟩
      ·exact ax.low h
      ·exact oQ bt c 0 _ e s aG
    | yield l =>
      obtain ⟨jX,fn,T,bh,as,bY,an,a7,s1,cF,fU,dS,gG,gv,gw,gr,e,s2,jY,fC,dE,fN,fz,fA,fy,bD,ak,ei,ad,hz,af,fa,aj⟩:=Bg h;have de:=oQ bt as 0 _ _ s1 ad;have df:=oQ bt bY 0 _ e s2 af;(have jP:ba lo s2.H (k3 l s2.H fC dE fN fz fA fy e).2:=by cases e <;> exact ba.set _ _ bD);rw [←aj] at jP;exact (de.trans ((ba.set s1.H _ bD).trans df)).trans jP
   ·cases b0 with
    | fn k =>
      rcases yp h with h | ⟨f,c,e,s,vs,nf,aQ,ag,aG,he,aj,rfl,rfl⟩
      ·exact ax.ok h
      obtain ⟨bA,bQ⟩:=bO k f c nf aQ ag;exact ⟨⟨f,aQ,by simp [ag],bQ⟩,fun B U J S w xs ah _ ae=>BH dJ bt aQ ag bA aG he aj ah ae⟩
    | yield l =>
      obtain ⟨jX,fn,T,bh,as,bY,an,a7,s1,cF,fU,dS,gG,gv,gw,gr,e,s2,jY,fC,dE,fN,fz,fA,fy,bD,ak,ei,ad,hz,af,fa,aj⟩:=Bg h;intro B U J S w xs b ah _ ae ag;have:=BI dJ bt ak ei ad hz af fa ah ae ag;rw [←aj] at this;exact this
end
end Go.Proofs.YtfakoboiahbhaaaGreat.Ab


namespace Go.Proofs.YtfakoboiahbhaaaGreat.Ab
open Go
def Sem (P:Program) (b0:e6) (args:List I) (H:List au) (lo:Nat) (r:I) (H':List au):Prop:=ba lo H H'∧jm P b0 args H H' r
def lh (P:Program) (k:FuncId) (args:List I) (v:I):Prop:=Sem P (.fn k) args [] 0 v []∧cq 8 v=true
abbrev di:=List (FuncId×List I×I)
def hl (P:Program) (acc:di):Prop:=(∀ p∈acc,lh P p.1 p.2.1 p.2.2)∧∀ p∈acc,∀ q∈acc,p.1=q.1→p.2.1=q.2.1→p.2.2=q.2.2
def hO (C:b6) (acc:di):Prop:=∀ p∈acc,∃ r a2,C (.fn p.1) p.2.1 [] 0=some (r,a2)∧bJ a2 0 a2.length 0 8 r=some p.2.2
section
variable {P:Program}
theorem oG {C:b6} (h:∀ b0 args H lo r H',C b0 args H lo=some (r,H')→Sem P b0 args H lo r H'):c' P C :=
 ⟨fun ao=>(h _ _ _ _ _ _ ao).1,fun ao=>(h _ _ _ _ _ _ ao).2⟩
theorem c'.Gy {C:b6} (bt:c' P C) {b0:e6} {args:List I} {H:List au} {lo:Nat} {r:I} {H':List au} (h:C b0 args H lo=some (r,H')):Sem P b0 args H lo r H':=⟨bt.low h,bt.ok h⟩
theorem yd:c' P (fun _ _ _ _=>none):=oG fun _ _ _ _ _ _ h=>by cases h
noncomputable def kR (b0:e6) (args:List I) (H:List au) (lo:Nat) (r:I) (H':List au):b6:=fun t a h l =>
 open Classical in if t=b0∧a=args∧h=H∧l=lo then some (r,H') else none
theorem DY (b0:e6) (args:List I) (H:List au) (lo:Nat) (r:I) (H':List au):kR b0 args H lo r H' b0 args H lo=some (r,H'):=by simp [kR]
theorem DZ {b0:e6} {args:List I} {H:List au} {lo:Nat} {r:I} {H':List au} (h:Sem P b0 args H lo r H'):c' P (kR b0 args H lo r H') :=
 oG fun t a aX l r' a2 ao=>by
  unfold kR at ao;split at ao
  ·rename_i he;obtain ⟨rfl,rfl,rfl,rfl⟩:=he;cases ao;exact h
  ·cases ao
theorem zr {f:I→Option I}:∀ {l:List I},(∀ u∈l,f u=some u)→ed f l=some l
 | [],_=>rfl
 | u::l,h=>by
   simp only [ed,h u (by simp),zr (l:=l) fun v ae=>h v (by simp [ae]),sd]
theorem oT {H:List au} {lo id0 n:Nat}:∀ {d:Nat} {v:I},cq d v=true→bJ H lo id0 n d v=some v
 | 0,v,h=>by simp [cq] at h
 | d+1,v,h=>by
   have key:∀ {l:List I},l.all (cq d)=true→ed (bJ H lo id0 n d) l=some l:=fun h=>zr fun u hu=>oT (by rw [sC] at h;exact h u hu);cases v <;> simp only [cq,tM] at h <;> try rfl
   case ay cells len c=>simp only [bJ,key h,sd]
   case bU cells=>simp only [bJ,key h,sd]
   case agg cs=>simp only [bJ,key h,sd]
   case tuple cs=>simp only [bJ,key h,sd]
   case func f a b =>
    simp only [sx] at h;simp only [bJ,key h.1,key h.2]
theorem oz {acc:di} (h:hl P acc):∃ C,c' P C∧hO C acc:=by
 classical
 obtain ⟨ad,af⟩:=h;have key:∀ x:e6×List I×List au×Nat,∃ o:Option (I×List au),(∀ r H',o=some (r,H')→Sem P x.1 x.2.1 x.2.2.1 x.2.2.2 r H') ∧
   ∀ p∈acc,x=(.fn p.1,p.2.1,[],0)→∃ r a2,o=some (r,a2)∧bJ a2 0 a2.length 0 8 r=some p.2.2:=fun x=>by
  by_cases al:∃ p∈acc,x=(.fn p.1,p.2.1,[],0)
  ·obtain ⟨p,aC,rfl⟩:=al;obtain ⟨q1,aW⟩:=ad p aC;refine ⟨some (p.2.2,[]),fun r' H' e=>by cases e;exact q1,fun q a3 e=>?_⟩;simp only [Prod.mk.injEq,e6.fn.injEq] at e;exact ⟨p.2.2,[],rfl,by rw [oT aW,af p aC q a3 e.1 e.2.1]⟩
  ·exact ⟨none,(fun r H' e=>nomatch e),fun p aC e=>absurd ⟨p,aC,e⟩ al⟩
 let C:b6:=fun t a H l=>Classical.choose (key (t,a,H,l))
 have bt:∀ t a H l,_:=fun t a H l=>vA (key (t,a,H,l));exact ⟨C,oG fun t a H l r H' ao=>(bt t a H l).1 r H' ao,fun p aC=>(bt _ _ _ _).2 p aC rfl⟩
def x0 (o:Oper) (s:a5) (K:a5→Prop):Prop :=
 ∃ it r m since seen es clock,o.op=.next it false∧o.guard=none∧Ab.aA s.T it=.ptr r 0∧s.H[r]?=some (.iter m since seen clock)∧s.H[m]?=some (.map es clock)∧since≤clock∧(∀ e∈es,e.1<since) ∧
   ((∀ e∈es,e.1∈seen)→K ⟨put s.T o.dst (.tuple [.bool false]),s.H⟩) ∧
   ∀ e∈es,e.1 ∉ seen→K ⟨put s.T o.dst (.tuple [.bool true,e.2.1,e.2.2]),s.H.set r (.iter m since (seen++[e.1]) clock)⟩
section
variable {B N:Nat} {J:List Nat} {w:World} {H:List au} {U:Nat→Option aI} {S:Nat→Nat→Prop}
theorem Dd (ah:aL B U J S w H) {id m since since' j9 stepped':Nat} {seen seen':List Nat} (aE:H[id]?=some (.iter m since seen j9)) {b ee:Nat}
  (aB:J[id]?=some b) (aH:U b=some (.obj id)) (aR:J[m]?=some ee) (bb:∀ o,¬ S b o) :
  bg U S w U S (w.putObj b (.mapIter (some ee) since' seen'.toArray stepped'))∧aL B U J S (w.putObj b (.mapIter (some ee) since' seen'.toArray stepped')) (H.set id (.iter m since' seen' stepped')):=by
 have hr:∀ ar o,S ar o→ar≠b:=fun ar o ai e=>bb o (e ▸ ai);have ag:=(ah.base b _ aH).2;have aA:bg U S w U S (w.putObj b (.mapIter (some ee) since' seen'.toArray stepped')) :=
  ⟨rfl,rfl,rfl,by simp,fun ar _ aN=>World.putObj_heap_other (fun e=>by subst e;rw [aH] at aN;cases aN),fun ar o ai=>⟨ai,nV (hr ar o ai)⟩,fun ar o ai=>.inl ai,fun ar h=>.inl h⟩
 refine ⟨aA,by simpa using ah.cE,fun bx o aq=>?_,fun ar o ai=>?_,fun ar l h=>by simpa using ah.base ar l h,by simpa using ah.cX⟩
 ·by_cases gX:bx=id
  ·subst gX;rw [sg (sa.1 aE).1] at aq;cases aq;exact ⟨b,ee,aB,aH,aR,World.putObj_heap_same ag,bb⟩
  ·rw [si (fun e=>gX e.symm)] at aq;refine (ah.obj bx o aq).frame (Ext.refl J) aA.set fun ar cv bp jG=>?_;have bM:ar≠b:=fun e=>by
    subst e;rw [aH] at bp;cases bp;rcases jG with h | ⟨j,h⟩
    ·cases h;exact gX rfl
    ·cases h
   exact ⟨bp,World.putObj_heap_other bM,fun o ai=>ai⟩
 ·obtain ⟨v,ae⟩:=ah.cf ar o ai;exact ⟨v,(nV (hr ar o ai)).trans ae⟩
theorem DT {F:Fence} (bB:ek F) {o:Oper} {s:a5} {K':a5→Prop} (h:x0 o s K') {a:Act} (aK:ct B N U J S w s a)
  {K:Act→World→Prop} {Q:Exit→Act→World→Prop} (fE:∀ aF,K' aF→∀ aM w',Step B N U J S w aF aM w'→K aM w'):o.wpIn F 0 P a w K Q:=by
 obtain ⟨it,r,m,since,seen,es,clock,aD,aO,CA,aj,hm,pF,hold,dd,aJ⟩:=h;have jI:∀ c,o.op≠.defer c:=fun c ao=>by rw [aD] at ao;cases ao
 refine ⟨fun f _=>bB.fn f,?_⟩;rw [Oper.semAt_eq _ _ _ jI];have lT:=aK.aA it;rw [CA] at lT;have fD:=l8 aK.H;obtain ⟨b,ee,aB,aH,aR,bj,bb⟩:=fD.obj r _ aj;obtain ⟨F0,bw,a',bk,bq,b7,dY,fR⟩:=fD.obj m _ hm;rw [aR] at a';cases a';generalize ae:a.eval it=v at lT;cases lT with
 | ptr _ _ ar eX =>
   rw [aB] at eX;cases eX;have Cb:∀ x∈bw.toList,x.born<since:=fun x al=>by
    obtain ⟨j,aw⟩:=tF.1 al;(have ef:bw[j]?=some x:=by simpa using aw);(have aU:j<es.length:=by have:=(sW.1 ef).1;omega);rcases bI:es[j] with ⟨i,k,v⟩;(have he:es[j]?=some (i,k,v):=by rw [sq aU,bI]);rw [(fR j i k v x he ef).1];exact hold (i,k,v) (sK he)
   have done:∀ {r':I} {H':List au} {v:Value} {w':World},a1 B (dk U) J S w H' r' v w'→K' ⟨put s.T o.dst r',H'⟩→K (a.put o.dst v) w':=fun {r' H' v w'} aC av=>by
    obtain ⟨az,bZ,S',q1,aW,fW,_⟩:=nU o.dst aK aC .junk (fun _ _ _ _ _=>.junk _);exact fE _ av _ _ ⟨az,bZ,S',q1,aW,fW⟩
   rcases run_next_at (P:=P) w o.type b ee since clock seen.toArray bw clock bj bq Cb pF with ⟨aN,dN⟩ | ⟨x,al,bC,y0,dN⟩
   ·(have pE:(Go.execOp a.eval o).run P w=.ok (.value (.tuple #[.bool false])) w:=by simp [Go.execOp,aD,ae,dN]);rw [pE];refine done (a1.same fD (.tuple _ _ rfl (by simp [I.plain]) fun j u br hu bc=>?_) rfl) (dd fun e he=>?_)
    ·match j with
     | 0=>simp at hu bc;subst hu;subst bc;exact .bool _
     | j+1=>simp at hu
    ·obtain ⟨j,aw⟩:=tF.1 he;have aU:j<es.length:=(sa.1 aw).1;have al:bw[j]?=some bw[j]:=sD (by omega);have ag:=(fR j e.1 e.2.1 e.2.2 _ aw al).1;have lS:leftOf bw seen.toArray=#[]:=Array.eq_empty_of_size_eq_zero aN;unfold leftOf at lS;rw [Array.filter_eq_empty_iff] at lS;have:=lS bw[j] (by simp);simpa [ag] using this
   ·have pE:(Go.execOp a.eval o).run P w=.ok (.value (.tuple #[.bool true,x.key,x.val])) (bC.putObj b (.mapIter (some ee) since (seen++[x.born]).toArray clock)):=by
     simp [Go.execOp,aD,ae,dN,Go.ChangeMaps.setBlock,World.putObj]
    rw [pE];have nz:x∈bw.toList∧x.born ∉ seen:=by
     unfold leftOf at al;simpa using al
    obtain ⟨j,aw⟩:=tF.1 nz.1;(have ef:bw[j]?=some x:=by simpa using aw);(have aU:j<es.length:=by have:=(sW.1 ef).1;omega);rcases bI:es[j] with ⟨i,k,v⟩;(have he:es[j]?=some (i,k,v):=by rw [sq aU,bI]);obtain ⟨d1,d2,d3,d4,d5⟩:=fR j i k v x he ef;have kx:(i,k,v)∈es:=sK he;refine done (r':=.tuple [.bool true,k,v]) (H':=s.H.set r (.iter m since (seen++[i]) clock)) ?_ (aJ _ kx (by rw [←d1];exact nz.2));(have hw:aL B (dk U) J S bC s.H:=by rcases y0 with rfl | rfl;exact fD;exact l7 fD);(have pb:bg (dk U) S w (dk U) S bC:=by rcases y0 with rfl | rfl;exact bg.refl _ _ _;exact ki _ _ _);refine a1.after (Ext.refl J) pb ?_;obtain ⟨aA,cc⟩:=Dd hw (since':=since) (stepped':=clock) (seen':=seen++[i]) aj aB aH aR bb;rw [d1];refine ⟨dk U,J,S,Ext.refl J,aA,cc,.tuple _ _ rfl (fun u hu=>?_) (fun j u br hu bc=>?_),aV.b3 rfl⟩
    ·simp only [sk,List.not_mem_nil,or_false] at hu;rcases hu with rfl | rfl | rfl
     ·rfl
     ·exact d2
     ·exact d4
    ·match j with
     | 0=>simp at hu bc;subst hu;subst bc;exact .bool _
     | 1=>simp at hu bc;subst hu;subst bc;exact (d3.mono (Ext.refl J) pb.set).mono (Ext.refl J) aA.set
     | 2=>simp at hu bc;subst hu;subst bc;exact (d5.mono (Ext.refl J) pb.set).mono (Ext.refl J) aA.set
     | j+3=>simp at hu
end
end
end Go.Proofs.YtfakoboiahbhaaaGreat.Ab


namespace Go.Proofs.YtfakoboiahbhaaaGreat.Ab
open Go
section
variable {P:Program} {B N:Nat} {J:List Nat} {w:World} {U:Nat→Option aI} {S:Nat→Nat→Prop}
theorem xH {C:b6} {lo:Nat} {ops:Array Oper} {an:List b5} {i:Nat} {cO:Oper} (hi:ops[i]?=some cO) {R:Nat→Nat→Prop} {aF:a5}:∀ (l:List Nat) (s:a5),l.Pairwise R→i∈l →
  (∀ j∈l,R j i→∀ c2,ops[j]?=some c2→indep ops c2 (an.getD j {}) cO (an.getD i {})=true)→cw P C lo ops an l s=some aF →
  ∃ s1,dv P C lo ops cO (an.getD i {}) s=some s1∧cw P C lo ops an (l.erase i) s1=some aF
 | [],s,_,h,_,_=>by simp at h
 | j::r,s,aC,hm,jF,h=>by
   by_cases g0:j=i
   ·subst g0;simp only [cw,hi,sf] at h;obtain ⟨s1,ad,af⟩:=h;exact ⟨s1,ad,by simpa using af⟩
   ·have aj:i∈r:=by
     rcases sk.1 hm with h | h
     ·exact absurd h.symm g0
     ·exact h
    have aU:R j i:=(tg.1 aC).1 i aj;have he:(j::r).erase i=j::r.erase i:=by
     rw [List.erase_cons];simp [g0]
    rw [he];simp only [cw] at h ⊢;cases aw:ops[j]? with
    | none =>
      simp only [aw] at h;exact xH hi r s (tg.1 aC).2 aj (fun k av=>jF k (by simp [av])) h
    | some c2 =>
      simp only [aw,sf] at h;obtain ⟨s1,ad,af⟩:=h;obtain ⟨s2,aJ,aP⟩:=xH hi r s1 (tg.1 aC).2 aj (fun k av=>jF k (by simp [av])) af;obtain ⟨dg,q1,aW⟩:=AZ (jF j (by simp) aU c2 aw) ad aJ;exact ⟨dg,q1,by dsimp only;rw [aW];exact aP⟩
def c7 (O:List Nat) (listed:Array Bool):List Nat:=O.filter fun i=>!listed.getD i true
theorem z5 {O:List Nat} (lM:O.Nodup) {i:Nat} {listed:Array Bool}:c7 O (listed.setIfInBounds i true)=(c7 O listed).erase i:=by
 have jI:(c7 O listed).Nodup:=lM.filter _;rw [jI.erase_eq_filter];simp only [c7,List.filter_filter];congr 1;funext j;by_cases gY:j=i
 ·subst gY;rcases sU j listed.size with h | h
  ·simp [sy,h]
  ·simp [sy,h]
 ·have:(listed.setIfInBounds i true).getD j true=listed.getD j true:=by
   simp only [sy];rw [vv (Ne.symm gY)]
  rw [this];simp [gY]
def fh (n p q:Nat):List Nat:=(List.range n).map fun i=>if i=p then q else if i=q then p else i
def lk (p q j i:Nat):Prop:=(j<i∧¬ (j=p∧i=q))∨(j=q∧i=p)
theorem xP {n p:Nat} (a3:p+1<n):(fh n p (p+1)).Pairwise (lk p (p+1)):=by
 unfold fh;rw [uQ];refine List.Pairwise.imp (fun {a b} h=>?_) uP;unfold lk;split <;> split <;> (try split) <;> (try split) <;> omega
theorem xO {n p:Nat} (a3:p+1<n):(fh n p (p+1)).Nodup:=by
 unfold fh List.Nodup;rw [uQ];refine List.Pairwise.imp (fun {a b} h=>?_) uc;split <;> split <;> (try split) <;> (try split) <;> omega
theorem mO {n p:Nat} (a3:p+1<n) (i:Nat):i∈fh n p (p+1)↔i<n:=by
 unfold fh;rw [ss];constructor
 ·rintro ⟨a,cd,rfl⟩;have:=sJ.1 cd;split <;> (try split) <;> omega
 ·intro h;refine ⟨if i=p then p+1 else if i=p+1 then p else i,sJ.2 ?_,?_⟩
  ·split <;> (try split) <;> omega
  ·by_cases ad:i=p
   ·subst ad;simp
   ·by_cases af:i=p+1
    ·subst af;simp
    ·simp [ad,af]
theorem Bt {F:Fence} (bB:ek F) {C:b6} (bt:c' P C) {lo:Nat} {ops:Array Oper} {an:List b5} {p:Nat} (a3:p+1<ops.size) (aZ:m8 ops an p (p+1)=true) {Q:Exit→Act→World→Prop} {s1 s2:a5} :
  ∀ (fuel:Nat) (listed:Array Bool) (s:a5) (a:Act) (w:World) (U:Nat→Option aI) (J:List Nat) (S:Nat→Nat→Prop),(c7 (List.range ops.size) listed).length≤fuel→lC ops listed →
    ((cw P C lo ops an (c7 (List.range ops.size) listed) s=some s1∧cw P C lo ops an (c7 (fh ops.size p (p+1)) listed) s=some s2∧listed.getD p true=false∧listed.getD (p+1) true=false) ∨
      (cw P C lo ops an (c7 (List.range ops.size) listed) s=some s1∧listed.getD p true=true)∨(cw P C lo ops an (c7 (fh ops.size p (p+1)) listed) s=some s2∧listed.getD (p+1) true=true)) →
    ct B N U J S w s a→(∀ aF,aF=s1∨aF=s2→∀ aM w',Step B N U J S w aF aM w'→Q .normal aM w')→wpAnyIn F 0 P .any ops Q fuel listed a w:=by
 have c_:∀ j c2,ops[j]?=some c2→((g7 ops.toList []).getD j 0=mv (g7 ops.toList []) c2)∧(∀ e∈c2.after,Region.binds .any e=true→e.on<j) ∧
   ∀ i cO,i<j→ops[i]?=some cO→((g7 ops.toList []).getD j 0).testBit i=true∨indep ops cO (an.getD i {}) c2 (an.getD j {})=true∨(i=p∧j=p+1):=fun j c2 aw=>by
  have aU:j<ops.size:=(sW.1 aw).1;simp only [m8,zG,sC,sJ] at aZ;have h:=aZ j aU;rw [aw] at h;simp only [sx,beq_iff_eq,sC,sJ] at h;obtain ⟨⟨ad,af⟩,aG⟩:=h;refine ⟨ad,fun e he ag=>?_,fun i cO gY hi=>?_⟩
  ·have:=af e (by simpa using he);simp only [ag,Bool.not_true,Bool.false_or] at this;simpa [tC] using this
  ·have a6:=aG i gY;rw [hi] at a6;simp only [tH,sx] at a6;rcases a6 with (a6 | a6) | a6
   ·exact .inl a6
   ·exact .inr (.inl a6)
   ·exact .inr (.inr ⟨ta a6.1,ta a6.2⟩)
 have xp:∀ (listed:Array Bool),lC ops listed→∀ (n k:Nat) ok,k≤n→ops[k]?=some ok→(∀ e∈ok.after,Region.binds .any e=true→listed.getD e.on false=true) →
   ∀ j,((g7 ops.toList []).getD k 0).testBit j=true→listed.getD j false=true:=by
  intro listed cC n
  induction n with
  | zero =>
    intro k ok av aq eL j aw;rw [(c_ k ok aq).1] at aw;rcases mw _ j _ _ aw with h | ⟨e,he,ag,h⟩
    ·simp at h
    ·have:=(c_ k ok aq).2.1 e (by simpa using he) ag;omega
  | succ n a_ =>
    intro k ok av aq eL j aw;rw [(c_ k ok aq).1] at aw;rcases mw _ j _ _ aw with h | ⟨e,he,ag,h⟩
    ·simp at h
    ·(have jD:e∈ok.after:=by simpa using he);have aU:=(c_ k ok aq).2.1 e jD ag;have h3:=eL e jD ag;rcases h with h | rfl
     ·have ku:=(sW.1 aq).1;have l3:ops[e.on]?=some ops[e.on]:=sD (by omega);have pD:listed.getD e.on true=true:=by
       rcases sU e.on listed.size with aX | aX
       ·simp [sy,aX] at h3 ⊢;exact h3
       ·simp [sy,aX] at h3
      exact a_ e.on _ (by omega) l3 (cC e.on _ l3 pD) j h
     ·exact h3
 have iL:∀ (O:List Nat) (listed:Array Bool) (i:Nat),i∈c7 O listed↔i∈O∧listed.getD i true=false:=fun O listed i=>by
  simp [c7]
 have lS:∀ (O:List Nat) (listed:Array Bool),(∀ i,i∈O↔i<ops.size)→c7 (List.range ops.size) listed=[]→c7 O listed=[]:=fun O listed lM h=>by
  rw [uO];intro i hi;have:=(iL _ _ _).1 hi;have af:i∈c7 (List.range ops.size) listed:=(iL _ _ _).2 ⟨sJ.2 ((lM i).1 this.1),this.2⟩;rw [h] at af;simp at af
 have yC:∀ (listed:Array Bool) (s:a5),c7 (List.range ops.size) listed=[] →
   ((cw P C lo ops an (c7 (List.range ops.size) listed) s=some s1∧cw P C lo ops an (c7 (fh ops.size p (p+1)) listed) s=some s2∧listed.getD p true=false∧listed.getD (p+1) true=false) ∨
     (cw P C lo ops an (c7 (List.range ops.size) listed) s=some s1∧listed.getD p true=true)∨(cw P C lo ops an (c7 (fh ops.size p (p+1)) listed) s=some s2∧listed.getD (p+1) true=true))→s=s1∨s=s2:=fun listed s h hinv=>by
  have af:=lS _ listed (mO a3) h;rw [h,af] at hinv;simp only [cw,Option.some.injEq] at hinv;rcases hinv with h | h | h
  ·exact .inl h.1
  ·exact .inl h.1
  ·exact .inr h.1
 have front:∀ (O:List Nat) (R:Nat→Nat→Prop),O.Pairwise R→O.Nodup→(∀ i,i∈O↔i<ops.size)→∀ (listed:Array Bool) (s aF:a5) (i:Nat) (cO:Oper),lC ops listed→ops[i]?=some cO→listed.getD i true=false →
   (∀ e∈cO.after,Region.binds .any e=true→listed.getD e.on false=true)→(∀ j,R j i→listed.getD j true=false→j<i∧¬ (j=p∧i=p+1))→cw P C lo ops an (c7 O listed) s=some aF →
   ∃ dg,dv P C lo ops cO (an.getD i {}) s=some dg∧cw P C lo ops an (c7 O (listed.setIfInBounds i true)) dg=some aF:=by
  intro O R B8 B7 B6 listed s aF i cO cC eg ad eL jy dN;have aU:=(sW.1 eg).1
  obtain ⟨dg,q1,aW⟩:=xH eg (R:=R) (c7 O listed) s (B8.filter _) ((iL _ _ _).2 ⟨(B6 i).2 aU,ad⟩) (fun j aw g0 c2 pC=>by
   have dt:=((iL _ _ _).1 aw).2;obtain ⟨lW,bM⟩:=jy j g0 dt;rcases (c_ i cO eg).2.2 j c2 lW pC with h | h | h
   ·have:=xp listed cC i i cO (sb _) eg eL j h;rcases sU j listed.size with aX | aX
    ·simp [sy,aX] at dt this;rw [this] at dt;simp at dt
    ·simp [sy,aX] at dt
   ·exact h
   ·exact absurd h bM) dN
  exact ⟨dg,q1,by rw [z5 B7];exact aW⟩
 intro fuel
 induction fuel with
 | zero =>
   intro listed s a w U J S pf cC hinv aK bl;have h2:c7 (List.range ops.size) listed=[]:=List.length_eq_zero_iff.1 (by omega);refine ⟨?_,bl s (yC listed s h2 hinv) a w (Step.here aK)⟩;rw [uO];intro i hi;obtain ⟨ad,o,aq,_⟩:=mem_ready.1 hi
   have:i∈c7 (List.range ops.size) listed:=(iL _ _ _).2 ⟨sJ.2 (sW.1 aq).1,by simp [ad]⟩
   rw [h2] at this;simp at this
 | succ fuel a_ =>
   intro listed s a w U J S pf cC hinv aK bl;refine ⟨fun aj=>?_,fun i hi=>?_⟩
   ·have h2:c7 (List.range ops.size) listed=[]:=by
     rw [uO];intro i
     induction i using Nat.strongRecOn with
     | _ i pQ =>
       intro hi;obtain ⟨aU,dt⟩:=(iL _ _ _).1 hi;have aU:=sJ.1 aU;have aq:ops[i]?=some ops[i]:=sD aU
       have:i∈Region.ready .any ops listed:=mem_ready.2 ⟨by simpa using dt,_,aq,fun e he ag=>by
        have h1:=(c_ i _ aq).2.1 e he ag;have kz:=pQ e.on h1;have ak:listed.getD e.on true=true:=by
         cases al:listed.getD e.on true with
         | true=>rfl
         | false=>exact absurd ((iL _ _ _).2 ⟨sJ.2 (by omega),al⟩) kz
        rcases sU e.on listed.size with aX | aX
        ·simp [sy,aX] at ak ⊢;exact ak
        ·rcases sU i listed.size with lJ | lJ
         ·omega
         ·simp [sy,lJ] at dt⟩
       rw [aj] at this;simp at this
    exact bl s (yC listed s h2 hinv) a w (Step.here aK)
   ·obtain ⟨ad,cO,eg,eL⟩:=mem_ready.1 hi;have aU:=(sW.1 eg).1;(have iF:listed.getD i true=false:=by simpa using ad);have kx:i∈c7 (List.range ops.size) listed:=(iL _ _ _).2 ⟨sJ.2 aU,iF⟩;have ko:∀ i,i∈List.range ops.size↔i<ops.size:=fun i=>sJ;have bP:i<listed.size:=by
     rcases sU i listed.size with aX | aX
     ·exact aX
     ·simp [sy,aX] at iF
    have nx:(listed.setIfInBounds i true).getD i true=true:=by
     simp [sy,bP]
    have bM:∀ k,k≠i→(listed.setIfInBounds i true).getD k true=listed.getD k true:=fun k av=>by
     simp only [sy];rw [vv (Ne.symm av)]
    obtain ⟨dg,q1,Cz⟩:∃ dg,dv P C lo ops cO (an.getD i {}) s=some dg ∧
      ((cw P C lo ops an (c7 (List.range ops.size) (listed.setIfInBounds i true)) dg=some s1∧cw P C lo ops an (c7 (fh ops.size p (p+1)) (listed.setIfInBounds i true)) dg=some s2∧(listed.setIfInBounds i true).getD p true=false∧(listed.setIfInBounds i true).getD (p+1) true=false) ∨
        (cw P C lo ops an (c7 (List.range ops.size) (listed.setIfInBounds i true)) dg=some s1∧(listed.setIfInBounds i true).getD p true=true)∨(cw P C lo ops an (c7 (fh ops.size p (p+1)) (listed.setIfInBounds i true)) dg=some s2∧(listed.setIfInBounds i true).getD (p+1) true=true)):=by
     rcases hinv with ⟨cb,b8,d_,hp⟩ | ⟨cb,b8⟩ | ⟨cb,b8⟩
     ·by_cases lU:i=p
      ·obtain ⟨dg,aJ,aP⟩:=front _ _ uP uc ko listed s s1 i cO cC eg iF eL (fun j aw _=>⟨aw,by omega⟩) cb;exact ⟨dg,aJ,.inr (.inl ⟨aP,by rw [←lU];exact nx⟩)⟩
      ·by_cases lV:i=p+1
       ·obtain ⟨dg,aJ,aP⟩:=front _ _ (xP a3) (xO a3) (mO a3) listed s s2 i cO cC eg iF eL (fun j aw _=>by unfold lk at aw;omega) b8;exact ⟨dg,aJ,.inr (.inr ⟨aP,by rw [←lV];exact nx⟩)⟩
       ·obtain ⟨dg,aJ,aP⟩:=front _ _ uP uc ko listed s s1 i cO cC eg iF eL (fun j aw _=>⟨aw,by omega⟩) cb;obtain ⟨Gw,cj,jO⟩:=front _ _ (xP a3) (xO a3) (mO a3) listed s s2 i cO cC eg iF eL (fun j aw _=>by unfold lk at aw;omega) b8;rw [aJ] at cj;cases cj;exact ⟨dg,aJ,.inl ⟨aP,jO,by rw [bM _ (Ne.symm lU)];exact d_,by rw [bM _ (Ne.symm lV)];exact hp⟩⟩
     ·obtain ⟨dg,aJ,aP⟩:=front _ _ uP uc ko listed s s1 i cO cC eg iF eL (fun j aw dt=>⟨aw,fun e=>by rw [e.1,b8] at dt;simp at dt⟩) cb;refine ⟨dg,aJ,.inr (.inl ⟨aP,?_⟩)⟩;by_cases lU:p=i
      ·rw [lU];exact nx
      ·rw [bM _ lU];exact b8
     ·obtain ⟨dg,aJ,aP⟩:=front _ _ (xP a3) (xO a3) (mO a3) listed s s2 i cO cC eg iF eL (fun j aw dt=>by
       unfold lk at aw;rcases aw with aw | ⟨rfl,_⟩
       ·exact aw
       ·rw [b8] at dt;simp at dt) cb
      refine ⟨dg,aJ,.inr (.inr ⟨aP,?_⟩)⟩;by_cases lV:p+1=i
      ·rw [lV];exact nx
      ·rw [bM _ lV];exact b8
    refine A2 bB bt eg q1 aK fun aM w' ai=>?_;obtain ⟨b2,cQ,a4,aJ,aP,b'⟩:=ai;refine a_ (listed.setIfInBounds i true) dg aM w' b2 cQ a4 ?_ ?_ Cz b' fun aF g1 gP hk dO=>bl aF g1 gP hk (dO.trans aJ aP)
    ·rw [z5 uc,List.length_erase_of_mem kx];omega
    ·intro k ok av ak e he ag;by_cases l0:k=i
     ·subst l0;rw [eg] at av;cases av;exact getD_set_true (eL e he ag)
     ·have:listed.getD k true=true:=by rw [getD_set_ne true (Ne.symm l0)] at ak;exact ak
      exact getD_set_true (cC k ok av this e he ag)
theorem Ef {F:Fence} (bB:ek F) (hm:P.follows .mixedOrders=true) {C:b6} (bt:c' P C) {lo id:Nat} {ops:Array Oper} {an:List b5} {p:Nat} (a3:p+1<ops.size) (aZ:m8 ops an p (p+1)=true) {Q:Exit→Act→World→Prop} {s s1 s2:a5} {a:Act}
  (ad:cw P C lo ops an (List.range ops.size) s=some s1) (af:cw P C lo ops an (fh ops.size p (p+1)) s=some s2) (aK:ct B N U J S w s a) (bl:∀ aF,aF=s1∨aF=s2→∀ aM w',Step B N U J S w aF aM w'→Q .normal aM w'):(Code.region id ops true).wpIn F 0 P Q a w:=by
 refine wpIn_region_any hm ?_;have hw:aL B U J S w.drew s.H:=l7 aK.H;have aA:=ki U S w;have fW:ct B N U J S w.drew s a:=⟨⟨aK.T.len,fun i u v hu ae=>(aK.T.rel i u v hu ae).mono (Ext.refl J) aA.set,fun i u v hu ae=>(aK.T.own i u v hu ae).mono (Ext.refl J) aA.set fun b ag=>⟨ag,rfl,fun _ h=>h⟩⟩,hw,aK.M.aA aA⟩;have dt:∀ i,i<ops.size→(Array.replicate ops.size false).getD i true=false:=fun i hi=>by simp [sy,hi]
 have kB:∀ O:List Nat,(∀ i,i∈O↔i<ops.size)→c7 O (Array.replicate ops.size false)=O:=fun O lM=>by
  simp only [c7];rw [List.filter_eq_self];intro i hi;rw [dt i ((lM i).1 hi)];rfl
 have ko:∀ i,i∈List.range ops.size↔i<ops.size:=fun i=>sJ;refine Bt bB bt a3 aZ (s1:=s1) (s2:=s2) (lo:=lo) ops.size (Array.replicate ops.size false) s a w.drew U J S (by rw [kB _ ko];simp) ?_ (.inl ⟨by rw [kB _ ko];exact ad,by rw [kB _ (mO a3)];exact af,dt _ (by omega),dt _ a3⟩) fW fun aF g1 aM w' ai=>bl aF g1 aM w' (ai.trans (Ext.refl J) aA);intro k o aq ak;have aU:=(sW.1 aq).1;rw [dt k aU] at ak;cases ak
end
end Go.Proofs.YtfakoboiahbhaaaGreat.Ab


namespace Go.Proofs.YtfakoboiahbhaaaGreat.Ab
open Go
section
variable (P:Program)
def iw (lo:Nat) (ops:Array Oper) (o:Oper) (an:b5) (s:a5) (K:a5→Prop):Prop :=
 (∃ C aF,c' P C∧dv P C lo ops o an s=some aF∧K aF)∨x0 o s K
def runN (lo:Nat) (ops:Array Oper):List Oper→List b5→a5→(a5→Prop)→Prop
 | [],_,s,K=>K s
 | o::r,as,s,K=>iw P lo ops o (as.headD {}) s fun aF=>runN lo ops r as.tail aF K
def Ey (lo:Nat) (ops:Array Oper) (as:List b5) (s:a5) (K:a5→Prop):Prop :=
 ∃ acc aF,hl P acc∧(∀ C,c' P C→hO C acc→eJ P C lo ops ops.toList as s=some aF)∧K aF
def Ez (lo:Nat) (ops:Array Oper) (as:List b5) (p:Nat) (s:a5) (K:a5→Prop):Prop :=
 ∃ acc s1 s2,hl P acc∧(∀ C,c' P C→hO C acc→cw P C lo ops as (List.range ops.size) s=some s1∧cw P C lo ops as (fh ops.size p (p+1)) s=some s2)∧K s1∧K s2
def fw (f:a5→(cB→a5→Prop)→Prop):Nat→a5→(cB→a5→Prop)→Prop
 | 0,_,_=>False
 | n+1,s,Q=>f s fun e aF=>match e with
   | .normal=>fw f n aF Q
   | e=>Q e aF
def c3 (A:c8) (fn:FuncId) (lo:Nat) (rl:Option Nat):Code→Nat→a5→(cB→a5→Prop)→Prop
 | .skip,_,s,Q=>Q .normal s
 | .region id ops draw,_,s,Q=>match j_ A id draw with
   | some p=>Ez P lo ops (A.ops.getD id []) p (eY A.h_ id s) (Q .normal)
   | none=>match draw with
     | true=>Ey P lo ops (A.ops.getD id []) (eY A.h_ id s) (Q .normal)
     | false=>runN P lo ops ops.toList (A.ops.getD id []) (eY A.h_ id s) (Q .normal)
 | .seq a b,aY,s,Q=>c3 A fn lo rl a aY s fun e aF=>match e with
   | .normal=>c3 A fn lo rl b aY aF Q
   | e=>Q e aF
 | .cond c a b,aY,s,Q=>(∃ t,aA s.T c=.bool t∧match t with
   | true=>c3 A fn lo rl a aY s Q
   | false=>c3 A fn lo rl b aY s Q)∨(aA s.T c=.dq∧c3 A fn lo rl a aY s Q∧c3 A fn lo rl b aY s Q)
 | .block id body,_,s,Q=>c3 A fn lo rl body id s fun e aF=>match e with
   | .exit bx=>if bx=id then Q .normal aF else Q (.exit bx) aF
   | e=>Q e aF
 | .loop body,aY,s,Q=>∃ n,fw (fun aF=>c3 A fn lo rl body aY (eY A.h9 aY aF)) n s Q
 | .exit id,_,s,Q=>Q (.exit id) s
 | .ret,_,s,Q=>Q .ret s
 | .scope body,aY,s,Q=>c3 A fn lo rl body aY s Q
 | .label _,_,s,Q=>Q .normal s
 | .rangeFunc f params assign body,aY,s,Q=>∃ C e aF,c' P C∧exec P A C fn lo 0 rl (.rangeFunc f params assign body) aY s=some (e,aF)∧Q e aF
 | _,_,_,_=>False
end
section
variable {P:Program} {B N:Nat} {J:List Nat} {w:World} {H:List au} {U:Nat→Option aI} {S:Nat→Nat→Prop}
theorem Fz {F:Fence} (bB:ek F) {lo:Nat} {ops:Array Oper} {o:Oper} {an:b5} {s:a5} {K':a5→Prop} (h:iw P lo ops o an s K') {a:Act} (aK:ct B N U J S w s a)
  {rest:List Oper} {Q:Exit→Act→World→Prop} (fE:∀ aF,K' aF→∀ aM w',Step B N U J S w aF aM w'→wpListIn F 0 P ops Q rest aM w'):wpListIn F 0 P ops Q (o::rest) a w:=by
 rcases h with ⟨C,aF,bt,h,av⟩ | h
 ·unfold dv at h;unfold wpListIn;split at h
  ·rename_i hw;rw [k9 aK hw];simp only [if_true];exact xN bB bt h aK fun aM w' ai=>fE aF av aM w' ai
  ·rename_i hw;rw [k9 aK hw];simp only [tM,if_false];simp only [Option.some.injEq] at h;subst h;exact ⟨fun f _=>bB.fn f,fE _ av _ _ (Step.here (aK.skip o.dst))⟩
  ·simp at h
 ·have aO:o.guard=none:=by obtain ⟨_,_,_,_,_,_,_,_,aO,_⟩:=h;exact aO
  unfold wpListIn;have hw:Region.wanted o (yielded ops a.tmps)=true:=by unfold Region.wanted;rw [aO]
  rw [hw];simp only [if_true];exact DT bB h aK fun aF av aM w' ai=>fE aF av aM w' ai
theorem As {F:Fence} (bB:ek F) {lo:Nat} {ops:Array Oper} {K':a5→Prop} {Q:Exit→Act→World→Prop} :
  ∀ (rest:List Oper) (as:List b5) (s:a5) (a:Act) (w:World) (U:Nat→Option aI) (J:List Nat) (S:Nat→Nat→Prop),runN P lo ops rest as s K'→ct B N U J S w s a →
    (∀ aF,K' aF→∀ aM w',Step B N U J S w aF aM w'→Q .normal aM w')→wpListIn F 0 P ops Q rest a w
 | [],as,s,a,w,U,J,S,h,aK,bl=>bl s h a w (Step.here aK)
 | o::rest,as,s,a,w,U,J,S,h,aK,bl=>by
   refine Fz bB h aK fun aF av aM w' ai=>?_;obtain ⟨b2,cQ,a4,aJ,aP,b'⟩:=ai;exact As bB rest as.tail aF aM w' b2 cQ a4 av b' fun EK CB gP hk dO=>bl EK CB gP hk (dO.trans aJ aP)
theorem Dr {F:Fence} {c:Code} {f:a5→(cB→a5→Prop)→Prop} {cG:cB→a5→Prop} {Q:Exit→Act→World→Prop} {s:a5} {a:Act} {n:Nat}
  (h:fw f n s cG) (aK:ct B N U J S w s a) (bl:∀ e aF,cG e aF→∀ aM w',Step B N U J S w aF aM w'→Q (toExit e) aM w')
  (kq:∀ (s1:a5) (ou:cB→a5→Prop),f s1 ou→∀ (lj:Exit→Act→World→Prop) (aB:Act) (bC:World),(∀ l a w,lj (.goto l) a w→Q (.goto l) a w)→Step B N U J S w s1 aB bC →
   (∀ e s2,ou e s2→∀ aM w',Step B N U J S w s2 aM w'→lj (toExit e) aM w')→c.wpIn F 0 P lj aB bC):(Code.loop c).wpIn F 0 P Q a w:=by
 classical
 let Inv:Nat→Act→World→Prop:=fun n aM w'=>∃ s1,fw f n s1 cG∧Step B N U J S w s1 aM w'
 let gl:Act→World→Nat:=fun aM w'=>if h:∃ n,Inv n aM w' then Classical.choose (kk h) else 0
 have mf:∀ aM w',(∃ n,Inv n aM w')→Inv (gl aM w') aM w'∧∀ m,Inv m aM w'→gl aM w'≤m:=fun aM w' h=>by
  have:gl aM w'=Classical.choose (kk h):=by simp only [gl,dif_pos h]
  rw [this];exact vA (kk h)
 refine wpIn_loop (fun aM w'=>∃ n,Inv n aM w') gl ⟨n,s,h,Step.here aK⟩ fun aB bC kn=>?_;obtain ⟨⟨s1,ad,gA⟩,_⟩:=mf aB bC kn;cases aN:gl aB bC with
 | zero=>rw [aN] at ad;exact ad.elim
 | succ m =>
   rw [aN] at ad;simp only [fw] at ad;refine kq s1 _ ad _ aB bC (fun l a w h=>h) gA fun e s2 av aM w' dO=>?_;cases e with
   | normal =>
     have hinv:Inv m aM w':=⟨s2,av,dO⟩;exact ⟨⟨m,hinv⟩,Nat.lt_succ_of_le ((mf aM w' ⟨m,hinv⟩).2 m hinv)⟩
   | ret=>exact bl .ret s2 av aM w' dO
   | exit id=>exact bl (.exit id) s2 av aM w' dO
theorem oi (dJ:P.follows .mixedOrders=true) {A:c8} {fn:FuncId} {lo:Nat} {rl:Option Nat} :
  ∀ (c:Code) (aY:Nat) (s:a5) (K:cB→a5→Prop),c3 P A fn lo rl c aY s K→codeOk A c=true →
    ∀ (F:Fence) (Q:Exit→Act→World→Prop) (B N:Nat) (J:List Nat) (w:World) (U:Nat→Option aI) (S:Nat→Nat→Prop) (a:Act),jh F rl J→(∀ l a w,¬ Q (.goto l) a w) →
      ct B N U J S w s a→(∀ e aF,K e aF→∀ aM w',Step B N U J S w aF aM w'→Q (toExit e) aM w')→c.wpIn F 0 P Q a w:=by
 intro c
 induction c with
 | skip=>intro aY s K h _ F Q B N J w U S a bB aO aK bl;exact wpIn_skip (bl _ _ h a w (Step.here aK))
 | label l=>intro aY s K h _ F Q B N J w U S a bB aO aK bl;exact wpIn_label (bl _ _ h a w (Step.here aK))
 | ret=>intro aY s K h _ F Q B N J w U S a bB aO aK bl;exact wpIn_ret (bl _ _ h a w (Step.here aK))
 | exit id=>intro aY s K h _ F Q B N J w U S a bB aO aK bl;exact wpIn_exit (bl _ _ h a w (Step.here aK))
 | goto l=>intro aY s K h;exact h.elim
 | refuse y=>intro aY s K h;exact h.elim
 | region id ops draw =>
   intro aY s K h bO F Q B N J w U S a bB aO aK bl;simp only [c3] at h;simp only [codeOk,xm] at bO;split at h
   ·rename_i p kE;rw [kE] at bO;simp only [sx,tC] at bO;cases draw with
    | false=>simp [j_] at kE
    | true =>
      obtain ⟨acc,s1,s2,hs,al,CC,po⟩:=h;obtain ⟨C,bt,ch⟩:=oz hs;obtain ⟨lb,ld⟩:=al C bt ch;exact Ef bB.lF dJ bt bO.1 bO.2 lb ld (aK.cD _ _) fun aF g1 aM w' ai=>by
       rcases g1 with rfl | rfl
       ·exact bl _ _ CC aM w' ai
       ·exact bl _ _ po aM w' ai
   rename_i kE;rw [kE] at bO;cases draw with
   | true =>
     obtain ⟨acc,aF,hs,al,av⟩:=h;obtain ⟨C,bt,ch⟩:=oz hs;exact z0 bB.lF dJ bt (fun _=>by simpa using bO) (al C bt ch) (aK.cD _ _) fun aM w' ai=>bl _ _ av aM w' ai
   | false=>exact wpIn_region_list (As bB.lF ops.toList _ _ a w U J S h (aK.cD _ _) fun aF av aM w' ai=>bl _ _ av aM w' ai)
 | seq x y nD pR =>
   intro aY s K h bO F Q B N J w U S a bB aO aK bl;simp only [codeOk,sx] at bO;refine wpIn_seq (nD _ _ _ h bO.1 F _ B N J w U S a bB (fun l a w=>aO l a w) aK fun e s1 av aM w' ai=>?_);cases e with
   | normal =>
     obtain ⟨b2,cQ,a4,aJ,aP,b'⟩:=ai;exact pR _ _ _ av bO.2 F Q B N cQ w' b2 a4 aM (bB.ext aJ) aO b' fun e s2 po gP hk dO=>bl e s2 po gP hk (dO.trans aJ aP)
   | ret=>exact bl _ _ av aM w' ai
   | exit id=>exact bl _ _ av aM w' ai
 | cond x t f nC nB =>
   intro aY s K h bO F Q B N J w U S a bB aO aK bl;simp only [codeOk,sx] at bO;rcases h with ⟨b,ag,h⟩ | ⟨ag,ad,af⟩
   ·have aj:=aK.aA x;rw [ag] at aj;cases b with
    | true=>exact wpIn_cond_true aj.hW (nC _ _ _ h bO.1 F Q B N J w U S a bB aO aK bl)
    | false=>exact wpIn_cond_false aj.hW (nB _ _ _ h bO.2 F Q B N J w U S a bB aO aK bl)
   ·have aj:=aK.aA x;rw [ag] at aj;obtain ⟨b,aj⟩:=aj.Bu;cases b with
    | true=>exact wpIn_cond_true aj (nC _ _ _ ad bO.1 F Q B N J w U S a bB aO aK bl)
    | false=>exact wpIn_cond_false aj (nB _ _ _ af bO.2 F Q B N J w U S a bB aO aK bl)
 | block id c a_ =>
   intro aY s K h bO F Q B N J w U S a bB aO aK bl;refine wpIn_block ?_;refine a_ _ _ _ h bO F _ B N J w U S a bB (fun l a w=>aO l a w) aK fun e s1 av aM w' ai=>?_;cases e with
   | normal=>exact bl _ _ av aM w' ai
   | ret=>exact bl _ _ av aM w' ai
   | exit bx =>
     simp only at av;by_cases aE:bx=id
     ·simp only [aE,if_true] at av;simp only [toExit,Exit.inBlock,aE,if_true];exact bl _ _ av aM w' ai
     ·simp only [aE,if_false] at av;simp only [toExit,Exit.inBlock,aE,if_false];exact bl _ _ av aM w' ai
 | loop c a_ =>
   intro aY s K h bO F Q B N J w U S a bB aO aK bl;obtain ⟨n,h⟩:=h;refine Dr h aK bl fun s1 ou ad lj aB bC CU ai fE=>?_;obtain ⟨b2,cQ,a4,aJ,aP,b'⟩:=ai;exact a_ _ _ _ ad bO F lj B N cQ bC b2 a4 aB (bB.ext aJ) (fun l a w h=>aO l a w (CU l a w h)) (b'.cD _ _) fun e s2 av aM w' dO=>fE e s2 av aM w' (dO.trans aJ aP)
 | scope c a_ =>
   intro aY s K h bO F Q B N J w U S a bB aO aK bl;exact Bb (a_ _ _ _ h bO F Q B N J w U S a bB aO aK bl) aO
 | rangeFunc f params assign body _ _ =>
   intro aY s K h bO F Q B N J w U S a bB aO aK bl;obtain ⟨C,e,aF,bt,al,av⟩:=h;exact na bt dJ _ _ _ _ _ al bO F Q B N J w U S a bB aO aK fun aM w' ai=>bl _ _ av aM w' ai
def ji (H H':List au):Prop:=H'.length=H.length∧∀ (id:Nat) (o:au),H'[id]?=some o→o=.dead∨H[id]?=some o
theorem ji.refl (H:List au):ji H H:=⟨rfl,fun _ _ h=>.inr h⟩
theorem aL.nc {H':List au} (ah:aL B U J S w H) (h:ji H H'):aL B U J S w H' :=
 ⟨by rw [h.1];exact ah.cE,fun id o aq=>by
  rcases h.2 id o aq with rfl | aX
  ·trivial
  ·exact ah.obj id o aX,ah.cf,ah.base,ah.cX⟩
theorem a1.nc {H1 H':List au} {r:I} {v:Value} {w':World} (h:ji H1 H') (aC:a1 B U J S w H1 r v w'):a1 B U J S w H' r v w':=by
 obtain ⟨bn,cg,bH,a,b,c,d⟩:=aC;exact ⟨bn,cg,bH,a,b,c.nc h,d⟩
theorem Ea (dJ : P.follows .mixedOrders = true) {k : Nat} {f : Func} {c : Code} (aQ : P.funcs[k]? = some f) (ag : f.body = some c) (aN : f.name ≠ "runtime.NumGoroutine") {A : c8} (bO : codeOk A c = true)
  {args:List I} {v:I} (aC:cq 8 v=true)
  (h:c3 P A k 0 none c 0 ⟨args++List.replicate (f.ntmps-args.length) .junk,[]⟩ fun e s=>(e=.normal∨e=.ret)∧∃ vs r,fg P s.H s.T f.results.toList=some vs∧bJ s.H 0 s.H.length 0 8 (hb vs)=some r∧(r=v∨r.settle=v)):lh P k args v:=by
 refine ⟨⟨ba.refl _ _,⟨f,aQ,by simp [ag],aN⟩,fun B U J S w xs ah _ ae=>?_⟩,aC⟩;refine callsIn_of_wp_marks aQ ag trivial ?_;have aK:=xM ah ae f.ntmps;have db:=(oe ah).1;refine oi dJ c 0 _ _ h bO Fence.wide _ B w.heap.size J w (hK U) S _ (.inl ⟨rfl,rfl⟩) (fun l a w aO=>aO.elim) aK fun e s av aM w' ai=>?_;obtain ⟨he,vs,r,aj,Cs,ei⟩:=av;obtain ⟨b2,cQ,a4,aJ,aP,b'⟩:=ai;have iK:LeavesInM Fence.wide 0 P f aM.tmps (fv B U J S w [] v) aM.defers .returning w':=by
  refine nG (U:=b2) (S:=a4) (J:=cQ) (B:=B) (H:=s.H) (lg:=U) (S0:=S) (w0:=w) aM.defers w' b'.M.2.1 b'.M.2.2 (db.trans aP) b'.H fun bT du dm mi mj=>?_
  have bX:a9 .slot b2 cQ a4 bT s.T aM.tmps.toList:=⟨b'.T.len,fun i u v hu ae=>(b'.T.rel i u v hu ae).mono (Ext.refl _) (fun b o h=>⟨h,dm b o h⟩),fun i u v hu ae =>
   (b'.T.own i u v hu ae).mono (Ext.refl _) (fun b o h=>⟨h,dm b o h⟩) fun b ag=>⟨ag,du b _ ag,fun _ h=>h⟩⟩
  obtain ⟨x,q1,aW⟩:=xq mj bX aj;have nt:=xh ah (fun id aE=>by simp at aE) Cs (a1.after aJ mi aW);refine ⟨x,q1,?_⟩;rcases ei with rfl | ei
  ·exact nt
  ·cases r with
   | ay cells len gx =>
     cases gx with
     | uniq z=>simp only [I.settle] at ei;subst ei;exact nt.settle
     | _=>simp only [I.settle] at ei;subst ei;exact nt
   | _=>simp only [I.settle] at ei;subst ei;exact nt
 rcases he with rfl | rfl
 ·exact iK
 ·exact iK
theorem Gz (dJ : P.follows .mixedOrders = true) {k : Nat} {f : Func} {c : Code} (aQ : P.funcs[k]? = some f) (ag : f.body = some c) (aN : f.name ≠ "runtime.NumGoroutine") {A : c8} (bO : codeOk A c = true)
  {lo:Nat} {args:List I} {H H':List au} {r:I} (ak:ba lo H H')
  (h:c3 P A k lo none c 0 ⟨args++List.replicate (f.ntmps-args.length) .junk,H⟩ fun e s=>(e=.normal∨e=.ret)∧ji s.H H'∧∃ vs,fg P s.H s.T f.results.toList=some vs∧hb vs=r):Sem P (.fn k) args H lo r H':=by
 refine ⟨ak,⟨f,aQ,by simp [ag],aN⟩,fun B U J S w xs ah _ ae=>?_⟩;refine callsIn_of_wp_marks aQ ag trivial ?_;have aK:=xM ah ae f.ntmps;have db:=(oe ah).1;refine oi dJ c 0 _ _ h bO Fence.wide _ B w.heap.size J w (hK U) S _ (.inl ⟨rfl,rfl⟩) (fun l a w aO=>aO.elim) aK fun e s av aM w' ai=>?_;obtain ⟨he,ks,vs,aj,rfl⟩:=av;obtain ⟨b2,cQ,a4,aJ,aP,b'⟩:=ai;have iK:LeavesInM Fence.wide 0 P f aM.tmps (fv B U J S w H' (hb vs)) aM.defers .returning w':=by
  refine nG (U:=b2) (S:=a4) (J:=cQ) (B:=B) (H:=s.H) (lg:=U) (S0:=S) (w0:=w) aM.defers w' b'.M.2.1 b'.M.2.2 (db.trans aP) b'.H fun bT du dm mi mj=>?_
  have bX:a9 .slot b2 cQ a4 bT s.T aM.tmps.toList:=⟨b'.T.len,fun i u v hu ae=>(b'.T.rel i u v hu ae).mono (Ext.refl _) (fun b o h=>⟨h,dm b o h⟩),fun i u v hu ae =>
   (b'.T.own i u v hu ae).mono (Ext.refl _) (fun b o h=>⟨h,dm b o h⟩) fun b ag=>⟨ag,du b _ ag,fun _ h=>h⟩⟩
  obtain ⟨v,q1,aW⟩:=xq mj bX aj;exact ⟨v,q1,(a1.after aJ mi aW).nc ks⟩
 rcases he with rfl | rfl
 ·exact iK
 ·exact iK
end
end Go.Proofs.YtfakoboiahbhaaaGreat.Ab


namespace Go.Proofs.YtfakoboiahbhaaaGreat.Ab
open Go
inductive iv where
 | sl (t:Nat) | hI (t:Nat) | hL (t:Nat) | iC (v:I)
inductive e4 where
 | one | str (s:Nat) | arr (s:Nat)
inductive hS where
 | int (k:IntKind) | str (n:Nat)
inductive hT where
 | iS | nil (z:Nat) | A5
 | pV (a:e4) | za (a:e4) | take | A4 | AY | st (s:Nat) | box | x8 | alloc (z:List I)
 | zx (z:List I) (s bytes:Nat)
 | zw (z:List I) (s bytes:Nat)
 | w8 | zc (n:Nat) | min | max
 | app (s bytes:Nat)
 | x2 (s bytes:Nat)
 | call (mode:Nat)
 | pick | build (z:List I) (bh:List (Nat×Nat)) | x_ (len s:Nat) (z:List I) (ix:List Nat) | x9 (len s:Nat) (z:List I) (ix:List Nat)
 | zA | bin (op:BinOp) | oD (neq:Bool) | un (op:UnOp) | conv (k:IntKind)
 | zu (f:FuncId) (n m:Nat)
 | AW (s:Nat) (l h m:Bool)
 | zv | zo (fc:hS) | zn (fc:hS) (ok:Bool) (zero:Option I) | zm (fc:hS) | An | yg | zd
 | oR (off:Nat) | yo (off:Nat) (a:e4) | pO (s:Nat) | y2 (len s:Nat) | ext (i:Nat)
 | other (o:Oper) (mode:Nat)
structure cx where
 dst:Option Nat
 Fy:List iv
 guard:Option (Nat×Bool)
 ip:Option Nat
 k:hT
inductive eA where
 | skip
 | j2 (draw:Bool) (l:List cx)
 | seq (a b:eA)
 | cond (c:iv) (a b:eA)
 | block (id:Nat) (c:eA)
 | loop (cD:Option (List Bool)) (c:eA)
 | exit (id:Nat)
 | ret
 | Am (f:iv) (params:List Nat) (assign body:Code)
 | zB (it:Nat) (dst:Option Nat) (l:List cx)
 | two (pre:List cx) (a b:cx) (post:List cx)
noncomputable section
def lR (v:I) (K:I→Prop):Prop:=match v with
 | .int k n=>K (.int k n)
 | .bool b=>K (.bool b)
 | .ay c n .shared=>K (.ay c n .shared)
 | .ay c n .full=>K (.ay c n .full)
 | .ay c n (.own z)=>K (.ay c n (.own z))
 | .ay c n (.uniq z)=>K (.ay c n (.uniq z))
 | .agg cs=>K (.agg cs)
 | .ptr id off=>K (.ptr id off)
 | .bU cs=>K (.bU cs)
 | .ref id off n cap sz=>K (.ref id off n cap sz)
 | .func f a b=>K (.func f a b)
 | .yield id=>K (.yield id)
 | .map id=>K (.map id)
 | .tuple vs=>K (.tuple vs)
 | .junk=>K .junk
 | .eD=>K .eD
 | .str s=>K (.str s)
 | .raw c n z=>K (.raw c n z)
 | .cl i g n z=>K (.cl i g n z)
 | .dq=>K .dq
theorem nj (v:I) (K:I→Prop):lR v K=K v:=by
 unfold lR;split <;> rfl
def hq:List I→Nat→(I→Prop)→Prop
 | [],_,K=>K .junk
 | h::_,0,K=>K h
 | _::t,n+1,K=>hq t n K
theorem iE:∀ (T:List I) (t:Nat) (K:I→Prop),hq T t K=K (c5 T t)
 | [],t,K=>rfl
 | h::T,0,K=>rfl
 | h::T,n+1,K=>by rw [hq,iE T n K];rfl
def i':List I→Nat→I→(List I→Prop)→Prop
 | [],_,_,K=>K []
 | _::t,0,v,K=>K (v::t)
 | h::t,n+1,v,K=>i' t n v fun jc=>K (h::jc)
theorem j6:∀ (T:List I) (t:Nat) (v:I) (K:List I→Prop),i' T t v K=K (gK T t v)
 | [],t,v,K=>rfl
 | h::T,0,v,K=>rfl
 | h::T,n+1,v,K=>by rw [i',j6 T n v];rfl
def mF (T:List I) (d:Option Nat) (v:I) (K:List I→Prop):Prop:=match d with
 | some d=>i' T d v K
 | none=>K T
theorem xi (T:List I) (d:Option Nat) (v:I) (K:List I→Prop):mF T d v K=K (put T d v):=by
 cases d with
 | none=>rfl
 | some d=>exact j6 T d v K
def kH:List Bool→List I→(List I→Prop)→Prop
 | b::bs,v::vs,K=>kH bs vs fun dw=>match b with
   | true=>K (v::dw)
   | false=>K (.junk::dw)
 | [],vs,K=>K vs
 | _::_,[],K=>K []
theorem y8:∀ (bs:List Bool) (vs:List I) (K:List I→Prop),kH bs vs K=K (eT bs vs)
 | [],vs,K=>by simp [kH,eT]
 | b::bs,[],K=>by simp [kH,eT]
 | b::bs,v::vs,K=>by rw [kH,y8 bs vs];cases b <;> simp [eT]
def ka (v:I) (K:I→Prop):Prop:=match v with
 | .ay c n (.own _)=>K (.ay c n .shared)
 | .ay c n (.uniq _)=>K (.ay c n .shared)
 | .raw _ _ _=>K .junk
 | .cl id _ n z=>K (.ref id 0 n none z)
 | v=>K v
theorem kb (v:I) (K:I→Prop):ka v K=K v.view:=by
 cases v with
 | ay c n k=>cases k <;> rfl
 | _=>rfl
def AX (T:List I) (t:Nat) (v:I) (K:I→List I→Prop):Prop:=match v with
 | .ay c n (.uniq z)=>i' T t (.ay c n (.own z)) fun fi=>K (.ay c n .shared) fi
 | .ay c n (.own _)=>K (.ay c n .shared) T
 | .raw _ _ _=>K .junk T
 | .cl id _ n z=>K (.ref id 0 n none z) T
 | v=>K v T
theorem Fx (T:List I) (t:Nat) (v:I) (K:I→List I→Prop):AX T t v K=K v.view (fP T t v):=by
 cases v with
 | ay c n k =>
   cases k with
   | uniq z=>exact j6 _ _ _ _
   | _=>rfl
 | _=>rfl
def gf:List iv→List I→(List I→List I→Prop)→Prop
 | [],T,K=>K [] T
 | .iC v::r,T,K=>gf r T fun vs a7=>K (v::vs) a7
 | .hI t::r,T,K=>hq T t fun v=>i' T t .junk fun fi=>gf r fi fun vs a7=>K (v::vs) a7
 | .hL t::r,T,K=>hq T t fun v=>ka v fun v=>i' T t .junk fun fi=>gf r fi fun vs a7=>K (v::vs) a7
 | .sl t::r,T,K=>hq T t fun v=>AX T t v fun v fi=>gf r fi fun vs a7=>K (v::vs) a7
def hE (ec:Bool):List Bool→List Operand→List iv
 | _,[]=>[]
 | ts,.tmp t::rest=>(match ts.headD false,ec with | true,true=>.hI t | true,false=>.hL t | false,_=>.sl t)::hE ec ts.tail rest
 | ts,x::rest=>.iC (match ec with | true=>aA [] x | false=>(aA [] x).view)::hE ec ts.tail rest
theorem iZ (ec:Bool):∀ (xs:List Operand) (ts:List Bool) (T:List I) (K:List I→List I→Prop),gf (hE ec ts xs) T K=K (fr ec (rd T ts xs).1) (rd T ts xs).2
 | [],ts,T,K=>by cases ec <;> simp [hE,gf,rd,fr]
 | .tmp t::rest,ts,T,K=>by
   simp only [hE];cases bI:ts.headD false with
   | true =>
     cases ec with
     | true =>
       simp only [gf,iE,j6,rd,bI,iZ true rest];rfl
     | false =>
       simp only [gf,iE,j6,kb,rd,bI,iZ false rest];rfl
   | false =>
     simp only [gf,iE,Fx,rd,bI,iZ ec rest];cases ec
     ·simp only [fr,se,I.kc (I.dh _)]
     ·rfl
 | .const v::rest,ts,T,K=>by
   simp only [hE,gf,rd,iZ ec rest];cases ec <;> rfl
 | .func v::rest,ts,T,K=>by
   simp only [hE,gf,rd,iZ ec rest];cases ec <;> rfl
 | .global v::rest,ts,T,K=>by
   simp only [hE,gf,rd,iZ ec rest];cases ec <;> rfl
end
end Go.Proofs.YtfakoboiahbhaaaGreat.Ab


namespace Go.Proofs.YtfakoboiahbhaaaGreat.Ab
open Go
noncomputable section
def eR {α:Type}:List α→Nat→(α→Prop)→Prop
 | [],_,_=>False
 | h::_,0,K=>K h
 | _::t,n+1,K=>eR t n K
theorem ff {α:Type}:∀ {l:List α} {n:Nat} {K:α→Prop},eR l n K→∃ x,l[n]?=some x∧K x
 | [],_,_,h=>h.elim
 | h::_,0,_,k=>⟨h,rfl,k⟩
 | _::t,n+1,K,k=>by simpa using ff (l:=t) (n:=n) (K:=K) k
theorem DU {α:Type}:∀ {l:List α} {n:Nat} {x:α} {K:α→Prop},l[n]?=some x→K x→eR l n K
 | [],_,_,_,h,_=>by simp at h
 | h::_,0,_,_,e,k=>by simp at e;subst e;exact k
 | _::t,n+1,_,K,e,k=>DU (l:=t) (n:=n) (by simpa using e) k
def je:List I→Nat→I→(List I→Prop)→Prop
 | [],_,_,_=>False
 | _::t,0,v,K=>K (v::t)
 | h::t,n+1,v,K=>je t n v fun jc=>K (h::jc)
theorem k7:∀ {l:List I} {n:Nat} {v:I} {K:List I→Prop},je l n v K→n<l.length∧K (l.set n v)
 | [],_,_,_,h=>h.elim
 | _::_,0,_,_,k=>⟨by simp,k⟩
 | h::t,n+1,v,K,k=>by
   obtain ⟨ad,af⟩:=k7 (l:=t) (n:=n) k;exact ⟨by simpa using ad,af⟩
theorem FI:∀ {l:List I} {n:Nat} {v:I} {K:List I→Prop},n<l.length→K (l.set n v)→je l n v K
 | [],_,_,_,h,_=>by simp at h
 | _::_,0,_,_,_,k=>k
 | h::t,n+1,v,K,e,k=>FI (l:=t) (n:=n) (by simpa using e) k
def mQ:List I→Nat→List I→(List I→Prop)→Prop
 | l,_,[],K=>K l
 | l,n,v::vs,K=>je l n v fun l'=>mQ l' (n+1) vs K
theorem oh:∀ {vs l:List I} {n:Nat} {K:List I→Prop},mQ l n vs K→(n+vs.length≤l.length∨vs=[])∧K (setCells n vs l)
 | [],_,_,_,h=>⟨.inr rfl,h⟩
 | v::vs,l,n,K,h=>by
   obtain ⟨ad,af⟩:=k7 h;obtain ⟨aG,a6⟩:=oh af;refine ⟨.inl ?_,a6⟩;rcases aG with aG | rfl
   ·simp only [td] at aG;simp only [sH];omega
   ·simp only [sH,uF];omega
def nX:Nat→List I→Nat→(List I→Prop)→Prop
 | 0,_,_,K=>K []
 | s+1,l,off,K=>eR l off fun v=>ka v fun v=>lR v fun v=>nX s l (off+1) fun vs=>K (v::vs)
theorem zV:∀ {s:Nat} {l:List I} {off:Nat} {K:List I→Prop},nX s l off K→(off+s≤l.length∨s=0)∧K (((l.drop off).take s).map I.view)
 | 0,l,off,K,h=>⟨.inr rfl,by simpa [nX] using h⟩
 | s+1,l,off,K,h=>by
   obtain ⟨v,ae,h⟩:=ff h;rw [kb,nj] at h;obtain ⟨ad,af⟩:=zV h;have aU:=(sa.1 ae).1;refine ⟨.inl (by rcases ad with ad | rfl <;> omega),?_⟩;have aZ:l.drop off=v::l.drop (off+1):=by
    rw [sT aU,(sa.1 ae).2]
   rw [aZ];simpa using af
def nY:Nat→List I→Nat→(List I→Prop)→Prop
 | 0,_,_,K=>K []
 | s+1,l,off,K=>eR l off fun v=>lR v fun v=>nY s l (off+1) fun vs=>K (v::vs)
theorem zW:∀ {s:Nat} {l:List I} {off:Nat} {K:List I→Prop},nY s l off K→(off+s≤l.length∨s=0)∧K ((l.drop off).take s)
 | 0,l,off,K,h=>⟨.inr rfl,by simpa [nY] using h⟩
 | s+1,l,off,K,h=>by
   obtain ⟨v,ae,h⟩:=ff h;rw [nj] at h;obtain ⟨ad,af⟩:=zW h;have aU:=(sa.1 ae).1;refine ⟨.inl (by rcases ad with ad | rfl <;> omega),?_⟩;have aZ:l.drop off=v::l.drop (off+1):=by
    rw [sT aU,(sa.1 ae).2]
   rw [aZ];simpa using af
def mn (a:e4) (l:List I) (off:Nat) (K:I→Prop):Prop:=match a with
 | .one=>eR l off fun v=>ka v K
 | .str s=>nX s l off fun vs=>K (.agg vs)
 | .arr s=>off+s≤l.length∧K (.agg (((l.drop off).take s).map I.view))
def zN (a:e4) (l:List I) (off:Nat) (K:I→Prop):Prop:=match a with
 | .one=>eR l off fun v=>ka v K
 | .str s=>nY s l off fun vs=>K (.agg vs)
 | .arr s=>off+s≤l.length∧K (.agg ((l.drop off).take s))
def gQ (P:Program) (t:TypeId):Option e4:=match dK P t,P.underlying t with
 | true,some (.struct _)=>(match bS P t with | some (s+1)=>some (.str (s+1)) | _=>none)
 | true,_=>(bS P t).map .arr
 | false,some _=>some .one
 | false,none=>none
section
variable {P:Program}
theorem oA {t:TypeId} {a:e4} (h:gQ P t=some a):(a=.one∧dK P t=false∧∃ d,P.underlying t=some d)∨(∃ s,(a=.str (s+1)∧bS P t=some (s+1)∨a=.arr s∧bS P t=some s)∧dK P t=true):=by
 unfold gQ at h;split at h
 ·rename_i ad _;split at h
  ·rename_i s ai;cases h;exact .inr ⟨_,.inl ⟨rfl,ai⟩,ad⟩
  ·cases h
 ·rename_i ad _;simp only [rZ] at h;obtain ⟨s,ai,rfl⟩:=h;exact .inr ⟨s,.inr ⟨rfl,ai⟩,ad⟩
 ·rename_i d ad af;cases h;exact .inl ⟨rfl,ad,d,af⟩
 ·cases h
theorem nF {t:TypeId} {a:e4} (cd:gQ P t=some a) {l:List I} {off:Nat} {K:I→Prop} (h:mn a l off K):∃ v,eu P t l off=some v∧K v:=by
 rcases oA cd with ⟨rfl,ad,d,af⟩ | ⟨s,af,ad⟩
 ·obtain ⟨v,ae,h⟩:=ff h;rw [kb] at h;exact ⟨v.view,by simp [eu,ad,af,ae],h⟩
 ·rcases af with ⟨rfl,af⟩ | ⟨rfl,af⟩
  ·obtain ⟨aJ,aP⟩:=zV h;exact ⟨_,by simp only [eu,ad,af,r_];rw [if_pos (by omega)],aP⟩
  ·exact ⟨_,by simp only [eu,ad,af,r_];rw [if_pos h.1],h.2⟩
theorem D_ {t:TypeId} {a:e4} (cd:gQ P t=some a) {l:List I} {off:Nat} {K:I→Prop} (h:zN a l off K):∃ v,iz P t l off=some v∧K v.view:=by
 rcases oA cd with ⟨rfl,ad,d,af⟩ | ⟨s,af,ad⟩
 ·obtain ⟨v,ae,h⟩:=ff h;rw [kb] at h;exact ⟨v,by simp [iz,ad,af,ae],h⟩
 ·rcases af with ⟨rfl,af⟩ | ⟨rfl,af⟩
  ·obtain ⟨aJ,aP⟩:=zW h;exact ⟨_,by simp only [iz,ad,af,r_];rw [if_pos (by omega)],show K (I.view (.agg _)) from aP⟩
  ·exact ⟨_,by simp only [iz,ad,af,r_];rw [if_pos h.1],show K (I.view (.agg _)) from h.2⟩
end
def n_ (v:I) (K:I→Prop):Prop:=match v with
 | .ay c n (.uniq z)=>K (.ay c n (.own z))
 | v=>K v
theorem xJ (v:I) (K:I→Prop):n_ v K=K v.settle:=by
 cases v with
 | ay c n k=>cases k <;> rfl
 | _=>rfl
def kg (v:I) (mU:I→Prop) (mV:List I→Prop):Prop:=match v with
 | .agg bF=>mV bF
 | .junk=>False
 | .tuple _=>False
 | .raw _ _ _=>False
 | v=>mU v
theorem lA {v:I} {mU:I→Prop} {mV:List I→Prop} (h:kg v mU mV):(v.cells=some [v]∧mU v)∨∃ bF,v.cells=some bF∧v=.agg bF∧mV bF:=by
 cases v <;> first | exact .inl ⟨rfl,h⟩ | exact h.elim | exact .inr ⟨_,rfl,rfl,h⟩
def jx:List (Nat×Nat)→List I→List I→(List I→Prop)→Prop
 | [],[],cs,K=>K cs
 | (off,size)::bh,v::vs,cs,K=>kg v (fun v=>match Nat.beq size 1 with | true=>je cs off v fun cs=>jx bh vs cs K | false=>False) (fun bF=>match Nat.beq bF.length size,Nat.blt 0 size with | true,true=>mQ cs off bF fun cs=>jx bh vs cs K | _,_=>False)
 | _,_,_,_=>False
theorem kl {place:Nat→Option (Nat×Nat)}:∀ {ix:List Nat} {bh:List (Nat×Nat)} {vs cs:List I} {K:List I→Prop},jx bh vs cs K→ix.map place=bh.map some →
  ∃ c9,gq place cs (ix.zip vs)=some c9∧K c9
 | [],[],[],cs,K,h,_=>⟨cs,rfl,h⟩
 | i::ix,(off,size)::bh,v::vs,cs,K,h,aC=>by
   simp only [se,List.cons.injEq] at aC;obtain ⟨jL,ns⟩:=aC;simp only [jx] at h;simp only [List.zip_cons_cons,gq,jL];rcases lA h with ⟨ad,h⟩ | ⟨bF,ad,_,h⟩
   ·split at h
    ·rename_i af;have af:=ta af;obtain ⟨aG,h⟩:=k7 h;obtain ⟨c9,q1,aW⟩:=kl h ns;subst af;exact ⟨c9,by simp only [ad];rw [if_pos ⟨rfl,by omega⟩];exact q1,aW⟩
    ·exact h.elim
   ·split at h
    ·rename_i af a6;have af:=ta af;(have a6:0<size:=by simpa [tC] using a6);obtain ⟨aG,h⟩:=oh h;obtain ⟨c9,q1,aW⟩:=kl h ns;have bL:off+size≤cs.length:=by
      rcases aG with aG | aG
      ·omega
      ·rw [aG] at af;simp only [uF] at af;omega
     refine ⟨c9,?_,aW⟩;simp only [ad];rw [if_pos ⟨af,bL⟩];exact q1
    ·exact h.elim
 | [],_::_,_,_,_,_,aC=>by simp at aC
 | _::_,[],_,_,_,_,aC=>by simp at aC
 | [],[],_::_,_,_,h,_=>h.elim
 | _::_,_::_,[],_,_,h,_=>h.elim
def AL:BinOp→Bool
 | .shl=>true
 | .shr=>true
 | _=>false
theorem EX {op:BinOp} {k k':IntKind} (h:(decide (k=k') || AL op)=true):k=k'∨op=.shl∨op=.shr:=by
 rw [tH] at h;rcases h with h | h
 ·exact .inl (of_decide_eq_true h)
 ·cases op <;> first | exact .inr (.inl rfl) | exact .inr (.inr rfl) | cases h
def oB (op:BinOp) (k:IntKind) (a b:Int) (K:I→Prop):Prop:=match op with
 | .add=>K (.int k (k.wrap (a+b)))
 | .sub=>K (.int k (k.wrap (a-b)))
 | .mul=>K (.int k (k.wrap (a*b)))
 | .quo=>b≠0∧K (.int k (k.wrap (a.tdiv b)))
 | .rem=>b≠0∧K (.int k (a.tmod b))
 | .eql=>K (.bool (decide (a=b)))
 | .neq=>K (.bool (decide (a≠b)))
 | .lss=>K (.bool (decide (a<b)))
 | .leq=>K (.bool (decide (a≤b)))
 | .gtr=>K (.bool (decide (b<a)))
 | .geq=>K (.bool (decide (b≤a)))
 | .and=>K (.int k (k.wrap (BitVec.ofInt k.bits a &&& BitVec.ofInt k.bits b).toNat))
 | .or=>K (.int k (k.wrap (BitVec.ofInt k.bits a ||| BitVec.ofInt k.bits b).toNat))
 | .xor=>K (.int k (k.wrap (BitVec.ofInt k.bits a ^^^ BitVec.ofInt k.bits b).toNat))
 | .shl=>0≤b∧K (.int k (k.wrap (a*2 ^ (Nat.min b.toNat k.bits))))
 | .shr=>0≤b∧K (.int k (a.fdiv (2 ^ (Nat.min b.toNat k.bits))))
 | _=>False
section
variable {P:Program}
theorem Bm (op:BinOp) (t:TypeId) (k k':IntKind) (a b:Int):fj P op t (.int k a) (.int k' b)=match op with
  | .shl=>hn .shl k a b
  | .shr=>hn .shr k a b
  | op=>if k=k' then jo op k a b else none:=by cases op <;> rfl
theorem Bz {op:BinOp} {t:TypeId} {k k':IntKind} {a b:Int} {K:I→Prop} (av:k=k'∨op=.shl∨op=.shr) (h:oB op k a b K):∃ v,fj P op t (.int k a) (.int k' b)=some v∧K v:=by
 rw [Bm];cases op <;> simp only [oB] at h <;> try exact h.elim
 case shl=>exact ⟨_,by simp only [hn];rw [if_neg (by omega)],h.2⟩
 case shr=>exact ⟨_,by simp only [hn];rw [if_neg (by omega)],h.2⟩
 all_goals (obtain rfl:k=k':=by rcases av with av | av | av <;> first | exact av | cases av)
 all_goals simp only [if_true,jo]
 case quo=>exact ⟨_,by rw [if_neg h.1],h.2⟩
 case rem=>exact ⟨_,by rw [if_neg h.1],h.2⟩
 case neq =>
  have e:(a != b)=decide (a≠b):=by by_cases jA:a=b <;> simp [jA]
  exact ⟨_,rfl,by rw [e];exact h⟩
 case eql=>exact ⟨_,rfl,h⟩
 all_goals exact ⟨_,rfl,h⟩
end
end
end Go.Proofs.YtfakoboiahbhaaaGreat.Ab


namespace Go.Proofs.YtfakoboiahbhaaaGreat.Ab
open Go
noncomputable section
def xC (v:I) (H:List au) (K:I→List au→Prop):Prop:=match v with
 | .ay cells len (.uniq z)=>(len≠0∧K (.ref H.length 0 len none z) (H++[.cells cells]))∨(len=0∧K (.ay cells len (.uniq z)) H)
 | .ay [] 0 .full=>K (.ay [] 0 .full) H
 | .ref id off len cap sz=>K (.ref id off len cap sz) H
 | _=>False
def xw (a:e4) (v:I) (H:List au) (K:I→List au→Prop):Prop:=match v with
 | .ptr id off=>eR H id fun o=>match o with | .cells l=>mn a l off fun v=>K v H | .grow l _ _=>mn a l off fun v=>K v H | _=>False
 | .bU cells=>mn a cells 0 fun v=>K v H
 | _=>False
def xA (lo:Nat) (v:I) (H:List au) (K:I→List au→Prop):Prop:=match v with
 | .ptr id off=>match Nat.ble lo id with
   | true=>eR H id fun o=>match o with
     | .cells l=>(eR l off fun v=>match v with | .ay c n (.own z)=>K (.ay c n (.own z)) (H.set id (.cells (l.set off (.ay c n .shared)))) | .ay c n .full=>K (.ay c n .full) H | .raw c n z=>K (.ay c n (.uniq z)) (H.set id (.cells (l.set off .junk))) | _=>False)
     | .grow l g cU=>(eR l off fun v=>match v with | .ay c n (.own z)=>K (.ay c n (.own z)) (H.set id (.grow (l.set off (.ay c n .shared)) g cU)) | .ay c n .full=>K (.ay c n .full) H | _=>False)
     | _=>False
   | false=>False
 | _=>False
def xB (lo:Nat) (v:I) (H:List au) (K:I→List au→Prop):Prop:=match v with
 | .ptr id off=>match Nat.ble lo id with
   | true=>eR H id fun o=>match o with | .cells l=>(eR l off fun v=>match v with | .raw c n z=>n≠0∧K (.ref H.length 0 n none z) (H.set id (.cells (l.set off (.ref H.length 0 n none z)))++[.cells c]) | .ay c n .full=>K (.ay c n .full) H | _=>False) | _=>False
   | false=>False
 | _=>False
def xz (lo:Nat) (p v:I) (H:List au) (K:I→List au→Prop):Prop:=match p with
 | .ptr id off=>match Nat.ble lo id with
   | true=>eR H id fun o=>match o with
     | .cells l=>(match v with | .ay c n (.uniq z)=>c.all gJ=true∧n≠0∧je l off (.raw c n z) fun l'=>K .junk (H.set id (.cells l')) | _=>False)
     | _=>False
   | false=>False
 | _=>False
def xy (lo s:Nat) (p v:I) (H:List au) (K:I→List au→Prop):Prop:=match p with
 | .ptr id off=>match Nat.ble lo id with
   | true=>eR H id fun o=>match o with
     | .cells l=>kg v (fun v=>match Nat.beq s 1 with | true=>n_ v fun v=>je l off v fun l'=>K .junk (H.set id (.cells l')) | false=>False) (fun bF=>match Nat.beq bF.length s,Nat.blt 0 s with | true,true=>mQ l off (bF.map I.settle) fun l'=>K .junk (H.set id (.cells l')) | _,_=>False)
     | .grow l g z=>kg v (fun v=>match Nat.beq s 1 with | true=>n_ v fun v=>je l off v fun l'=>K .junk (H.set id (.grow l' g z)) | false=>False) (fun bF=>match Nat.beq bF.length s,Nat.blt 0 s with | true,true=>mQ l off (bF.map I.settle) fun l'=>K .junk (H.set id (.grow l' g z)) | _,_=>False)
     | _=>False
   | false=>False
 | _=>False
def xu (v:I) (H:List au) (K:I→List au→Prop):Prop :=
 kg v (fun v=>n_ v fun v=>K (.ptr H.length 0) (H++[.cells [v]])) (fun bF=>K (.ptr H.length 0) (H++[.cells (bF.map I.settle)]))
def xv (v:I) (H:List au) (K:I→List au→Prop):Prop :=
 kg v (fun v=>v.plain=true∧K (.bU [v]) H) (fun bF=>bF.all I.plain=true∧K (.bU bF) H)
def xd:List I→Int→(Int→Prop)→Prop
 | [],a,K=>K a
 | .int _ b::r,a,K=>xd r (min a b) K
 | _::_,_,_=>False
def xc:List I→Int→(Int→Prop)→Prop
 | [],a,K=>K a
 | .int _ b::r,a,K=>xc r (max a b) K
 | _::_,_,_=>False
def xt (lo s bytes:Nat) (x y:I) (H:List au) (K:I→List au→Prop):Prop:=match y with
 | .ay new m _=>(new.length=m*s∧m*bytes≤140737488355328)∧match x with
   | .ay cells n .full=>(m≠0∧(n+m)*bytes≤140737488355328∧cells.length=n*s)∧K (.cl H.length (H.length+1) (n+m) s) (H++[.grow (cells++new) (H.length+1) s,.dead])
   | .ay cells n (.uniq z)=>(z=s∧m≠0∧(n+m)*bytes≤140737488355328)∧K (.cl H.length (H.length+1) (n+m) z) (H++[.grow (cells++new) (H.length+1) z,.dead])
   | .cl id gid n z=>match Nat.ble lo id with
     | true=>eR H id fun o=>match o with
       | .grow l g cU=>((g=gid∧cU=z∧z=s∧l.length=n*z∧0<m∧(n+m)*bytes≤140737488355328)∧K (.cl H.length (H.length+1) (n+m) z) (H.set id .dead++[.grow (l++new) (H.length+1) z,.dead])) ∨
         ((g=gid∧cU=z∧z=s∧n*z<l.length∧0<m∧(n+m)*bytes≤140737488355328)∧K (.cl H.length (H.length+1) (n+m) z) (H.set id .dead++[.grow (l.take (n*z)++new) (H.length+1) z,.dead]))
       | _=>False
     | false=>False
   | _=>False
 | _=>False
def Ak (z:List I) (s bytes:Nat) (a b:I) (H:List au) (K:I→List au→Prop):Prop:=match a,b with
 | .int _ n,.int _ c=>0≤n∧n≤c∧c.toNat*bytes≤140737488355328∧K (.ref H.length 0 n.toNat (some c.toNat) s) (H++[.cells (e0 c.toNat z)])
 | _,_=>False
def Aj (z:List I) (s bytes:Nat) (a b:I) (H:List au) (K:I→List au→Prop):Prop:=match a,b with
 | .int _ n,.int _ c=>n=c∧0≤n∧c.toNat*bytes≤140737488355328∧K (.ay (e0 c.toNat z) n.toNat (.uniq s)) H
 | _,_=>False
def Af (v:I) (H:List au) (K:I→List au→Prop):Prop:=match v with
 | .ay _ n _=>K (.int .i64 n) H
 | .ref _ _ n _ _=>K (.int .i64 n) H
 | _=>False
def n3 (s bytes:Nat) (x:I) (new:List I) (m:Nat) (H:List au) (K:I→List au→Prop):Prop:=new.length=m*s∧m*bytes≤140737488355328∧match x with
    | .ay cells n .shared=>m=0∧K (.ay cells n .shared) H
    | .ay cells n .full=>m≠0∧(n+m)*bytes≤140737488355328∧cells.length=n*s∧K (.ay (cells++new) (n+m) (.uniq s)) H
    | .ay cells n (.own z)=>z=s∧(n+m)*bytes≤140737488355328∧K (.ay (cells++new) (n+m) (.own z)) H
    | .ay cells n (.uniq z)=>z=s∧(n+m)*bytes≤140737488355328∧K (.ay (cells++new) (n+m) (.uniq z)) H
    | _=>False
def xr (s bytes:Nat) (x y:I) (H:List au) (K:I→List au→Prop):Prop:=match y with
 | .ay new m _=>n3 s bytes x new m H K
 | .ref id off m _ z=>eR H id fun o=>match o with
   | .cells l=>off+m*z≤l.length∧n3 s bytes x (((l.drop off).take (m*z)).map I.view) m H K
   | _=>False
 | _=>False
def xx (s:Nat) (l h m:Bool) (x:I) (vs:List I) (H:List au) (K:I→List au→Prop):Prop:=match x with
 | .ay cells n c=>match l,h,m,vs with
   | false,false,false,[]=>match c with
     | .uniq z=>K (.ay (cells.take (n*z)) n (.uniq z)) H
     | .shared=>K (.ay (cells.take (n*s)) n .shared) H
     | _=>False
   | true,false,false,[.int _ i]=>match c with
     | .own z=>(s=z∧0≤i∧i≤n)∧K (.ay (cells.drop (i.toNat*z)) (n-i.toNat) (.own z)) H
     | .shared | .uniq _=>(0≤i∧i≤n)∧K (.ay ((cells.drop (i.toNat*s)).take ((n-i.toNat)*s)) (n-i.toNat) .shared) H
     | _=>False
   | false,true,false,[.int _ j]=>match c with
     | .uniq z=>(0≤j∧j≤n)∧K (.ay (cells.take (j.toNat*z)) j.toNat (.uniq z)) H
     | .shared | .own _=>(0≤j∧j≤n)∧K (.ay (cells.take (j.toNat*s)) j.toNat .shared) H
     | _=>False
   | true,true,false,[.int _ i,.int _ j]=>match c with
     | .shared | .own _ | .uniq _=>(0≤i∧i≤j∧j≤n)∧K (.ay ((cells.drop (i.toNat*s)).take ((j.toNat-i.toNat)*s)) (j.toNat-i.toNat) .shared) H
     | _=>False
   | false,true,true,[.int _ j,.int _ k]=>(j=k∧0≤j∧j≤n)∧K (.ay (cells.take (j.toNat*s)) j.toNat .full) H
   | true,true,true,[.int _ i,.int _ j,.int _ k]=>(j=k∧0≤i∧i≤j∧j≤n)∧K (.ay ((cells.drop (i.toNat*s)).take ((j.toNat-i.toNat)*s)) (j.toNat-i.toNat) .full) H
   | _,_,_,_=>False
 | .ref id off n cap sz=>match l,h,m,vs with
   | true,false,false,[.int _ i]=>sz=s∧(0≤i∧i≤n)∧(i<n→K (.ref id (off+i.toNat*s) (n-i.toNat) (cap.map (·-i.toNat)) sz) H)∧(i=n→K (.ay [] 0 .shared) H)
   | false,true,false,[.int _ j]=>sz=s∧(0≤j∧j≤n∧0<n)∧K (.ref id off j.toNat cap sz) H
   | _,_,_,_=>False
 | .cl id gid n z=>match l,h,m,vs with
   | false,true,false,[.int _ j]=>(0≤j∧j≤n)∧K (.cl id gid j.toNat z) H
   | _,_,_,_=>False
 | _=>False
def Aa (off:Nat) (v:I) (H:List au) (K:I→List au→Prop):Prop:=match v with
 | .ptr id o=>K (.ptr id (o+off)) H
 | .bU cells=>K (.bU (cells.drop off)) H
 | _=>False
def Ac (s:Nat) (x i:I) (H:List au) (K:I→List au→Prop):Prop:=match i with
 | .int _ n=>match x with
   | .ay cells len _=>(0≤n∧n<len)∧K (.bU (cells.drop (n.toNat*s))) H
   | .ref id off len _ _=>(0≤n∧n<len)∧K (.ptr id (off+n.toNat*s)) H
   | _=>False
 | _=>False
def Ad (len s:Nat) (x i:I) (H:List au) (K:I→List au→Prop):Prop:=match i with
 | .int _ n=>match x with
   | .ptr id off=>(0≤n∧n<len)∧K (.ptr id (off+n.toNat*s)) H
   | .bU cells=>(0≤n∧n<len)∧K (.bU (cells.drop (n.toNat*s))) H
   | _=>False
 | _=>False
def kI (fc:hS) (k:I):Prop:=match fc,k with
 | .int q,.int fO _=>q=fO
 | .str n,.agg cs=>cs.length=n
 | _,_=>False
def Ai (lo:Nat) (fc:hS) (m k v:I) (H:List au) (K:I→List au→Prop):Prop:=match m with
 | .map id=>match Nat.ble lo id with
   | true=>kI fc k∧∃ es clock,H[id]?=some (.map es clock)∧∃ r,fB k es 0=some r∧(match r with
     | some i=>K .junk (H.set id (.map (es.modify i fun e=>(e.1,k,v)) clock))
     | none=>K .junk (H.set id (.map (es++[(clock,k,v)]) (clock+1))))
   | false=>False
 | _=>False
def Ah (fc:hS) (ok:Bool) (zero:Option I) (m k:I) (H:List au) (K:I→List au→Prop):Prop:=match m with
 | .map id=>kI fc k∧∃ es clock,H[id]?=some (.map es clock)∧∃ r,fB k es 0=some r∧(match r with
   | some i=>∃ e,es[i]?=some e∧(match ok with | true=>K (.tuple [e.2.2,.bool true]) H | false=>K e.2.2 H)
   | none=>∃ z,zero=some z∧(match ok with | true=>K (.tuple [z,.bool false]) H | false=>K z H))
 | _=>False
def Ag (lo:Nat) (fc:hS) (m k:I) (H:List au) (K:I→List au→Prop):Prop:=match m with
 | .map id=>match Nat.ble lo id with
   | true=>kI fc k∧∃ es clock,H[id]?=some (.map es clock)∧∃ r,fB k es 0=some r∧(match r with
     | some i=>K (.tuple []) (H.set id (.map (es.eraseIdx i) clock))
     | none=>K (.tuple []) H)
   | false=>False
 | _=>False
def Al (m:I) (H:List au) (K:I→List au→Prop):Prop:=match m with
 | .map id=>∃ es clock,H[id]?=some (.map es clock)∧K (.ptr H.length 0) (H++[.iter id clock [] clock])
 | _=>False
def z' (p:I) (H:List au) (K:I→List au→Prop):Prop:=match p with
 | .ptr r 0=>∃ m since seen clock gh es e,H[r]?=some (.iter m since seen clock)∧seen.getLast?=some gh∧H[m]?=some (.map es clock)∧es.find? (fun e=>e.1 == gh)=some e∧K (.tuple [e.2.1,e.2.2]) H
 | _=>False
def Ae (m:I) (H:List au) (K:I→List au→Prop):Prop:=match m with
 | .map id=>∃ es clock,H[id]?=some (.map es clock)∧K (.int .i64 es.length) H
 | _=>False
def bN (P:Program) (lo:Nat) (k:hT) (vs:List I) (H:List au) (K:I→List au→Prop):Prop:=match k with
 | .iS=>match vs with | [v]=>K v H | _=>False
 | .nil z=>match vs with | [_]=>K (.ay [] 0 (.uniq z)) H | _=>False
 | .A5=>match vs with | [v]=>xC v H K | _=>False
 | .pV a=>match vs with | [v]=>xw a v H K | _=>False
 | .za a=>match vs with | [.bU cells]=>mn a cells 0 fun v=>K v H | _=>False
 | .take=>match vs with | [v]=>xA lo v H K | _=>False
 | .A4=>match vs with | [v]=>xB lo v H K | _=>False
 | .AY=>match vs with | [p,v]=>xz lo p v H K | _=>False
 | .st s=>match vs with | [p,v]=>xy lo s p v H K | _=>False
 | .box=>match vs with | [v]=>xu v H K | _=>False
 | .x8=>match vs with | [v]=>xv v H K | _=>False
 | .alloc z=>K (.ptr H.length 0) (H++[.cells z])
 | .zx z s bytes=>match vs with | [a,b]=>Ak z s bytes a b H K | _=>False
 | .zw z s bytes=>match vs with | [a,b]=>Aj z s bytes a b H K | _=>False
 | .w8=>match vs with | [v]=>Af v H K | _=>False
 | .zc n=>match vs with | [.ay _ _ _] | [.ref _ _ _ _ _] | [.map _]=>False | [_]=>K (.int .i64 n) H | _=>False
 | .min=>match vs with | .int k a::r=>xd r a fun n=>K (.int k n) H | _=>False
 | .max=>match vs with | .int k a::r=>xc r a fun n=>K (.int k n) H | _=>False
 | .app s bytes=>match vs with | [x,y]=>xr s bytes x y H K | _=>False
 | .x2 s bytes=>match vs with | [x,y]=>xt lo s bytes x y H K | _=>False
 | .call _=>False
 | .pick=>match vs with | [.bool c,a,b]=>(match c with | true=>K a H | false=>K b H) | _=>False
 | .build z bh=>jx bh vs z fun cs=>K (.agg cs) H
 | .x_ len s z ix=>jx (ix.map fun i=>(i*s,s)) vs (e0 len z) fun cs=>K (.ay cs len (.uniq s)) H
 | .x9 len s z ix=>jx (ix.map fun i=>(i*s,s)) vs (e0 len z) fun cs=>K (.ay cs len .full) H
 | .zA=>match vs with | [.ptr id off]=>K (.ptr id off) H | [.bU cells]=>K (.bU cells) H | _=>False
 | .bin op=>match vs with | [.int k a,.int k' b]=>(match decide (k=k') || AL op with | true=>oB op k a b fun v=>K v H | false=>False) | _=>False
 | .oD neq=>match vs with | [.bool a,.bool b]=>(match neq with | true=>K (.bool (!(a == b))) H | false=>K (.bool (a == b)) H) | _=>False
 | .un op=>match vs with
   | [.bool b]=>(match op with | .not=>K (.bool !b) H | _=>False)
   | [.int k n]=>(match op with | .neg=>K (.int k (k.wrap (-n))) H | _=>False)
   | _=>False
 | .conv k=>match vs with | [.int _ n]=>K (.int k (k.wrap n)) H | _=>False
 | .zu f n m=>(match Nat.beq vs.length (n+m) with | true=>K (.func f (vs.take n) (vs.drop n)) H | false=>False)
 | .AW s l h m=>match vs with | x::vs=>xx s l h m x vs H K | _=>False
 | .zv=>K (.map H.length) (H++[.map [] 0])
 | .zo fc=>match vs with | [m,k,v]=>Ai lo fc m k v H K | _=>False
 | .zn fc ok z=>match vs with | [m,k]=>Ah fc ok z m k H K | _=>False
 | .zm fc=>match vs with | [m,k]=>Ag lo fc m k H K | _=>False
 | .An=>match vs with | [m]=>Al m H K | _=>False
 | .yg=>match vs with | [m]=>z' m H K | _=>False
 | .zd=>match vs with | [m]=>Ae m H K | _=>False
 | .oR off=>match vs with | [v]=>Aa off v H K | _=>False
 | .yo off a=>match vs with | [.agg cs]=>zN a cs off fun v=>K v H | _=>False
 | .pO s=>match vs with | [x,i]=>Ac s x i H K | _=>False
 | .y2 len s=>match vs with | [x,i]=>Ad len s x i H K | _=>False
 | .ext i=>match vs with | [.tuple ws]=>(eR ws i fun v=>ka v fun v=>K v H) | _=>False
 | .other o mode=>∃ v H',(∀ C,a8 P C lo o mode vs H=some (v,H'))∧K v H'
def n1 (P:Program) (o:Oper) (mode:Nat) (x:Operand):hT:=match mode with
 | 0=>match iQ x,P.underlying o.type with
   | true,some (.slice e)=>(match bS P e with | some z=>.nil z | none=>.other o mode)
   | _,_=>.iS
 | 1=>.A5
 | _=>.other o mode
def ml (P:Program) (t:TypeId):Option (hS×TypeId):=match jR P t with
 | some (k,e)=>(match P.underlying k with
   | some (.int q)=>some (.int q,e)
   | some (.struct bE)=>some (.str bE.size,e)
   | _=>none)
 | none=>none
def hd (P:Program) (o:Oper) (mode:Nat):hT:=match o.op with
 | .move x | .assign x=>n1 P o mode x
 | .load t _=>match mode with
   | 0=>(match gQ P t with | some a=>.pV a | none=>.other o mode)
   | 2=>(match P.underlying t with | some (.slice _)=>.A4 | _=>.other o mode)
   | 3=>(match gQ P t with | some a=>.za a | none=>.other o mode)
   | 5=>.other o mode
   | _=>match P.underlying t with | some (.slice _)=>.take | _=>.other o mode
 | .store t _ _=>match mode,bS P t with | 0,some s=>.st s | _+1,some 1=>.AY | _,_=>.other o mode
 | .box _ _=>match mode with | 0=>.box | _=>.x8
 | .alloc t=>match mode with
   | 0=>(match zeroCells P t with | some z=>.alloc z | none=>.other o mode)
   | _=>(match zeroCells P t,P.underlying t with
     | some [.ay [] 0 .full],some (.slice e)=>(match bS P e with | some s=>.alloc [.ay [] 0 (.own s)] | none=>.other o mode)
     | _,_=>.other o mode)
 | .makeSlice t _ _=>match mode,P.underlying t with
   | 0,some (.slice e)=>(match bS P e,zeroCells P e,(P.info? e).map (·.bytes) with
     | some s,some z,some bytes=>(match Nat.beq z.length s && Nat.blt 0 s && Nat.ble 1 bytes with | true=>.zx z s bytes | false=>.other o mode)
     | _,_,_=>.other o mode)
   | _+1,some (.slice e)=>(match bS P e,zeroCells P e,(P.info? e).map (·.bytes) with
     | some s,some z,some bytes=>(match Nat.beq z.length s && Nat.blt 0 s && Nat.ble 1 bytes with | true=>.zw z s bytes | false=>.other o mode)
     | _,_,_=>.other o mode)
   | _,_=>.other o mode
 | .call c=>match c.callee with
   | .builtin b=>match b with
     | .len=>(match iR P c.argTypes[0]? with
       | true=>.w8
       | false=>match (c.argTypes[0]?).bind P.underlying with | some (.array n _)=>.zc n | some (.map _ _)=>.zd | _=>.other o mode)
     | .delete=>(match (c.argTypes[0]?).bind (ml P) with | some x=>.zm x.1 | none=>.other o mode)
     | .min=>.min
     | .max=>.max
     | .append=>(match c.argTypes.toList with
       | [t,dp]=>(match Nat.beq t dp,P.underlying t with
         | true,some (.slice e)=>(match bS P e,zeroCells P e,(P.info? e).map (·.bytes) with
           | some s,some z,some bytes=>(match Nat.beq z.length s && Nat.blt 0 s && Nat.ble 1 bytes,mode with | true,0=>.app s bytes | true,_=>.x2 s bytes | false,_=>.other o mode)
           | _,_,_=>.other o mode)
         | _,_=>.other o mode)
       | _=>.other o mode)
     | _=>.other o mode
   | .value _=>.call mode
   | .invoke _ _=>.other o mode
 | .makeMap t r=>match r,P.underlying t with | none,some (.map _ _)=>.zv | _,_=>.other o mode
 | .mapUpdate t _ _ _=>match ml P t with | some x=>.zo x.1 | none=>.other o mode
 | .lookup t _ _ ok=>match ml P t with | some x=>.zn x.1 ok (oo P x.2) | none=>.other o mode
 | .range t _=>match P.underlying t with | some (.map _ _)=>.An | _=>.other o mode
 | .entry _=>.yg
 | .pick _ _ _=>.pick
 | .build t parts=>match zeroCells P t,P.underlying t with
   | some z,some (.struct bE)=>(match bE.toList.all (fun f=>(bS P f.type).isSome),mu (fun i=>(bE[i]?).bind fun f=>(bS P f.type).map fun s=>(f.offset,s)) (parts.toList.map (·.1)) with
     | true,some bh=>.build z bh
     | _,_=>.other o mode)
   | some z,some (.array _ e)=>(match bS P e with | some s=>.build z (parts.toList.map fun p=>(p.1*s,s)) | none=>.other o mode)
   | _,_=>.other o mode
 | .buildSlice t len parts=>match P.underlying t with
   | some (.slice e)=>(match bS P e,zeroCells P e with
     | some s,some z=>(match Nat.beq z.length s && Nat.blt 0 s && Nat.ble (len*s) 16777216,mode with | true,0=>.x_ len s z (parts.toList.map (·.1)) | true,_=>.x9 len s z (parts.toList.map (·.1)) | false,_=>.other o mode)
     | _,_=>.other o mode)
   | _=>.other o mode
 | .nilCheck _=>.zA
 | .binOp op t _ y _=>match iQ y,P.underlying t with
   | false,some (.int _)=>.bin op
   | false,some .bool=>(match op with | .eql=>.oD false | .neq=>.oD true | _=>.other o mode)
   | _,_=>.other o mode
 | .unOp op _ _=>.un op
 | .convert src dst _=>match P.underlying src,P.underlying dst with
   | some _,some (.int k)=>.conv k
   | _,_=>.other o mode
 | .makeFunc fn first captured=>match fn with | .func f=>.zu f first.size captured.size | _=>.other o mode
 | .slice t _ l h m=>match P.underlying t with
   | some (.slice e)=>(match bS P e with | some s=>.AW s l.isSome h.isSome m.isSome | none=>.other o mode)
   | _=>.other o mode
 | .fieldAddr t _ f=>match P.underlying t with
   | some (.struct bE)=>(match (bE[f]?).bind fun g=>(bS P g.type).map fun s=>(s,g.offset) with
     | some (s+1,off)=>.oR off
     | _=>.other o mode)
   | _=>.other o mode
 | .field t _ f=>match P.underlying t with
   | some (.struct bE)=>(match (bE[f]?).bind fun g=>(gQ P g.type).map fun a=>(a,g.offset) with
     | some (a,off)=>.yo off a
     | _=>.other o mode)
   | _=>.other o mode
 | .indexAddr t _ _=>match P.underlying t with
   | some (.slice e)=>(match bS P e with | some s=>.pO s | none=>.other o mode)
   | some (.array len e)=>(match bS P e with | some s=>.y2 len s | none=>.other o mode)
   | _=>.other o mode
 | .extract _ i=>.ext i
 | _=>.other o mode
where
 mu {α β:Type} (f:α→Option β):List α→Option (List β)
  | []=>some []
  | x::xs=>match f x with | some y=>(mu f xs).map (y::·) | none=>none
end
end Go.Proofs.YtfakoboiahbhaaaGreat.Ab


namespace Go.Proofs.YtfakoboiahbhaaaGreat.Ab
open Go
section
variable {P:Program} {H:List au}
theorem gd {n bytes:Nat} (ad:n*bytes≤140737488355328) (af:1≤bytes):fs n bytes=true:=by
 simp only [fs,sx,uG];exact ⟨ad,af⟩
theorem Eo {lo:Nat} {t:TypeId} {a:e4} (cd:gQ P t=some a) {v:I} {K:I→List au→Prop} (h:xw a v H K):∃ r H',dQ P lo 0 t H [v]=some (r,H')∧K r H':=by
 unfold xw at h;split at h
 ·obtain ⟨x,ak,h⟩:=ff h;split at h
  ·obtain ⟨r,ad,af⟩:=nF cd h;exact ⟨r,H,by simp [dQ,dT,ak,ad],af⟩
  ·obtain ⟨r,ad,af⟩:=nF cd h;exact ⟨r,H,by simp [dQ,dT,ak,ad],af⟩
  ·exact h.elim
 ·obtain ⟨r,ad,af⟩:=nF cd h;exact ⟨r,H,by simp [dQ,dT,ad],af⟩
 ·exact h.elim
theorem Eu {lo mode:Nat} {t e:TypeId} (hm:mode≠0) (ps:mode≠2) (yI:mode≠3) (yJ:mode≠5) (ax:P.underlying t=some (.slice e)) {v:I} {K:I→List au→Prop} (h:xA lo v H K):∃ r H',dQ P lo mode t H [v]=some (r,H')∧K r H':=by
 unfold xA at h;split at h
 ·split at h
  ·rename_i bD;obtain ⟨x,ak,h⟩:=ff h;have bD:=ub bD;split at h
   ·obtain ⟨v,ae,h⟩:=ff h;split at h
    ·refine ⟨_,_,?_,h⟩;cases mode with
     | zero=>exact absurd rfl hm
     | succ m=>simp only [dQ,ax,bD,if_true,ak,ae]
    ·refine ⟨_,_,?_,h⟩;cases mode with
     | zero=>exact absurd rfl hm
     | succ m=>simp only [dQ,ax,bD,if_true,ak,ae];rfl
    ·refine ⟨_,_,?_,h⟩;cases mode with
     | zero=>exact absurd rfl hm
     | succ m=>simp only [dQ,ax,bD,if_true,ak,ae];rw [if_neg ps]
    ·exact h.elim
   ·obtain ⟨v,ae,h⟩:=ff h;split at h
    ·refine ⟨_,_,?_,h⟩;cases mode with
     | zero=>exact absurd rfl hm
     | succ m=>simp only [dQ,ax,bD,if_true,ak,ae]
    ·refine ⟨_,_,?_,h⟩;cases mode with
     | zero=>exact absurd rfl hm
     | succ m=>simp only [dQ,ax,bD,if_true,ak,ae]
    ·exact h.elim
   ·exact h.elim
  ·exact h.elim
 ·exact h.elim
theorem Et {lo:Nat} {t e:TypeId} (ax:P.underlying t=some (.slice e)) {v:I} {K:I→List au→Prop} (h:xB lo v H K):∃ r H',dQ P lo 2 t H [v]=some (r,H')∧K r H':=by
 unfold xB at h;split at h
 ·split at h
  ·rename_i bD;obtain ⟨x,ak,h⟩:=ff h;have bD:=ub bD;split at h
   ·obtain ⟨v,ae,h⟩:=ff h;split at h
    ·exact ⟨_,_,by simp only [dQ,ax,bD,if_true,ak,ae];rw [if_neg h.1],h.2⟩
    ·exact ⟨_,_,by simp only [dQ,ax,bD,if_true,ak,ae];rfl,h⟩
    ·exact h.elim
   ·exact h.elim
  ·exact h.elim
 ·exact h.elim
theorem Er {lo mode:Nat} {t:TypeId} (hm:mode≠0) (ai:bS P t=some 1) {p v:I} {K:I→List au→Prop} (h:xz lo p v H K):∃ r H',hC P lo mode t H [p,v]=some (r,H')∧K r H':=by
 unfold xz at h;split at h
 ·split at h
  ·rename_i bD;have bD:=ub bD;obtain ⟨x,ak,h⟩:=ff h;split at h
   ·split at h
    ·obtain ⟨ad,af,h⟩:=h;obtain ⟨aG,h⟩:=k7 h;refine ⟨.junk,_,?_,h⟩;cases mode with
     | zero=>exact absurd rfl hm
     | succ m =>
       simp only [hC,lq,ai];rw [if_pos ⟨ad,af⟩];simp only [g8,bD,if_true,ak];rw [if_pos aG];rfl
    ·exact h.elim
   ·exact h.elim
  ·exact h.elim
 ·exact h.elim
theorem Es {lo s:Nat} {t:TypeId} (ai:bS P t=some s) {p v:I} {K:I→List au→Prop} (h:xy lo s p v H K):∃ r H',hC P lo 0 t H [p,v]=some (r,H')∧K r H':=by
 unfold xy at h;split at h
 ·split at h
  ·rename_i bD;have bD:=ub bD;obtain ⟨x,ak,h⟩:=ff h;split at h
   ·rcases lA h with ⟨ad,av⟩ | ⟨bF,ad,_,av⟩
    ·split at av
     ·rename_i af;have af:=ta af;rw [xJ] at av;obtain ⟨aG,av⟩:=k7 av;clear h;subst af;exact ⟨.junk,_,by simp only [hC,iA,ai,ad,g9,bD,if_true,ak];rw [if_pos ⟨rfl,by omega⟩];rfl,av⟩
     ·exact av.elim
    ·split at av
     ·rename_i af a6;have af:=ta af;(have a6:0<s:=by simpa [tC] using a6);obtain ⟨aG,av⟩:=oh av;(have bL:=aG.resolve_right fun aG=>by simp only [List.map_eq_nil_iff] at aG;rw [aG] at af;simp only [uF] at af;omega);simp only [sZ,af] at bL;exact ⟨.junk,_,by simp only [hC,iA,ai,ad,g9,bD,if_true,ak];rw [if_pos ⟨af,bL⟩];rfl,av⟩
     ·exact av.elim
   ·rcases lA h with ⟨ad,av⟩ | ⟨bF,ad,_,av⟩
    ·split at av
     ·rename_i af;have af:=ta af;rw [xJ] at av;obtain ⟨aG,av⟩:=k7 av;clear h;subst af;exact ⟨.junk,_,by simp only [hC,iA,ai,ad,g9,bD,if_true,ak];rw [if_pos ⟨rfl,by omega⟩];rfl,av⟩
     ·exact av.elim
    ·split at av
     ·rename_i af a6;have af:=ta af;(have a6:0<s:=by simpa [tC] using a6);obtain ⟨aG,av⟩:=oh av;(have bL:=aG.resolve_right fun aG=>by simp only [List.map_eq_nil_iff] at aG;rw [aG] at af;simp only [uF] at af;omega);simp only [sZ,af] at bL;exact ⟨.junk,_,by simp only [hC,iA,ai,ad,g9,bD,if_true,ak];rw [if_pos ⟨af,bL⟩];rfl,av⟩
     ·exact av.elim
   ·exact h.elim
  ·exact h.elim
 ·exact h.elim
theorem En {v:I} {K:I→List au→Prop} (h:xu v H K):∃ r H',gF 0 H [v]=some (r,H')∧K r H':=by
 unfold xu at h;rcases lA h with ⟨ad,h⟩ | ⟨bF,ad,_,h⟩
 ·rw [xJ] at h;exact ⟨_,_,by simp only [gF,ad,sd,se,List.map_nil],h⟩
 ·exact ⟨_,_,by simp only [gF,ad,sd],h⟩
theorem Em {mode:Nat} (hm:mode≠0) {v:I} {K:I→List au→Prop} (h:xv v H K):∃ r H',gF mode H [v]=some (r,H')∧K r H':=by
 unfold xv at h;cases mode with
 | zero=>exact absurd rfl hm
 | succ m =>
 rcases lA h with ⟨ad,af,h⟩ | ⟨bF,ad,_,af,h⟩
 ·have aG:[v].all I.plain=true:=by simp [af]
  exact ⟨_,_,by simp only [gF,ad,aG],h⟩
 ·exact ⟨_,_,by simp only [gF,ad,af],h⟩
theorem zt:∀ (l:List I) (a:Int) {K:Int→Prop},xd l a K→∃ n,kP l a=some n∧K n
 | [],a,K,h=>⟨a,rfl,h⟩
 | .int k b::r,a,K,h=>by
   obtain ⟨n,ad,af⟩:=zt r _ h;(have e:min a b=if b<a then b else a:=by split <;> omega);rw [e] at ad;exact ⟨n,ad,af⟩
 | .junk::_,_,_,h | .bool _::_,_,_,h | .eD::_,_,_,h | .ptr _ _::_,_,_,h | .bU _::_,_,_,h | .ay _ _ _::_,_,_,h | .ref _ _ _ _ _::_,_,_,h | .func _ _ _::_,_,_,h | .yield _::_,_,_,h | .map _::_,_,_,h
 | .agg _::_,_,_,h | .tuple _::_,_,_,h | .str _::_,_,_,h | .raw _ _ _::_,_,_,h | .cl _ _ _ _::_,_,_,h=>h.elim
theorem zs:∀ (l:List I) (a:Int) {K:Int→Prop},xc l a K→∃ n,kO l a=some n∧K n
 | [],a,K,h=>⟨a,rfl,h⟩
 | .int k b::r,a,K,h=>by
   obtain ⟨n,ad,af⟩:=zs r _ h;(have e:max a b=if b > a then b else a:=by split <;> omega);rw [e] at ad;exact ⟨n,ad,af⟩
 | .junk::_,_,_,h | .bool _::_,_,_,h | .eD::_,_,_,h | .ptr _ _::_,_,_,h | .bU _::_,_,_,h | .ay _ _ _::_,_,_,h | .ref _ _ _ _ _::_,_,_,h | .func _ _ _::_,_,_,h | .yield _::_,_,_,h | .map _::_,_,_,h
 | .agg _::_,_,_,h | .tuple _::_,_,_,h | .str _::_,_,_,h | .raw _ _ _::_,_,_,h | .cl _ _ _ _::_,_,_,h=>h.elim
theorem Ev {lo:Nat} {t:TypeId} {x:Operand} {v:I} {K:I→List au→Prop} (h:xC v H K):∃ r H',eS P lo 1 t x H [v]=some (r,H')∧K r H':=by
 unfold xC at h;split at h
 ·rcases h with h | h
  ·exact ⟨_,_,by simp only [eS];rw [if_neg h.1],h.2⟩
  ·exact ⟨_,_,by simp only [eS];rw [if_pos h.1],h.2⟩
 ·exact ⟨_,_,rfl,h⟩
 ·exact ⟨_,_,rfl,h⟩
 ·exact h.elim
theorem z_ {t e:TypeId} {s bytes:Nat} (ax:P.underlying t=some (.slice e)) (ai:bS P e=some s) {z:List I} (bm:zeroCells P e=some z) (ag:(P.info? e).map (·.bytes)=some bytes)
  (er:z.length=s) (aS:0<s) (ad:1≤bytes) {x y:I} {new:List I} {m:Nat} (eK:appended H y=some (m,new)) {K:I→List au→Prop} (h:n3 s bytes x new m H K):∃ r H',iW P #[t,t] H [x,y]=some (r,H')∧K r H':=by
 unfold n3 at h;obtain ⟨aB,aH,h⟩:=h;have ao:new.length=m*s∧0<s∧z.length=s∧fs m bytes=true:=⟨aB,aS,er,gd aH ad⟩;have key:∀ {r:I},e7 P H t t x y=some r→iW P #[t,t] H [x,y]=some (r,H):=fun h=>by simp [iW,h]
 have beq:Nat.beq t t=true:=v3 t;split at h
 ·obtain ⟨bo,h⟩:=h;subst bo;refine ⟨_,_,key ?_,h⟩;simp only [e7,ax,ai,ag,bm,beq,eK];rw [if_pos ao];rfl
 ·obtain ⟨bo,cI,eB,h⟩:=h;refine ⟨_,_,key ?_,h⟩;simp only [e7,ax,ai,ag,bm,beq,eK];rw [if_pos ao];simp only [bo,if_false];rw [if_pos ⟨gd cI ad,eB⟩]
 ·obtain ⟨bo,cI,h⟩:=h;refine ⟨_,_,key ?_,h⟩;simp only [e7,ax,ai,ag,bm,beq,eK];rw [if_pos ao];simp only [bo];rw [if_pos ⟨trivial,gd cI ad⟩]
 ·obtain ⟨bo,cI,h⟩:=h;refine ⟨_,_,key ?_,h⟩;simp only [e7,ax,ai,ag,bm,beq,eK];rw [if_pos ao];simp only [bo];rw [if_pos ⟨trivial,gd cI ad⟩]
 ·exact h.elim
theorem El {t e:TypeId} {s bytes:Nat} (ax:P.underlying t=some (.slice e)) (ai:bS P e=some s) {z:List I} (bm:zeroCells P e=some z) (ag:(P.info? e).map (·.bytes)=some bytes)
  (er:z.length=s) (aS:0<s) (ad:1≤bytes) {x y:I} {K:I→List au→Prop} (h:xr s bytes x y H K):∃ r H',iW P #[t,t] H [x,y]=some (r,H')∧K r H':=by
 unfold xr at h;split at h
 ·rename_i new m c;exact z_ ax ai bm ag er aS ad (y:=.ay new m c) rfl h
 ·rename_i id off m c cU;obtain ⟨o,aq,h⟩:=ff h;split at h
  ·rename_i l;obtain ⟨bo,h⟩:=h;refine z_ ax ai bm ag er aS ad (y:=.ref id off m c cU) ?_ h;simp only [appended,lenOf,rowOf,aq,if_pos bo]
  ·exact h.elim
 ·exact h.elim
theorem Nat.BE {a b:Nat} (h:b=a):Nat.blt a b=false:=by
 cases ag:Nat.blt a b with
 | false=>rfl
 | true=>have:=ub ag;omega
theorem Ek {lo:Nat} {t e:TypeId} {s bytes:Nat} (ax:P.underlying t=some (.slice e)) (ai:bS P e=some s) {z:List I} (bm:zeroCells P e=some z) (ag:(P.info? e).map (·.bytes)=some bytes)
  (er:z.length=s) (aS:0<s) (ad:1≤bytes) {x y:I} {K:I→List au→Prop} (h:xt lo s bytes x y H K):∃ r H',iX P lo #[t,t] H [x,y]=some (r,H')∧K r H':=by
 unfold xt at h;split at h
 ·rename_i new m c;obtain ⟨⟨aB,aH⟩,h⟩:=h;have eK:appended H (.ay new m c)=some (m,new):=rfl;have ao:new.length=m*s∧0<s∧z.length=s∧fs m bytes=true:=⟨aB,aS,er,gd aH ad⟩;have beq:Nat.beq t t=true:=v3 t;split at h
  ·rename_i cells n;obtain ⟨⟨bo,cI,eB⟩,h⟩:=h;refine ⟨_,_,?_,h⟩;have q:e7 P H t t (.ay cells n .full) (.ay new m c)=some (.ay (cells++new) (n+m) (.uniq s)):=by
    simp only [e7,ax,ai,ag,bm,beq,eK];rw [if_pos ao];simp only [bo,if_false];rw [if_pos ⟨gd cI ad,eB⟩]
   simp only [iX,ja,ib,q];rw [if_neg (by omega)]
  ·rename_i cells n cU;obtain ⟨⟨rfl,bo,cI⟩,h⟩:=h;refine ⟨_,_,?_,h⟩;have q:e7 P H t t (.ay cells n (.uniq cU)) (.ay new m c)=some (.ay (cells++new) (n+m) (.uniq cU)):=by
    simp only [e7,ax,ai,ag,bm,beq,eK];rw [if_pos ao];rw [if_pos ⟨trivial,gd cI ad⟩]
   simp only [iX,ja,ib,q];rw [if_neg (by omega)]
  ·rename_i id gid n z;split at h
   ·rename_i bD;have bD:=ub bD;obtain ⟨o,aE,h⟩:=ff h;split at h
    ·rcases h with ⟨⟨cb,b8,d_,bo,cI,eB⟩,bL⟩ | ⟨⟨cb,b8,d_,bo,cI,eB⟩,bL⟩
     ·subst cb b8 d_;refine ⟨_,_,?_,bL⟩;have iG:=Nat.BE bo;simp only [iX,ja,aE,iG,Bool.false_and];simp only [ib,bD,if_true,ax,aE,ai,ag,bm,eK];rw [if_pos ⟨trivial,trivial,trivial,trivial,bo,aB,aS,cI,er,gd aH ad,gd eB ad⟩]
     ·rename_i l g cU;subst cb b8 d_;refine ⟨_,_,?_,bL⟩;have iG:Nat.blt (n*cU) l.length=true:=ue bo;have fm:Nat.ble lo id=true:=ue bD;have Cy:=(sa.1 aE).1;(have pj:(H.set id (.grow (l.take (n*cU)) g cU))[id]?=some (.grow (l.take (n*cU)) g cU):=by rw [sg Cy]);simp only [iX,ja,aE,iG,fm,Bool.and_self];simp only [ib,bD,if_true,ax,pj,ai,ag,bm];have B_:appended (H.set id (.grow (l.take (n*cU)) g cU)) (.ay new m c)=some (m,new):=rfl;simp only [B_];rw [if_pos ⟨trivial,trivial,trivial,trivial,by rw [List.length_take];omega,aB,aS,cI,er,gd aH ad,gd eB ad⟩,List.set_set,td]
    ·exact h.elim
   ·exact h.elim
  ·exact h.elim
 ·exact h.elim
theorem Ep {t e:TypeId} {s:Nat} (ax:P.underlying t=some (.slice e)) (ai:bS P e=some s) {l h m:Option Operand} {x:I} {vs:List I} {K:I→List au→Prop}
  (av:xx s l.isSome h.isSome m.isSome x vs H K):∃ r,ej P t l h m (x::vs)=some r∧K r H:=by
 unfold xx at av;split at av
 ·rename_i cells n c;split at av
  ·rename_i e1 ck dG;obtain rfl:=tu.1 e1 |> tw.1;obtain rfl:=tu.1 ck |> tw.1;obtain rfl:=tu.1 dG |> tw.1;split at av
   ·exact ⟨_,by simp [ej,ax,ai,cH,dn],av⟩
   ·exact ⟨_,by simp [ej,I.view,eU,ax,ai,cH,dn],av⟩
   ·exact av.elim
  ·rename_i k i e1 ck dG;obtain ⟨l,rfl⟩:=tG.1 e1;obtain rfl:=tu.1 ck |> tw.1;obtain rfl:=tu.1 dG |> tw.1;split at av
   ·obtain ⟨⟨rfl,ag⟩,av⟩:=av;exact ⟨_,by simp [ej,ax,ai,cH,dn,ag],av⟩
   ·obtain ⟨ag,av⟩:=av;exact ⟨_,by simp [ej,I.view,eU,ax,ai,cH,dn,ag],av⟩
   ·obtain ⟨ag,av⟩:=av;exact ⟨_,by simp [ej,I.view,eU,ax,ai,cH,dn,ag],av⟩
   ·exact av.elim
  ·rename_i k j e1 ck dG;obtain rfl:=tu.1 e1 |> tw.1;obtain ⟨h,rfl⟩:=tG.1 ck;obtain rfl:=tu.1 dG |> tw.1;split at av
   ·obtain ⟨ag,av⟩:=av;exact ⟨_,by simp [ej,ax,ai,cH,dn,ag],av⟩
   ·obtain ⟨ag,av⟩:=av;exact ⟨_,by simp [ej,I.view,eU,ax,ai,cH,dn,ag],av⟩
   ·obtain ⟨ag,av⟩:=av;exact ⟨_,by simp [ej,I.view,eU,ax,ai,cH,dn,ag],av⟩
   ·exact av.elim
  ·rename_i k i k' j e1 ck dG;obtain ⟨l,rfl⟩:=tG.1 e1;obtain ⟨h,rfl⟩:=tG.1 ck;obtain rfl:=tu.1 dG |> tw.1;have aw:0≤i∧i≤j∧j≤n→(0≤j∧j≤n)∧i≤max j 0:=fun ag=>⟨⟨by omega,ag.2.2⟩,by omega⟩;split at av
   ·obtain ⟨ag,av⟩:=av;obtain ⟨q1,aW⟩:=aw ag;exact ⟨_,by simp [ej,I.view,eU,ax,ai,cH,dn,q1,aW,ag.1],av⟩
   ·obtain ⟨ag,av⟩:=av;obtain ⟨q1,aW⟩:=aw ag;exact ⟨_,by simp [ej,I.view,eU,ax,ai,cH,dn,q1,aW,ag.1],av⟩
   ·obtain ⟨ag,av⟩:=av;obtain ⟨q1,aW⟩:=aw ag;exact ⟨_,by simp [ej,I.view,eU,ax,ai,cH,dn,q1,aW,ag.1],av⟩
   ·exact av.elim
  ·rename_i k j k' y6 e1 ck dG;obtain rfl:=tu.1 e1 |> tw.1;obtain ⟨h,rfl⟩:=tG.1 ck;obtain ⟨m,rfl⟩:=tG.1 dG;obtain ⟨⟨rfl,ag⟩,av⟩:=av;(have q:j≤max j 0:=by omega);refine ⟨_,?_,av⟩;cases c <;> simp [ej,I.view,eU,ax,ai,cH,dn,ag,q]
  ·rename_i k i k' j Gh y6 e1 ck dG;obtain ⟨l,rfl⟩:=tG.1 e1;obtain ⟨h,rfl⟩:=tG.1 ck;obtain ⟨m,rfl⟩:=tG.1 dG;obtain ⟨⟨rfl,ag⟩,av⟩:=av;(have q:j≤max j 0:=by omega);(have aW:i≤max j 0:=by omega);(have cz:0≤j:=by omega);refine ⟨_,?_,av⟩;cases c <;> simp [ej,I.view,eU,ax,ai,cH,dn,ag,q,aW,cz]
  ·exact av.elim
 ·rename_i id off n cap sz;split at av
  ·rename_i k i e1 ck dG;obtain ⟨l,rfl⟩:=tG.1 e1;obtain rfl:=tu.1 ck |> tw.1;obtain rfl:=tu.1 dG |> tw.1;obtain ⟨rfl,ag,aJ,aP⟩:=av;by_cases hi:i<n
   ·(have hi':i.toNat<n:=by omega);exact ⟨_,by simp [ej,I.view,eU,ax,ai,cH,dn,ag,hi'],aJ hi⟩
   ·(have hi':¬ i.toNat<n:=by omega);exact ⟨_,by simp [ej,I.view,eU,ax,ai,cH,dn,ag,hi'],aP (by omega)⟩
  ·rename_i k j e1 ck dG;obtain rfl:=tu.1 e1 |> tw.1;obtain ⟨h,rfl⟩:=tG.1 ck;obtain rfl:=tu.1 dG |> tw.1;obtain ⟨rfl,⟨bo,cI,eB⟩,av⟩:=av;(have ao:cap.map (·-0)=cap:=by cases cap <;> rfl);exact ⟨_,by simp [ej,I.view,eU,ax,ai,cH,dn,bo,cI,eB],av⟩
  ·exact av.elim
 ·rename_i id gid n z;split at av
  ·rename_i k j e1 ck dG;obtain rfl:=tu.1 e1 |> tw.1;obtain ⟨h,rfl⟩:=tG.1 ck;obtain rfl:=tu.1 dG |> tw.1;obtain ⟨ag,av⟩:=av;exact ⟨_,by simp [ej,ax,ai,cH,dn,ag],av⟩
  ·exact av.elim
 ·exact av.elim
end
end Go.Proofs.YtfakoboiahbhaaaGreat.Ab


namespace Go.Proofs.YtfakoboiahbhaaaGreat.Ab
open Go
section
variable {P:Program} {H:List au}
theorem zq {α β:Type} {f:α→Option β}:∀ {l:List α} {r:List β},hd.mu f l=some r→l.map f=r.map some
 | [],r,h=>by simp [hd.mu] at h;subst h;rfl
 | x::xs,r,h=>by
   simp only [hd.mu] at h;split at h
   ·rename_i y a0;simp only [rZ] at h;obtain ⟨ys,h,rfl⟩:=h;simp [a0,zq h]
   ·simp at h
theorem pU {t:TypeId} {x:hS×TypeId} (h:ml P t=some x):∃ eb,jR P t=some (eb,x.2)∧∀ k,kI x.1 k→isKey P eb k=true:=by
 unfold ml at h;split at h
 ·rename_i eb e hm;split at h
  ·rename_i q a3;cases h;refine ⟨eb,hm,fun k av=>?_⟩;cases k <;> simp only [kI] at av;subst av;simp [isKey,a3]
  ·rename_i bE ai;cases h;refine ⟨eb,hm,fun k av=>?_⟩;cases k <;> simp only [kI] at av;simp [isKey,ai,av]
  ·cases h
 ·cases h
theorem z8 {lo:Nat} {o:Oper} {mode:Nat} {vs:List I} {K:I→List au→Prop} (h:bN P lo (hd P o mode) vs H K):∃ v H',(∀ C,a8 P C lo o mode vs H=some (v,H'))∧K v H':=by
 have Gp:∀ {x:hT},x=.other o mode→bN P lo x vs H K→∃ v H',(∀ C,a8 P C lo o mode vs H=some (v,H'))∧K v H':=fun e h=>by subst e;exact h
 have pure:∀ {r:I},(∀ C,a8 P C lo o mode vs H=(cy P o vs).map (·,H))→cy P o vs=some r→K r H→∃ v H',(∀ C,a8 P C lo o mode vs H=some (v,H'))∧K v H':=fun ad af aG=>⟨_,H,fun C=>by rw [ad C,af];rfl,aG⟩;have iS:∀ x,(o.op=.move x∨o.op=.assign x)→(∀ C,a8 P C lo o mode vs H=eS P lo mode o.type x H vs)→bN P lo (n1 P o mode x) vs H K→∃ v H',(∀ C,a8 P C lo o mode vs H=some (v,H'))∧K v H':=fun x _ hm h=>by
  unfold n1 at h;split at h
  ·split at h
   ·rename_i e aN hu;split at h
    ·rename_i z bm;simp only [bN] at h;split at h
     ·exact ⟨_,_,fun C=>by rw [hm C];simp only [eS,aN,hu,bm,sd],h⟩
     ·exact h.elim
    ·exact h
   ·rename_i fX;simp only [bN] at h;split at h
    ·refine ⟨_,H,fun C=>?_,h⟩;rw [hm C];simp only [eS]
     try (split
          ·rename_i e ad af;exact absurd af (fX e ad)
          ·rfl)
    ·exact h.elim
  ·simp only [bN] at h;split at h
   ·obtain ⟨r,H',ad,af⟩:=Ev (P:=P) (lo:=lo) (t:=o.type) (x:=x) h;exact ⟨r,H',fun C=>by rw [hm C];exact ad,af⟩
   ·exact h.elim
  ·exact h
 unfold hd at h;cases aD:o.op <;> simp only [aD] at h <;> (try exact h)
 case move x=>exact iS x (.inl aD) (fun C=>by simp [a8,aD]) h
 case assign x=>exact iS x (.inr aD) (fun C=>by simp [a8,aD]) h
 case load t a =>
  split at h
  ·split at h
   ·rename_i Br cd;simp only [bN] at h;split at h
    ·obtain ⟨r,H',ad,af⟩:=Eo (P:=P) (lo:=lo) cd h;exact ⟨r,H',fun C=>by simp only [a8,aD];exact ad,af⟩
    ·exact h.elim
   ·exact h
  ·split at h
   ·rename_i e hu;simp only [bN] at h;split at h
    ·obtain ⟨r,H',ad,af⟩:=Et (P:=P) (lo:=lo) hu h;exact ⟨r,H',fun C=>by simp only [a8,aD];exact ad,af⟩
    ·exact h.elim
   ·exact h
  ·split at h
   ·rename_i Br cd;simp only [bN] at h;split at h
    ·obtain ⟨r,ad,af⟩:=nF cd h;exact ⟨r,H,fun C=>by simp only [a8,aD,dQ,ad,sd],af⟩
    ·exact h.elim
   ·exact h
  ·exact h
  ·rename_i hm ps yI yJ;split at h
   ·rename_i e hu;simp only [bN] at h;split at h
    ·obtain ⟨r,H',ad,af⟩:=Eu (P:=P) (lo:=lo) (mode:=mode) (fun e=>hm e) (fun e=>ps e) (fun e=>yI e) (fun e=>yJ e) hu h;exact ⟨r,H',fun C=>by simp only [a8,aD];exact ad,af⟩
    ·exact h.elim
   ·exact h
 case store t a x =>
  split at h
  ·rename_i s ai;simp only [bN] at h;split at h
   ·obtain ⟨r,H',ad,af⟩:=Es (P:=P) (lo:=lo) ai h;exact ⟨r,H',fun C=>by simp only [a8,aD];exact ad,af⟩
   ·exact h.elim
  ·rename_i m ai;simp only [bN] at h;split at h
   ·obtain ⟨r,H',ad,af⟩:=Er (P:=P) (lo:=lo) (mode:=m+1) (by omega) ai h;exact ⟨r,H',fun C=>by simp only [a8,aD];exact ad,af⟩
   ·exact h.elim
  ·exact h
 case box e x =>
  split at h
  ·simp only [bN] at h;split at h
   ·obtain ⟨r,H',ad,af⟩:=En h;exact ⟨r,H',fun C=>by simp only [a8,aD];exact ad,af⟩
   ·exact h.elim
  ·rename_i hm;simp only [bN] at h;split at h
   ·obtain ⟨r,H',ad,af⟩:=Em (mode:=mode) (fun e=>hm e) h;exact ⟨r,H',fun C=>by simp only [a8,aD];exact ad,af⟩
   ·exact h.elim
 case alloc t =>
  split at h
  ·split at h
   ·rename_i z bm;exact ⟨_,_,fun C=>by simp only [a8,aD,kS,bm,sd],h⟩
   ·exact h
  ·rename_i hm;split at h
   ·rename_i e bm hu;split at h
    ·rename_i s ai;refine ⟨_,_,fun C=>?_,h⟩;simp only [a8,aD];unfold kS;split
     ·exact absurd rfl hm
     ·simp only [bm,hu,ai,sd]
    ·exact h
   ·exact h
 case makeSlice t a b =>
  split at h
  ·rename_i DV e hu;split at h
   ·rename_i s z bytes ai bm ag;split at h
    ·rename_i ao;simp only [sx,uR,tC,uG] at ao;obtain ⟨⟨a',bk⟩,bq⟩:=ao;simp only [bN] at h;split at h
     ·unfold Ak at h;split at h
      ·obtain ⟨d1,d2,d3,h⟩:=h;refine ⟨_,_,fun C=>?_,h⟩;simp only [a8,aD,jW];rw [if_pos ⟨d1,d2⟩];simp only [jg,hu,ai,bm,ag];rw [if_pos ⟨a',bk,gd d3 bq⟩];rfl
      ·exact h.elim
     ·exact h.elim
    ·exact h
   ·exact h
  ·rename_i DV m e hu;split at h
   ·rename_i s z bytes ai bm ag;split at h
    ·rename_i ao;simp only [sx,uR,tC,uG] at ao;obtain ⟨⟨a',bk⟩,bq⟩:=ao;simp only [bN] at h;split at h
     ·unfold Aj at h;split at h
      ·obtain ⟨d1,d2,d3,h⟩:=h;refine ⟨_,_,fun C=>?_,h⟩;simp only [a8,aD,jW];rw [if_pos ⟨by omega,by omega⟩,if_pos ⟨d1,d2⟩];simp only [jg,hu,ai,bm,ag];rw [if_pos ⟨a',bk,gd d3 bq⟩];rfl
      ·exact h.elim
     ·exact h.elim
    ·exact h
   ·exact h
  ·exact h
 case call c =>
  split at h
  ·rename_i b ag;split at h
   ·split at h
    ·rename_i ai;simp only [bN] at h;split at h
     ·unfold Af at h;split at h
      ·exact ⟨_,_,fun C=>by simp only [a8,aD,ag,ev,ha,ai],h⟩
      ·exact ⟨_,_,fun C=>by simp only [a8,aD,ag,ev,ha,ai],h⟩
      ·exact h.elim
     ·exact h.elim
    ·split at h
     ·rename_i n e hu;simp only [bN] at h;split at h
      ·exact h.elim
      ·exact h.elim
      ·exact h.elim
      ·rename_i x ca cn DQ;refine ⟨_,_,fun C=>?_,h⟩;simp only [a8,aD,ag,ev,ha,hu]
       try (cases x <;> first | rfl | exact absurd rfl (ca _ _ _) | exact absurd rfl (cn _ _ _ _ _) | exact absurd rfl (DQ _))
      ·exact h.elim
     ·rename_i _ _ hu;simp only [bN] at h;split at h
      ·unfold Ae at h;split at h
       ·obtain ⟨es,clock,ad,h⟩:=h;exact ⟨_,_,fun C=>by simp only [a8,aD,ag,ev,ha,hu,ad],h⟩
       ·exact h.elim
      ·exact h.elim
     ·exact h
   ·split at h
    ·rename_i x al;simp only [sf] at al;obtain ⟨t,ax,al⟩:=al;obtain ⟨eb,hm,hy⟩:=pU al;simp only [bN] at h;split at h
     ·unfold Ag at h;split at h
      ·split at h
       ·rename_i bD;have bD:=ub bD;obtain ⟨ad,es,clock,af,r,aG,h⟩:=h;split at h
        ·exact ⟨_,_,fun C=>by simp only [a8,aD,ag,ev,hB,ax,r_,hm,hy _ ad,bD,if_true,af,aG],h⟩
        ·exact ⟨_,_,fun C=>by simp only [a8,aD,ag,ev,hB,ax,r_,hm,hy _ ad,bD,if_true,af,aG],h⟩
       ·exact h.elim
      ·exact h.elim
     ·exact h.elim
    ·exact h
   ·simp only [bN] at h;split at h
    ·obtain ⟨n,ad,af⟩:=zt _ _ h;exact ⟨_,_,fun C=>by simp only [a8,aD,ag,ev,nN,ad,sd],af⟩
    ·exact h.elim
   ·simp only [bN] at h;split at h
    ·obtain ⟨n,ad,af⟩:=zs _ _ h;exact ⟨_,_,fun C=>by simp only [a8,aD,ag,ev,nM,ad,sd],af⟩
    ·exact h.elim
   ·split at h
    ·rename_i t dp g3;split at h
     ·rename_i e ng hu;split at h
      ·rename_i s z bytes ai bm yz;split at h
       ·rename_i ao;simp only [sx,uR,tC,uG] at ao;obtain ⟨⟨a',bk⟩,bq⟩:=ao;obtain rfl:t=dp:=ta ng;(have o4:c.argTypes=#[t,t]:=by rw [←uC (xs:=c.argTypes),g3]);simp only [bN] at h;split at h
        ·obtain ⟨r,H',ad,af⟩:=El hu ai bm yz a' bk bq h;exact ⟨r,H',fun C=>by simp only [a8,aD,ag,ev,o4];exact ad,af⟩
        ·exact h.elim
       ·rename_i ao hm;simp only [sx,uR,tC,uG] at ao;obtain ⟨⟨a',bk⟩,bq⟩:=ao;obtain rfl:t=dp:=ta ng;(have o4:c.argTypes=#[t,t]:=by rw [←uC (xs:=c.argTypes),g3]);simp only [bN] at h;split at h
        ·obtain ⟨r,H',ad,af⟩:=Ek (lo:=lo) hu ai bm yz a' bk bq h;refine ⟨r,H',fun C=>?_,af⟩;simp only [a8,aD,ag,o4]
         first
         | exact ad
         | (split
            ·exact absurd rfl hm
            ·exact ad)
        ·exact h.elim
       ·exact h
      ·exact h
     ·exact h
    ·exact h
   ·exact h
  ·exact h.elim
  ·exact h
 case makeMap t r =>
  split at h
  ·rename_i _ _ hu;simp only [bN] at h;exact ⟨_,_,fun C=>by simp only [a8,aD,kV,hu],h⟩
  ·exact h
 case mapUpdate t m k v =>
  split at h
  ·rename_i x al;obtain ⟨eb,hm,hy⟩:=pU al;simp only [bN] at h;split at h
   ·unfold Ai at h;split at h
    ·split at h
     ·rename_i bD;have bD:=ub bD;obtain ⟨ad,es,clock,af,r,aG,h⟩:=h;split at h
      ·exact ⟨_,_,fun C=>by simp only [a8,aD,iY,hm,hy _ ad,bD,if_true,af,aG],h⟩
      ·exact ⟨_,_,fun C=>by simp only [a8,aD,iY,hm,hy _ ad,bD,if_true,af,aG],h⟩
     ·exact h.elim
    ·exact h.elim
   ·exact h.elim
  ·exact h
 case lookup t m k ok =>
  split at h
  ·rename_i x al;obtain ⟨eb,hm,hy⟩:=pU al;simp only [bN] at h;split at h
   ·unfold Ah at h;split at h
    ·obtain ⟨ad,es,clock,af,r,aG,h⟩:=h;split at h
     ·obtain ⟨e,he,h⟩:=h;cases ok
      ·exact ⟨_,_,fun C=>by simp only [a8,aD,ic,hm,hy _ ad,af,aG,r_,he,sd];rfl,h⟩
      ·exact ⟨_,_,fun C=>by simp only [a8,aD,ic,hm,hy _ ad,af,aG,r_,he,sd];rfl,h⟩
     ·obtain ⟨z,bm,h⟩:=h;cases ok
      ·exact ⟨_,_,fun C=>by simp only [a8,aD,ic,hm,hy _ ad,af,aG,Option.bind_none,bm,sd];rfl,h⟩
      ·exact ⟨_,_,fun C=>by simp only [a8,aD,ic,hm,hy _ ad,af,aG,Option.bind_none,bm,sd];rfl,h⟩
    ·exact h.elim
   ·exact h.elim
  ·exact h
 case range t m =>
  split at h
  ·rename_i _ _ hu;simp only [bN] at h;split at h
   ·unfold Al at h;split at h
    ·obtain ⟨es,clock,ad,h⟩:=h;exact ⟨_,_,fun C=>by simp only [a8,aD,kW,hu,ad],h⟩
    ·exact h.elim
   ·exact h.elim
  ·exact h
 case entry m =>
  simp only [bN] at h;split at h
  ·unfold z' at h;split at h
   ·obtain ⟨m,since,seen,clock,gh,es,e,ad,af,aG,a6,h⟩:=h;exact ⟨_,_,fun C=>by simp only [a8,aD,kU,ad,af,aG,a6,if_true],h⟩
   ·exact h.elim
  ·exact h.elim
 case pick c a b =>
  simp only [bN] at h;split at h
  ·rename_i c a b;refine pure (fun C=>by simp only [a8,aD]) (r:=match c with | true=>a | false=>b) (by cases c <;> simp [cy,aD,xf]) ?_;cases c <;> exact h
  ·exact h.elim
 case build t parts =>
  have aq:∀ C,a8 P C lo o mode vs H=(cy P o vs).map (·,H):=fun C=>by simp only [a8,aD]
  split at h
  ·rename_i z bE bm hu;split at h
   ·rename_i bh c_ CS;simp only [bN] at h;obtain ⟨c9,q1,aW⟩:=kl h (zq CS);refine pure aq (r:=.agg c9) ?_ aW;simp only [cy,aD,ln,bm,hu,c_,fu,q1,sd]
   ·exact h
  ·rename_i z len e bm hu;split at h
   ·rename_i s ai;simp only [bN] at h;obtain ⟨c9,q1,aW⟩:=kl (place:=fun i=>some (i*s,s)) (ix:=parts.toList.map (·.1)) h (by simp);refine pure aq (r:=.agg c9) ?_ aW;simp only [cy,aD,ln,bm,hu,ai,fu,r_,q1,sd]
   ·exact h
  ·exact h
 case buildSlice t len parts =>
  split at h
  ·rename_i e hu;split at h
   ·rename_i s z ai bm;split at h
    ·rename_i ao;simp only [sx,uR,tC,uG] at ao;obtain ⟨⟨a',bk⟩,bq⟩:=ao;simp only [bN] at h;obtain ⟨c9,q1,aW⟩:=kl (place:=fun i=>some (i*s,s)) (ix:=parts.toList.map (·.1)) h (by simp);refine pure (fun C=>by simp only [a8,aD]) (r:=.ay c9 len (.uniq s)) ?_ aW;simp only [cy,aD,iy,hu,ai,bm,fu];rw [if_pos ⟨bk,a',bq⟩,q1];rfl
    ·rename_i ao hm;simp only [sx,uR,tC,uG] at ao;obtain ⟨⟨a',bk⟩,bq⟩:=ao;simp only [bN] at h;obtain ⟨c9,q1,aW⟩:=kl (place:=fun i=>some (i*s,s)) (ix:=parts.toList.map (·.1)) h (by simp);refine ⟨_,_,fun C=>?_,aW⟩;have q:iy P t len (fu parts.toList vs)=some (c9,s):=by
      simp only [iy,hu,ai,bm,fu];rw [if_pos ⟨bk,a',bq⟩,q1];rfl
     simp only [a8,aD]
     first
     | (rw [q];rfl)
     | (split
        ·exact absurd rfl hm
        ·rw [q];rfl)
    ·exact h
   ·exact h
  ·exact h
 case nilCheck x =>
  simp only [bN] at h;split at h
  ·exact pure (fun C=>by simp only [a8,aD]) (by simp only [cy,aD,nT]) h
  ·exact pure (fun C=>by simp only [a8,aD]) (by simp only [cy,aD,nT]) h
  ·exact h.elim
 case binOp op t x y im =>
  have aq:∀ C,a8 P C lo o mode vs H=(cy P o vs).map (·,H):=fun C=>by simp only [a8,aD]
  split at h
  ·rename_i aN hu;simp only [bN] at h;split at h
   ·split at h
    ·rename_i av;obtain ⟨v,ad,af⟩:=Bz (P:=P) (t:=t) (EX av) h;exact pure aq (by simp only [cy,aD,aN,f',ad]) af
    ·exact h.elim
   ·exact h.elim
  ·rename_i aN hu;split at h
   ·simp only [bN] at h;split at h
    ·exact pure aq (by simp only [cy,aD,aN,f',fj,hu]) h
    ·exact h.elim
   ·simp only [bN] at h;split at h
    ·exact pure aq (by simp only [cy,aD,aN,f',fj,hu]) h
    ·exact h.elim
   ·exact h
  ·exact h
 case unOp op t x =>
  have aq:∀ C,a8 P C lo o mode vs H=(cy P o vs).map (·,H):=fun C=>by simp only [a8,aD]
  simp only [bN] at h;split at h
  ·split at h
   ·exact pure aq (by simp only [cy,aD,eZ,ke]) h
   ·exact h.elim
  ·split at h
   ·exact pure aq (by simp only [cy,aD,eZ,ke]) h
   ·exact h.elim
  ·exact h.elim
 case convert s d x =>
  have aq:∀ C,a8 P C lo o mode vs H=(cy P o vs).map (·,H):=fun C=>by simp only [a8,aD]
  split at h
  ·rename_i ad af;simp only [bN] at h;split at h
   ·exact pure aq (by simp only [cy,aD,eZ,lp,ad,af]) h
   ·exact h.elim
  ·exact h
 case makeFunc fn first captured =>
  have aq:∀ C,a8 P C lo o mode vs H=(cy P o vs).map (·,H):=fun C=>by simp only [a8,aD]
  split at h
  ·simp only [bN] at h;split at h
   ·rename_i ad;exact pure aq (by simp only [cy,aD,mB];rw [if_pos (ta ad)]) h
   ·exact h.elim
  ·exact h
 case slice t x l bI m =>
  have aq:∀ C,a8 P C lo o mode vs H=(cy P o vs).map (·,H):=fun C=>by simp only [a8,aD]
  split at h
  ·rename_i e hu;split at h
   ·rename_i s ai;simp only [bN] at h;split at h
    ·obtain ⟨r,ad,af⟩:=Ep hu ai h;exact pure aq (by simp only [cy,aD,ad]) af
    ·exact h.elim
   ·exact h
  ·exact h
 case fieldAddr t x f =>
  have aq:∀ C,a8 P C lo o mode vs H=(cy P o vs).map (·,H):=fun C=>by simp only [a8,aD]
  split at h
  ·rename_i bE hu;split at h
   ·rename_i s off aQ;simp only [sf,rZ,Prod.mk.injEq] at aQ;obtain ⟨g,aO,aF,ai,rfl,rfl⟩:=aQ;simp only [bN] at h;split at h
    ·unfold Aa at h;split at h
     ·exact pure aq (by simp [cy,aD,eZ,jq,hu,aO,ai]) h
     ·exact pure aq (by simp [cy,aD,eZ,jq,hu,aO,ai]) h
     ·exact h.elim
    ·exact h.elim
   ·exact h
  ·exact h
 case field t x f =>
  have aq:∀ C,a8 P C lo o mode vs H=(cy P o vs).map (·,H):=fun C=>by simp only [a8,aD]
  split at h
  ·rename_i bE hu;split at h
   ·rename_i a off aQ;simp only [sf,rZ,Prod.mk.injEq] at aQ;obtain ⟨g,aO,aM,cd,rfl,rfl⟩:=aQ;simp only [bN] at h;split at h
    ·obtain ⟨v,ad,af⟩:=D_ cd h;exact pure aq (by simp only [cy,aD,eZ,mZ,hu,aO,r_,ad,sd]) af
    ·exact h.elim
   ·exact h
  ·exact h
 case indexAddr t x i =>
  have aq:∀ C,a8 P C lo o mode vs H=(cy P o vs).map (·,H):=fun C=>by simp only [a8,aD]
  split at h
  ·rename_i e hu;split at h
   ·rename_i s ai;simp only [bN] at h;split at h
    ·unfold Ac at h;split at h
     ·split at h
      ·exact pure aq (by simp [cy,aD,f',hU,hu,ai,gR,h.1]) h.2
      ·exact pure aq (by simp [cy,aD,f',hU,hu,ai,gR,h.1]) h.2
      ·exact h.elim
     ·exact h.elim
    ·exact h.elim
   ·exact h
  ·rename_i len e hu;split at h
   ·rename_i s ai;simp only [bN] at h;split at h
    ·unfold Ad at h;split at h
     ·split at h
      ·exact pure aq (by simp [cy,aD,f',hU,hu,ai,gR,h.1]) h.2
      ·exact pure aq (by simp [cy,aD,f',hU,hu,ai,gR,h.1]) h.2
      ·exact h.elim
     ·exact h.elim
    ·exact h.elim
   ·exact h
  ·exact h
 case extract x i =>
  have aq:∀ C,a8 P C lo o mode vs H=(cy P o vs).map (·,H):=fun C=>by simp only [a8,aD]
  simp only [bN] at h;split at h
  ·obtain ⟨v,ae,h⟩:=ff h;rw [kb] at h;exact pure aq (by simp only [cy,aD,eZ,mY,ae,sd]) h
  ·exact h.elim
end
end Go.Proofs.YtfakoboiahbhaaaGreat.Ab


namespace Go.Proofs.YtfakoboiahbhaaaGreat.Ab
open Go
noncomputable section
def oq (P:Program) (mode lo:Nat) (b0:e6) (args:List I) (H:List au) (v:I) (H':List au):Prop:=∃ C,c' P C∧eV C lo mode b0 args H=some (v,H')
def ly:List I→List I→(List I→Prop)→Prop
 | [],l,K=>K l
 | h::t,l,K=>ly t l fun r=>K (h::r)
theorem lz:∀ (a b:List I) (K:List I→Prop),ly a b K=K (a++b)
 | [],b,K=>rfl
 | h::t,b,K=>by rw [ly,lz t b];rfl
def yf (v:I) (K:I→Prop):Prop:=match v with
 | .ay c n .full=>K (.ay c n .shared)
 | .agg cs=>K (.agg (cs.map I.gT))
 | .tuple cs=>K (.tuple (cs.map I.gT))
 | v=>K v
theorem BO (v:I) (K:I→Prop):yf v K=K v.cr:=by
 cases v with
 | ay c n k=>cases k <;> rfl
 | _=>rfl
def m6:List I→(List I→Prop)→Prop
 | [],K=>K []
 | h::t,K=>yf h fun aX=>m6 t fun jc=>K (aX::jc)
theorem oI:∀ (l:List I) (K:List I→Prop),m6 l K=K (l.map I.cr)
 | [],K=>rfl
 | h::t,K=>by rw [m6,BO,oI t];rfl
def m3 (P:Program) (lo:Nat) (draw:Bool) (mode:Nat) (acc:di) (vs:List I) (H:List au) (K:di→I→List au→Prop):Prop:=match vs with
 | f::args=>match f with
   | .func k first cap=>ly args cap fun r=>ly first r fun as=>match mode with
     | 3=>as.all (cq 8)=true∧m6 as fun gu=>∃ v,lh P k gu v∧(match draw with
       | true=>(∀ p∈acc,p.1=k→p.2.1=gu→p.2.2=v)∧K ((k,gu,v)::acc) v.cr H
       | false=>K acc v.cr H)
     | 6=>match draw with
       | true=>(as.map (il H)).all (cq 8)=true∧∃ gu,(as.map (il H)).map I.cr=gu∧∃ v,gg v=true∧lh P k gu v∧(∀ p∈acc,p.1=k→p.2.1=gu→p.2.2=v)∧K ((k,gu,v)::acc) v.cr H
       | false=>∃ v H',oq P 6 lo (.fn k) as H v H'∧K acc v H'
     | mode=>match draw with
       | true=>False
       | false=>∃ v H',oq P mode lo (.fn k) as H v H'∧K acc v H'
   | .yield l=>match draw with
     | true=>False
     | false=>∃ v H',oq P mode lo (.yield l) args H v H'∧K acc v H'
   | _=>False
 | []=>False
def k2 (P:Program) (lo:Nat) (draw:Bool) (k:hT) (acc:di) (vs:List I) (H:List au) (K:di→I→List au→Prop):Prop:=match k with
 | .call mode=>m3 P lo draw mode acc vs H K
 | k=>bN P lo k vs H (K acc)
def nE (ip:Option Nat) (T:List I) (v:I) (K:List I→Prop):Prop:=match ip with
 | none=>K T
 | some t=>ka v fun v=>i' T t v K
def oV (g:Option (Nat×Bool)) (T:List I) (skip run:Prop):Prop:=match g with
 | none=>run
 | some (t,want)=>hq T t fun v=>match v with
   | .bool b=>(match want with
     | true=>(match b with | true=>run | false=>skip)
     | false=>(match b with | true=>skip | false=>run))
   | .tuple []=>skip
   | _=>False
def hM (P:Program) (lo:Nat) (draw:Bool) (cP:cx) (acc:di) (T:List I) (H:List au) (K:di→List I→List au→Prop):Prop :=
 oV cP.guard T (mF T cP.dst (.tuple []) fun a7=>K acc a7 H) (gf cP.Fy T fun vs fi=>k2 P lo draw cP.k acc vs H fun dy v H'=>lR v fun v=>nE cP.ip fi v fun dS=>mF dS cP.dst v fun dE=>K dy dE H')
def gH (P:Program) (lo:Nat) (draw:Bool):List cx→di→List I→List au→(List I→List au→Prop)→Prop
 | [],_,T,H,K=>K T H
 | cP::r,acc,T,H,K=>hM P lo draw cP acc T H fun dy a7 H'=>match draw with
   | true=>gH P lo draw r dy a7 H' K
   | false=>gH P lo draw r [] a7 H' K
def xn (P:Program) (lo:Nat) (a b:cx) (post:List cx):List cx→di→List I→List au→(List I→List au→Prop)→Prop
 | [],acc,T,H,K=>gH P lo true (a::b::post) acc T H K∧gH P lo true (b::a::post) acc T H K
 | cP::r,acc,T,H,K=>hM P lo true cP acc T H fun dy a7 H'=>xn P lo a b post r dy a7 H' K
def zC (it:Nat) (dst:Option Nat) (T:List I) (H:List au) (K:List I→List au→Prop):Prop:=hq T it fun v=>match v with
 | .ptr r 0=>∃ m since seen clock es,H[r]?=some (.iter m since seen clock)∧H[m]?=some (.map es clock)∧since≤clock∧(∀ e∈es,e.1<since) ∧
   ((∀ e∈es,e.1∈seen)→mF T dst (.tuple [.bool false]) fun a7=>K a7 H) ∧
   ∀ e∈es,e.1 ∉ seen→mF T dst (.tuple [.bool true,e.2.1,e.2.2]) fun a7=>K a7 (H.set r (.iter m since (seen++[e.1]) clock))
 | _=>False
inductive Bi (f:List I→List au→(cB→List I→List au→Prop)→Prop) (T:List I) (H:List au) (Q:cB→List I→List au→Prop):Prop where
 | intro (hR:Nat→List I→List au→Prop) (m:Nat) (aS:hR m T H) (step:∀ m T H,hR m T H→f T H fun e a7 H'=>match e with
   | .normal=>∃ g6,g6<m∧hR g6 a7 H'
   | e=>Q e a7 H')
def pT (k:Option (List Bool)) (T:List I) (K:List I→Prop):Prop:=match k with
 | some k=>kH k T K
 | none=>K T
theorem Dh (k:Option (List Bool)) (T:List I) (K:List I→Prop):pT k T K=K (match k with | some k=>eT k T | none=>T):=by
 cases k with
 | none=>rfl
 | some k=>exact y8 k T K
def nQ:List I→(List I→Prop)→Prop
 | [],K=>K []
 | h::t,K=>nQ t fun jc=>K (h::jc)
theorem zz:∀ (T:List I) (K:List I→Prop),nQ T K=K T
 | [],K=>rfl
 | h::t,K=>by rw [nQ,zz t]
def n4 (P:Program) (A:c8) (fn:FuncId) (lo:Nat) (rl:Option Nat) (f:I) (bh:List Nat) (as bY:Code) (T:List I) (H:List au) (Q:cB→List I→List au→Prop):Prop:=match f with
 | .func k first cap=>inLoop H rl=true∧∃ r H' st cF fn' a7 zM gu x6 iB,Sem P (.fn k) (first++[.yield H.length]++cap) (H++[.loop .ready none fn (T.map I.view) bh as bY A]) lo r H' ∧
   H'[H.length]?=some (.loop st cF fn' a7 zM gu x6 iB)∧st≠.busy∧(match cF with
    | none=>Q .normal (T.map I.settle) (H'.set H.length .dead)
    | some .ret=>Q .ret (T.map I.settle) (H'.set H.length .dead)
    | some (.exit id)=>Q (.exit id) (T.map I.settle) (H'.set H.length .dead)
    | _=>False)
 | _=>False
def dD (P:Program) (A:c8) (fn:FuncId) (lo:Nat) (rl:Option Nat):eA→List I→List au→(cB→List I→List au→Prop)→Prop
 | .skip,T,H,Q=>Q .normal T H
 | .j2 draw l,T,H,Q=>gH P lo draw l [] T H (Q .normal)
 | .seq a b,T,H,Q=>dD P A fn lo rl a T H fun e a7 H'=>match e with
   | .normal=>dD P A fn lo rl b a7 H' Q
   | e=>Q e a7 H'
 | .cond c a b,T,H,Q=>match c with
   | .sl t=>hq T t fun v=>(match v with
     | .bool x=>(match x with | true=>dD P A fn lo rl a T H Q | false=>dD P A fn lo rl b T H Q)
     | .dq=>dD P A fn lo rl a T H Q∧dD P A fn lo rl b T H Q
     | _=>False)
   | .iC v=>(match v with
     | .bool x=>(match x with | true=>dD P A fn lo rl a T H Q | false=>dD P A fn lo rl b T H Q)
     | .dq=>dD P A fn lo rl a T H Q∧dD P A fn lo rl b T H Q
     | _=>False)
   | _=>False
 | .block id c,T,H,Q=>dD P A fn lo rl c T H fun e a7 H'=>match e with
   | .exit bx=>(match Nat.beq bx id with | true=>Q .normal a7 H' | false=>Q (.exit bx) a7 H')
   | e=>Q e a7 H'
 | .loop cD c,T,H,Q=>pT cD T fun T=>Bi (fun T H Q=>nQ T fun T=>dD P A fn lo rl c T H fun e a7 H'=>match e with
   | .normal=>pT cD a7 fun a7=>Q .normal a7 H'
   | e=>Q e a7 H') T H Q
 | .exit id,T,H,Q=>Q (.exit id) T H
 | .ret,T,H,Q=>Q .ret T H
 | .Am f bh as bY,T,H,Q=>match f with
   | .sl t=>hq T t fun v=>n4 P A fn lo rl v bh as bY T H Q
   | .iC v=>n4 P A fn lo rl v bh as bY T H Q
   | _=>False
 | .zB it dst l,T,H,Q=>zC it dst T H fun a7 H'=>gH P lo false l [] a7 H' (Q .normal)
 | .two pre a b post,T,H,Q=>xn P lo a b post pre [] T H (Q .normal)
def mg (o:Oper) (mode:Nat):Option Nat:=match mode with
 | 0=>none
 | 4=>none
 | _=>match o.op with
   | .move (.tmp t) | .assign (.tmp t)=>some t
   | _=>none
def k1 (P:Program) (ops:Array Oper) (o:Oper) (an:b5):Option cx:=match o.guard with
 | none=>some ⟨o.dst,hE (dP o) an.takes (opsOf o),none,mg o an.mode,hd P o an.mode⟩
 | some (j,want)=>match (ops[j]?).bind (·.dst) with
   | some d=>some ⟨o.dst,hE (dP o) an.takes (opsOf o),some (d,want),mg o an.mode,hd P o an.mode⟩
   | none=>none
def g5 (P:Program) (ops:Array Oper):List Oper→List b5→Option (List cx)
 | [],_=>some []
 | o::r,as=>match k1 P ops o (as.headD {}),g5 P ops r as.tail with
   | some cP,some l=>some (cP::l)
   | _,_=>none
def w9 (P:Program) (ops:Array Oper) (draw:Bool) (as:List b5):Option eA:=match draw,ops.toList with
 | false,o::rest=>(match o.op,o.guard with
   | .next (.tmp it) false,none=>(g5 P ops rest as.tail).map (.zB it o.dst)
   | _,_=>(g5 P ops (o::rest) as).map (.j2 false))
 | d,l=>(g5 P ops l as).map (.j2 d)
def fe (P:Program) (ops:Array Oper) (an:List b5):List Nat→Option (List cx)
 | []=>some []
 | i::r=>match ops[i]? with
   | some o=>match k1 P ops o (an.getD i {}),fe P ops an r with
     | some cP,some l=>some (cP::l)
     | _,_=>none
   | none=>none
def nR (cP:cx):Bool:=match cP.k with | .call _=>false | _=>true
def nI (P:Program) (ops:Array Oper) (an:List b5) (p:Nat):Option eA :=
 match fe P ops an (List.range p),fe P ops an [p],fe P ops an [p+1],fe P ops an (List.range' (p+2) (ops.size-(p+2))) with
 | some pre,some [a],some [b],some post=>match (a::b::post).all nR with
   | true=>some (.two pre a b post)
   | false=>none
 | _,_,_,_=>none
def n0 (x:Operand):iv:=match x with
 | .tmp t=>.sl t
 | x=>.iC (aA [] x)
def dU (P:Program) (A:c8):Code→Nat→Option eA
 | .skip,_=>some .skip
 | .region id ops draw,_=>match A.h_ with
   | []=>match j_ A id draw with
     | some p=>nI P ops (A.ops.getD id []) p
     | none=>w9 P ops draw (A.ops.getD id [])
   | _=>none
 | .seq a b,aY=>match dU P A a aY,dU P A b aY with
   | some x,some y=>some (.seq x y)
   | _,_=>none
 | .cond c a b,aY=>match dU P A a aY,dU P A b aY with
   | some x,some y=>some (.cond (n0 c) x y)
   | _,_=>none
 | .block id c,_=>(dU P A c id).map (.block id)
 | .loop c,aY=>(dU P A c aY).map (.loop (lH aY A.h9))
 | .exit id,_=>some (.exit id)
 | .ret,_=>some .ret
 | .scope c,aY=>dU P A c aY
 | .label _,_=>some .skip
 | .rangeFunc f bh as bY,_=>some (.Am (n0 f) bh.toList as bY)
 | _,_=>none
end
section
variable {P:Program}
theorem y4 (o:Oper) (mode:Nat) (T:List I) (v:I) (K:List I→Prop):nE (mg o mode) T v K=K (inPlace o mode T v):=by
 by_cases aS:mode=0
 ·subst aS;rfl
 by_cases a6:mode=4
 ·subst a6;rfl
 have e1:mg o mode=(match o.op with | .move (.tmp t) | .assign (.tmp t)=>some t | _=>none):=by
  unfold mg;split
  ·exact absurd rfl aS
  ·exact absurd rfl a6
  ·rfl
 have ck:inPlace o mode T v=(match o.op with | .move (.tmp t) | .assign (.tmp t)=>gK T t v.view | _=>T):=by
  unfold inPlace;split
  ·exact absurd rfl aS
  ·exact absurd rfl a6
  ·rfl
 rw [e1,ck];cases o.op <;> try rfl
 case move x=>cases x <;> first | rfl | (simp only [nE,kb,j6])
 case assign x=>cases x <;> first | rfl | (simp only [nE,kb,j6])
theorem Ba {lo:Nat} {draw:Bool} {ops:Array Oper} {o:Oper} {an:b5} {cP:cx} (aj:k1 P ops o an=some cP) {acc:di} {T:List I} {H:List au} {K:di→List I→List au→Prop}
  (h:hM P lo draw cP acc T H K) :
  (ew ops o T=some false∧K acc (put T o.dst (.tuple [])) H) ∨
  (ew ops o T=some true∧k2 P lo draw (hd P o an.mode) acc (fr (dP o) (rd T an.takes (opsOf o)).1) H fun dy v H'=>K dy (put (inPlace o an.mode (rd T an.takes (opsOf o)).2 v) o.dst v) H'):=by
 unfold k1 at aj;split at aj
 ·rename_i aO;cases aj;simp only [hM,oV,iZ,nj,y4,xi] at h;exact .inr ⟨by simp [ew,aO],h⟩
 ·rename_i j want aO;split at aj
  ·rename_i d aZ;cases aj;simp only [hM,oV,iZ,nj,y4,xi,iE] at h;(have hw:∀ b,c5 T d=.bool b→ew ops o T=some (b == want):=fun b ag=>by simp [ew,aO,aZ,ag]);split at h
   ·rename_i b ag;have hw:=hw b ag;cases want <;> cases b <;> simp only at h
    ·exact .inr ⟨hw,h⟩
    ·exact .inl ⟨hw,h⟩
    ·exact .inl ⟨hw,h⟩
    ·exact .inr ⟨hw,h⟩
   ·rename_i ag;exact .inl ⟨by simp [ew,aO,aZ,ag],h⟩
   ·exact h.elim
  ·cases aj
theorem jb {C:b6} {lo:Nat} {ops:Array Oper} {o:Oper} {an:b5} {T:List I} {H:List au} {v:I} {H':List au} (hw:ew ops o T=some true)
  (h:a8 P C lo o an.mode (fr (dP o) (rd T an.takes (opsOf o)).1) H=some (v,H')):dv P C lo ops o an ⟨T,H⟩=some ⟨put (inPlace o an.mode (rd T an.takes (opsOf o)).2 v) o.dst v,H'⟩:=by
 simp only [dv,hw,Ab.execOp];unfold fr at h;cases ak:dP o <;> rw [ak] at h <;> simp only at h ⊢ <;> rw [h] <;> rfl
theorem A0 {C:b6} {lo:Nat} {ops:Array Oper} {o:Oper} {an:b5} {T:List I} {H:List au} (hw:ew ops o T=some false):dv P C lo ops o an ⟨T,H⟩=some ⟨put T o.dst (.tuple []),H⟩:=by
 simp only [dv,hw]
theorem z7 {o:Oper} {mode zy:Nat} (h:hd P o mode=.call zy):zy=mode∧∃ c f,o.op=.call c∧c.callee=.value f:=by
 cases aD:o.op
 case call c =>
  simp only [hd,aD] at h;cases ao:c.callee with
  | value f=>simp only [ao] at h;cases h;exact ⟨rfl,c,f,rfl,ao⟩
  | invoke x n=>simp only [ao] at h;cases h
  | builtin b =>
    simp only [ao] at h;repeat' (first | contradiction | split at h)
 all_goals simp only [hd,aD] at h
 all_goals (try unfold n1 at h)
 all_goals (repeat' (first | contradiction | split at h))
theorem z9 {lo:Nat} {draw:Bool} {k:hT} {acc:di} {vs:List I} {H:List au} {K:di→I→List au→Prop} (h:k2 P lo draw k acc vs H K) :
  (∃ mode,k=.call mode∧m3 P lo draw mode acc vs H K)∨bN P lo k vs H (K acc):=by
 unfold k2 at h;split at h
 ·exact .inl ⟨_,rfl,h⟩
 ·exact .inr h
theorem mA {C:b6} {lo mode:Nat} {k:FuncId} {first cap args:List I} {H:List au}:hA C lo mode H (.func k first cap::args)=eV C lo mode (.fn k) (first++args++cap) H:=rfl
theorem zO {C:b6} {acc:di} (ch:hO C acc) {lo:Nat} {k:FuncId} {as:List I} {v:I} (aC:as.all (cq 8)=true) (hm:(k,as.map I.cr,v)∈acc) (H:List au) :
  eV C lo 3 (.fn k) as H=some (v.cr,H):=by
 obtain ⟨r,a2,ad,af⟩:=ch _ hm;simp only [eV,aC,ad,r_,af,sd]
theorem D' {C:b6} {acc:di} (ch:hO C acc) {lo:Nat} {k:FuncId} {as:List I} {v:I} (H:List au) (aC:(as.map (il H)).all (cq 8)=true) (ai:gg v=true) (hm:(k,(as.map (il H)).map I.cr,v)∈acc) :
  eV C lo 6 (.fn k) as H=some (v.cr,H):=by
 obtain ⟨r,a2,ad,af⟩:=ch _ hm;simp only [eV,aC,ad,r_,af,ai]
theorem xV {lo:Nat} {ops:Array Oper} {o:Oper} {an:b5} {cP:cx} (aj:k1 P ops o an=some cP) {acc:di} (hs:hl P acc) {T:List I} {H:List au} {K:di→List I→List au→Prop}
  (h:hM P lo true cP acc T H K):∃ dy a7 H',hl P dy∧(∀ p∈acc,p∈dy)∧(∀ C,hO C dy→dv P C lo ops o an ⟨T,H⟩=some ⟨a7,H'⟩)∧K dy a7 H':=by
 rcases Ba aj h with ⟨hw,av⟩ | ⟨hw,av⟩
 ·exact ⟨acc,_,_,hs,fun _ h=>h,fun C _=>A0 hw,av⟩
 ·rcases z9 av with ⟨mode,hm,av⟩ | av
  ·obtain ⟨rfl,c,f,aD,ao⟩:=z7 hm;generalize h8:fr (dP o) (rd T an.takes (opsOf o)).1=vs at av;(have aq:∀ C,a8 P C lo o an.mode vs H=hA C lo an.mode H vs:=fun C=>by simp only [a8,aD,ao]);unfold m3 at av;split at av
   ·split at av
    ·(rename_i args _ k first cap);rw [lz,lz] at av;split at av
     ·rename_i jH;obtain ⟨aC,av⟩:=av;rw [oI] at av;obtain ⟨v,l5,lQ,av⟩:=av;refine ⟨_,_,_,⟨fun p aC=>?_,fun p aC q a3 ad af=>?_⟩,fun p aC=>tX _ aC,fun C ch=>jb hw ?_,av⟩
      ·rcases sk.1 aC with rfl | aC
       ·exact l5
       ·exact hs.1 p aC
      ·rcases sk.1 aC with rfl | aC <;> rcases sk.1 a3 with rfl | a3
       ·rfl
       ·exact (lQ q a3 ad.symm af.symm).symm
       ·exact lQ p aC ad af
       ·exact hs.2 p aC q a3 ad af
      ·rw [h8,aq C,jH,mA,sj];exact zO ch aC (ur) H
     ·rename_i jH;obtain ⟨aC,gu,rfl,v,ai,l5,lQ,av⟩:=av;refine ⟨_,_,_,⟨fun p aC=>?_,fun p aC q a3 ad af=>?_⟩,fun p aC=>tX _ aC,fun C ch=>jb hw ?_,av⟩
      ·rcases sk.1 aC with rfl | aC
       ·exact l5
       ·exact hs.1 p aC
      ·rcases sk.1 aC with rfl | aC <;> rcases sk.1 a3 with rfl | a3
       ·rfl
       ·exact (lQ q a3 ad.symm af.symm).symm
       ·exact lQ p aC ad af
       ·exact hs.2 p aC q a3 ad af
      ·rw [h8,aq C,jH,mA,sj];exact D' ch H aC ai (ur)
     ·exact av.elim
    ·exact av.elim
    ·exact av.elim
   ·exact av.elim
  ·obtain ⟨v,H',ad,af⟩:=z8 av;exact ⟨acc,_,_,hs,fun _ h=>h,fun C _=>jb hw (ad C),af⟩
theorem FO {lo:Nat} {ops:Array Oper} {o:Oper} {an:b5} {cP:cx} (aj:k1 P ops o an=some cP) {acc:di} {T:List I} {H:List au} {K:di→List I→List au→Prop}
  (h:hM P lo false cP acc T H K):iw P lo ops o an ⟨T,H⟩ fun aF=>K acc aF.T aF.H:=by
 rcases Ba aj h with ⟨hw,av⟩ | ⟨hw,av⟩
 ·exact .inl ⟨_,_,yd,A0 hw,av⟩
 ·rcases z9 av with ⟨mode,hm,av⟩ | av
  ·obtain ⟨rfl,c,f,aD,ao⟩:=z7 hm;generalize h8:fr (dP o) (rd T an.takes (opsOf o)).1=vs at av;(have aq:∀ C,a8 P C lo o an.mode vs H=hA C lo an.mode H vs:=fun C=>by simp only [a8,aD,ao]);unfold m3 at av;split at av
   ·split at av
    ·(rename_i args _ k first cap);rw [lz,lz] at av;split at av
     ·rename_i jH;obtain ⟨aC,av⟩:=av;rw [oI] at av;obtain ⟨v,l5,av⟩:=av
      obtain ⟨C,bt,ch⟩:=oz (acc:=[(k,(first++(args++cap)).map I.cr,v)]) (P:=P) ⟨fun p aC=>by simp only [sB] at aC;subst aC;exact l5,fun p aC q a3 _ _=>by
       simp only [sB] at aC a3;subst aC;subst a3;rfl⟩
      refine .inl ⟨C,_,bt,jb hw (v:=v.cr) (H':=H) ?_,av⟩;rw [h8,aq C,jH,mA,sj];exact zO ch aC (ur) H
     ·rename_i jH;obtain ⟨v,H',⟨C,bt,e9⟩,av⟩:=av;refine .inl ⟨C,_,bt,jb hw (v:=v) (H':=H') ?_,av⟩;rw [h8,aq C,jH,mA,sj];exact e9
     ·obtain ⟨v,H',⟨C,bt,e9⟩,av⟩:=av;refine .inl ⟨C,_,bt,jb hw (v:=v) (H':=H') ?_,av⟩;rw [h8,aq C,mA,sj];exact e9
    ·obtain ⟨v,H',⟨C,bt,e9⟩,av⟩:=av;refine .inl ⟨C,_,bt,jb hw (v:=v) (H':=H') ?_,av⟩;rw [h8,aq C];exact e9
    ·exact av.elim
   ·exact av.elim
  ·obtain ⟨v,H',ad,af⟩:=z8 av;exact .inl ⟨_,_,yd,jb hw (ad _),af⟩
end
end Go.Proofs.YtfakoboiahbhaaaGreat.Ab


namespace Go.Proofs.YtfakoboiahbhaaaGreat.Ab
open Go
section
variable {P:Program}
theorem iw.mono {lo:Nat} {ops:Array Oper} {o:Oper} {an:b5} {s:a5} {K K':a5→Prop} (h:iw P lo ops o an s K) (av:∀ s,K s→K' s):iw P lo ops o an s K':=by
 rcases h with ⟨C,aF,ad,af,aG⟩ | ⟨it,r,m,since,seen,es,clock,aB,aH,aR,bj,bb,bf,c1,da,dF⟩
 ·exact .inl ⟨C,aF,ad,af,av _ aG⟩
 ·exact .inr ⟨it,r,m,since,seen,es,clock,aB,aH,aR,bj,bb,bf,c1,fun h=>av _ (da h),fun e ad af=>av _ (dF e ad af)⟩
theorem Ar {lo:Nat} {ops:Array Oper} {K K':a5→Prop} (av:∀ s,K s→K' s):∀ {l:List Oper} {as:List b5} {s:a5},runN P lo ops l as s K→runN P lo ops l as s K'
 | [],_,s,h=>av s h
 | _::_,_,_,h=>iw.mono h fun _ aX=>Ar av aX
theorem zg {f g:a5→(cB→a5→Prop)→Prop} (ks:∀ s Q cG,(∀ e s,Q e s→cG e s)→f s Q→g s cG) {Q cG:cB→a5→Prop} (a3:∀ e s,Q e s→cG e s):∀ {n:Nat} {s:a5},fw f n s Q→fw g n s cG
 | 0,s,h=>h
 | n+1,s,h=>ks s _ _ (fun e aF aX=>by
   cases e with
   | normal=>exact zg ks a3 aX
   | ret=>exact a3 _ _ aX
   | exit id=>exact a3 _ _ aX) h
theorem k_ {A:c8} {fn:FuncId} {lo:Nat} {rl:Option Nat}:∀ {c:Code} {aY:Nat} {s:a5} {Q cG:cB→a5→Prop},(∀ e s,Q e s→cG e s)→c3 P A fn lo rl c aY s Q→c3 P A fn lo rl c aY s cG:=by
 intro c
 induction c with
 | skip=>intro aY s Q cG a3 h;exact a3 _ _ h
 | label l=>intro aY s Q cG a3 h;exact a3 _ _ h
 | ret=>intro aY s Q cG a3 h;exact a3 _ _ h
 | exit id=>intro aY s Q cG a3 h;exact a3 _ _ h
 | goto l=>intro aY s Q cG a3 h;exact h
 | refuse y=>intro aY s Q cG a3 h;exact h
 | region id ops draw =>
   intro aY s Q cG a3 h;simp only [c3] at h ⊢;split at h
   ·obtain ⟨acc,s1,s2,ad,af,aG,a6⟩:=h;exact ⟨acc,s1,s2,ad,af,a3 _ _ aG,a3 _ _ a6⟩
   cases draw with
   | true=>obtain ⟨acc,aF,ad,af,aG⟩:=h;exact ⟨acc,aF,ad,af,a3 _ _ aG⟩
   | false=>exact Ar (fun s h=>a3 _ _ h) h
 | seq a b fb fq =>
   intro aY s Q cG a3 h;refine fb (fun e aF aX=>?_) h;cases e with
   | normal=>exact fq a3 aX
   | ret=>exact a3 _ _ aX
   | exit id=>exact a3 _ _ aX
 | cond c a b fb fq =>
   intro aY s Q cG a3 h;rcases h with ⟨t,ax,h⟩ | ⟨ax,ad,af⟩
   ·refine .inl ⟨t,ax,?_⟩;cases t with
    | true=>exact fb a3 h
    | false=>exact fq a3 h
   ·exact .inr ⟨ax,fb a3 ad,fq a3 af⟩
 | block id c a_ =>
   intro aY s Q cG a3 h;refine a_ (fun e aF aX=>?_) h;cases e with
   | normal=>exact a3 _ _ aX
   | ret=>exact a3 _ _ aX
   | exit bx =>
     simp only at aX ⊢;by_cases aE:bx=id
     ·simp only [aE,if_true] at aX ⊢;exact a3 _ _ aX
     ·simp only [aE,if_false] at aX ⊢;exact a3 _ _ aX
 | loop c a_ =>
   intro aY s Q cG a3 h;obtain ⟨n,h⟩:=h;refine ⟨n,?_⟩;refine zg ?_ a3 h;intro s Q cG a3 h;exact a_ a3 h
 | scope c a_=>intro aY s Q cG a3 h;exact a_ a3 h
 | rangeFunc f bh as bY _ _ =>
   intro aY s Q cG a3 h;obtain ⟨C,e,aF,ad,af,aG⟩:=h;exact ⟨C,e,aF,ad,af,a3 _ _ aG⟩
theorem nZ {lo:Nat} {ops:Array Oper}:∀ {l:List Oper} {as:List b5} {rl:List cx} {acc:di} {T:List I} {H:List au} {K:List I→List au→Prop},g5 P ops l as=some rl→gH P lo false rl acc T H K →
  runN P lo ops l as ⟨T,H⟩ fun aF=>K aF.T aF.H
 | [],as,rl,acc,T,H,K,ak,h=>by simp only [g5,Option.some.injEq] at ak;subst ak;exact h
 | o::r,as,rl,acc,T,H,K,ak,h=>by
   simp only [g5] at ak;split at ak
   ·rename_i cP l' ad af;simp only [Option.some.injEq] at ak;subst ak;exact iw.mono (FO ad h) fun aF aX=>nZ af aX
   ·cases ak
theorem BT {C:b6} {lo:Nat} {ops:Array Oper} {o:Oper} {r:List Oper} {as:List b5} {s:a5}:eJ P C lo ops (o::r) as s=(dv P C lo ops o (as.headD {}) s).bind (eJ P C lo ops r as.tail):=by
 rw [eJ];unfold dv;cases hw:ew ops o s.T with
 | none=>rfl
 | some b=>cases b <;> rfl
theorem zY {lo:Nat} {ops:Array Oper}:∀ {l:List Oper} {as:List b5} {rl:List cx} {acc:di} {T:List I} {H:List au} {K:List I→List au→Prop},g5 P ops l as=some rl→hl P acc→gH P lo true rl acc T H K →
  ∃ dy a7 H',hl P dy∧(∀ p∈acc,p∈dy)∧(∀ C,hO C dy→eJ P C lo ops l as ⟨T,H⟩=some ⟨a7,H'⟩)∧K a7 H'
 | [],as,rl,acc,T,H,K,ak,cd,h=>by simp only [g5,Option.some.injEq] at ak;subst ak;exact ⟨acc,T,H,cd,fun _ h=>h,fun _ _=>rfl,h⟩
 | o::r,as,rl,acc,T,H,K,ak,cd,h=>by
   simp only [g5] at ak;split at ak
   ·rename_i cP l' ad af;simp only [Option.some.injEq] at ak;subst ak;obtain ⟨x1,fi,H1,aB,aH,aR,bj⟩:=xV ad cd h;obtain ⟨oy,dS,a2,bo,cI,eB,js⟩:=zY af aB bj;refine ⟨oy,dS,a2,bo,fun p aC=>cI p (aH p aC),fun C ch=>?_,js⟩;rw [BT,aR C (fun p aC=>ch p (cI p aC)),r_];exact eB C ch
   ·cases ak
theorem n5 {C:b6} {lo:Nat} {ops:Array Oper} {an:List b5}:∀ (a b:List Nat) (s:a5),cw P C lo ops an (a++b) s=(cw P C lo ops an a s).bind (cw P C lo ops an b)
 | [],b,s=>rfl
 | i::a,b,s=>by
   rw [List.cons_append];simp only [cw];cases ops[i]? with
   | none=>exact n5 a b s
   | some o =>
     dsimp only;cases dv P C lo ops o (an.getD i {}) s with
     | none=>rfl
     | some s1=>exact n5 a b s1
theorem FP {lo:Nat} {cP:cx} (aN:nR cP=true) {acc:di} {T:List I} {H:List au} {K K':di→List I→List au→Prop} (fE:K acc=K' acc) (h:hM P lo true cP acc T H K):hM P lo true cP acc T H K':=by
 have e:∀ (vs:List I) (H:List au) (F:di→I→List au→Prop),k2 P lo true cP.k acc vs H F=bN P lo cP.k vs H (F acc):=fun vs H F=>by
  unfold nR at aN;unfold k2;split
  ·rename_i m av;rw [av] at aN;cases aN
  ·rfl
 unfold hM at h ⊢;simp only [e,fE] at h ⊢;exact h
theorem xl {lo:Nat} {ops:Array Oper} {an:List b5}:∀ {O:List Nat} {rl:List cx} {acc:di} {T:List I} {H:List au} {K:List I→List au→Prop},fe P ops an O=some rl→rl.all nR=true→hl P acc→gH P lo true rl acc T H K →
  ∃ a7 H',(∀ C,hO C acc→cw P C lo ops an O ⟨T,H⟩=some ⟨a7,H'⟩)∧K a7 H'
 | [],rl,acc,T,H,K,ak,_,cd,h=>by simp only [fe,Option.some.injEq] at ak;subst ak;exact ⟨T,H,fun _ _=>rfl,h⟩
 | i::r,rl,acc,T,H,K,ak,aN,cd,h=>by
   simp only [fe] at ak;split at ak
   ·rename_i o hi;split at ak
    ·rename_i cP l' ad af;simp only [Option.some.injEq] at ak;subst ak;simp only [tr,sx] at aN;have aX:=FP aN.1 (K':=fun dy a7 H'=>dy=acc∧gH P lo true l' acc a7 H' K) (by funext a7 H';simp) h;obtain ⟨x1,fi,H1,_,_,aR,rfl,bj⟩:=xV ad cd aX;obtain ⟨dS,a2,eB,js⟩:=xl af aN.2 cd bj;refine ⟨dS,a2,fun C ch=>?_,js⟩;simp only [cw,hi];rw [aR C ch,r_];exact eB C ch
    ·cases ak
   ·cases ak
theorem zZ {lo:Nat} {ops:Array Oper} {an:List b5} {a b:cx} {post:List cx}:∀ {O:List Nat} {rl:List cx} {acc:di} {T:List I} {H:List au} {K:List I→List au→Prop},fe P ops an O=some rl→hl P acc→xn P lo a b post rl acc T H K →
  ∃ dy a7 H',hl P dy∧(∀ p∈acc,p∈dy)∧(∀ C,hO C dy→cw P C lo ops an O ⟨T,H⟩=some ⟨a7,H'⟩)∧gH P lo true (a::b::post) dy a7 H' K∧gH P lo true (b::a::post) dy a7 H' K
 | [],rl,acc,T,H,K,ak,cd,h=>by simp only [fe,Option.some.injEq] at ak;subst ak;exact ⟨acc,T,H,cd,fun _ h=>h,fun _ _=>rfl,h.1,h.2⟩
 | i::r,rl,acc,T,H,K,ak,cd,h=>by
   simp only [fe] at ak;split at ak
   ·rename_i o hi;split at ak
    ·rename_i cP l' ad af;simp only [Option.some.injEq] at ak;subst ak;obtain ⟨x1,fi,H1,aB,aH,aR,bj⟩:=xV ad cd h;obtain ⟨oy,dS,a2,bo,cI,eB,js⟩:=zZ af aB bj;refine ⟨oy,dS,a2,bo,fun p aC=>cI p (aH p aC),fun C ch=>?_,js⟩;simp only [cw,hi];rw [aR C (fun p aC=>ch p (cI p aC)),r_];exact eB C ch
    ·cases ak
   ·cases ak
theorem nH {ops:Array Oper} {an:List b5} {i:Nat} {r:List Nat} {a:cx} {l:List cx} (ad:fe P ops an [i]=some [a]) (af:fe P ops an r=some l):fe P ops an (i::r)=some (a::l):=by
 simp only [fe] at ad ⊢;split at ad
 ·rename_i o aq;split at ad
  ·rename_i cP l' aG a6;simp only [Option.some.injEq,List.cons.injEq] at ad a6;obtain ⟨rfl,rfl⟩:=ad;simp only [aG,af]
  ·cases ad
 ·cases ad
theorem zT {n p:Nat} (a3:p+1<n):List.range n=List.range p++(p::(p+1)::List.range' (p+2) (n-(p+2))):=by
 apply List.ext_getElem?;intro i;rw [List.getElem?_append];simp only [List.length_range];by_cases h:i<p
 ·rw [if_pos h,u7 h,u7 (by omega)]
 ·rw [if_neg h];obtain ⟨k,rfl⟩:∃ k,i=p+k:=⟨i-p,by omega⟩;rw [show p+k-p=k by omega]
  match k with
  | 0=>rw [u7 (by omega)];rfl
  | 1=>rw [u7 (by omega)];rfl
  | k+2 =>
    simp only [List.getElem?_cons_succ];by_cases af:p+(k+2)<n
    ·rw [u7 af,List.getElem?_range' (by omega)];congr 1;omega
    ·rw [tB (by simp;omega),tB (by simp;omega)]
theorem FB {n p:Nat} (a3:p+1<n):fh n p (p+1)=List.range p++((p+1)::p::List.range' (p+2) (n-(p+2))):=by
 unfold fh;rw [zT a3,List.map_append];congr 1
 ·conv=>rhs;rw [←u_ (List.range p)]
  refine tR fun i hi=>?_;have:=sJ.1 hi;rw [if_neg (by omega),if_neg (by omega)];rfl
 ·rw [se,se,if_pos rfl,if_neg (by omega),if_pos rfl];congr 2;conv=>rhs;rw [←u_ (List.range' _ _)]
  refine tR fun i hi=>?_;have:=List.mem_range'_1.1 hi;rw [if_neg (by omega),if_neg (by omega)];rfl
theorem Dm {A:c8} {fn:FuncId} {lo:Nat} {rl:Option Nat} {id:Nat} {ops:Array Oper} {draw:Bool} {aY p:Nat} {rc:eA} (aK:A.h_=[]) (ax:j_ A id draw=some p) (a3:p+1<ops.size) (ak:nI P ops (A.ops.getD id []) p=some rc)
  {T:List I} {H:List au} {Q:cB→List I→List au→Prop} (h:dD P A fn lo rl rc T H Q):c3 P A fn lo rl (.region id ops draw) aY ⟨T,H⟩ fun e s=>Q e s.T s.H:=by
 have av:eY A.h_ id ⟨T,H⟩=⟨T,H⟩:=by rw [aK];rfl
 unfold nI at ak;split at ak
 ·rename_i pre a b post ad af aG a6;split at ak
  ·rename_i aN;simp only [Option.some.injEq] at ak;subst ak;obtain ⟨acc,fi,H1,aB,_,aR,bj,bb⟩:=zZ ad ⟨fun p aC=>by simp at aC,fun p aC=>by simp at aC⟩ h;simp only [tr,sx] at aN;obtain ⟨dS,a2,bo,cI⟩:=xl (nH af (nH aG a6)) (by simp only [tr,sx];exact aN) aB bj;obtain ⟨dE,hQ,a',bk⟩:=xl (nH aG (nH af a6)) (by simp only [tr,sx];exact ⟨aN.2.1,aN.1,aN.2.2⟩) aB bb;simp only [c3,ax,av];refine ⟨acc,⟨dS,a2⟩,⟨dE,hQ⟩,aB,fun C _ ch=>⟨?_,?_⟩,cI,bk⟩
   ·rw [zT a3,n5,aR C ch];exact bo C ch
   ·rw [FB a3,n5,aR C ch];exact a' C ch
  ·cases ak
 ·cases ak
theorem Dl {A:c8} {fn:FuncId} {lo:Nat} {rl:Option Nat} {id:Nat} {ops:Array Oper} {draw:Bool} {aY:Nat} {rc:eA} (aK:A.h_=[]) (ax:j_ A id draw=none) (ak:w9 P ops draw (A.ops.getD id [])=some rc)
  {T:List I} {H:List au} {Q:cB→List I→List au→Prop} (h:dD P A fn lo rl rc T H Q):c3 P A fn lo rl (.region id ops draw) aY ⟨T,H⟩ fun e s=>Q e s.T s.H:=by
 have av:eY A.h_ id ⟨T,H⟩=⟨T,H⟩:=by rw [aK];rfl
 have gen:∀ {d:Bool} {l:List Oper},ops.toList=l→draw=d→(g5 P ops l (A.ops.getD id [])).map (.j2 d)=some rc→c3 P A fn lo rl (.region id ops draw) aY ⟨T,H⟩ fun e s=>Q e s.T s.H:=fun {d l} l4 aZ fa=>by
  clear ak;simp only [rZ] at fa;obtain ⟨Ew,fa,rfl⟩:=fa;subst aZ;cases draw with
  | true =>
    obtain ⟨dy,a7,H',aB,_,aR,bj⟩:=zY fa ⟨fun p aC=>by simp at aC,fun p aC=>by simp at aC⟩ h;simp only [c3,ax];exact ⟨dy,⟨a7,H'⟩,aB,fun C _ ch=>by rw [av,l4];exact aR C ch,bj⟩
  | false =>
    simp only [c3,ax];rw [av,l4];exact nZ fa h
 unfold w9 at ak;split at ak
 ·rename_i o rest l4;split at ak
  ·rename_i it aD aO;simp only [rZ] at ak;obtain ⟨Ew,ak,rfl⟩:=ak;simp only [c3,ax];rw [av,l4];refine .inr ?_;simp only [dD,zC,iE] at h;split at h
   ·rename_i r aj;obtain ⟨m,since,seen,clock,es,aB,aH,aR,bj,bb,bf⟩:=h;simp only [xi] at bb bf;exact ⟨.tmp it,r,m,since,seen,es,clock,aD,aO,aj,aB,aH,aR,bj,fun h=>nZ ak (bb h),fun e ad af=>nZ ak (bf e ad af)⟩
   ·exact h.elim
  ·exact gen l4 rfl ak
 ·exact gen rfl rfl ak
theorem fw.more {f:a5→(cB→a5→Prop)→Prop} {Q:cB→a5→Prop} (aQ:∀ s Q cG,(∀ e s,Q e s→cG e s)→f s Q→f s cG):∀ {n:Nat} {s:a5},fw f n s Q→fw f (n+1) s Q
 | 0,s,h=>h.elim
 | n+1,s,h=>aQ _ _ _ (fun e aF aX=>by
    cases e with
    | normal=>exact fw.more aQ aX
    | ret=>exact aX
    | exit id=>exact aX) h
theorem Dq {f:a5→(cB→a5→Prop)→Prop} {Q:cB→a5→Prop} (hR:Nat→a5→Prop) (step:∀ m s,hR m s→f s fun e aF=>match e with | .normal=>∃ g6,g6<m∧hR g6 aF | e=>Q e aF)
  (aQ:∀ s Q cG,(∀ e s,Q e s→cG e s)→f s Q→f s cG):∀ (m:Nat) (s:a5),hR m s→fw f (m+1) s Q:=by
 intro m
 induction m using Nat.strongRecOn with
 | _ m a_ =>
   intro s h;refine aQ _ _ _ (fun e aF aX=>?_) (step m s h);cases e with
   | normal =>
     obtain ⟨g6,hm,aX⟩:=aX
     have:∀ k,fw f (g6+1+k) aF Q:=fun k=>by
      induction k with
      | zero=>exact a_ g6 hm aF aX
      | succ k Db=>exact fw.more aQ Db
     (have e:m=g6+1+(m-(g6+1)):=by omega);rw [e];exact this _
   | ret=>exact aX
   | exit id=>exact aX
theorem w_ {A:c8} {fn:FuncId} {lo:Nat} {rl:Option Nat}:∀ {c:Code} {aY:Nat} {rc:eA} {T:List I} {H:List au} {Q:cB→List I→List au→Prop},dU P A c aY=some rc→dD P A fn lo rl rc T H Q →
  c3 P A fn lo rl c aY ⟨T,H⟩ fun e s=>Q e s.T s.H:=by
 intro c
 induction c with
 | skip=>intro aY rc T H Q ak h;simp only [dU,Option.some.injEq] at ak;subst ak;exact h
 | label l=>intro aY rc T H Q ak h;simp only [dU,Option.some.injEq] at ak;subst ak;exact h
 | ret=>intro aY rc T H Q ak h;simp only [dU,Option.some.injEq] at ak;subst ak;exact h
 | exit id=>intro aY rc T H Q ak h;simp only [dU,Option.some.injEq] at ak;subst ak;exact h
 | goto l=>intro aY rc T H Q ak h;simp [dU] at ak
 | refuse y=>intro aY rc T H Q ak h;simp [dU] at ak
 | region id ops draw =>
   intro aY rc T H Q ak h;simp only [dU] at ak;split at ak
   ·rename_i aK;split at ak
    ·rename_i p ax;by_cases a3:p+1<ops.size
     ·exact Dm aK ax a3 ak h
     ·exact absurd ak (by unfold nI;simp only [fe,Array.getElem?_eq_none (show ops.size≤p+1 by omega)];split <;> simp_all)
    ·rename_i ax;exact Dl aK ax ak h
   ·cases ak
 | seq a b fb fq =>
   intro aY rc T H Q ak h;simp only [dU] at ak;split at ak
   ·rename_i x y al a0;simp only [Option.some.injEq] at ak;subst ak;show c3 P A fn lo rl a aY ⟨T,H⟩ _;refine k_ (fun e s aX=>?_) (fb al h);cases e with
    | normal=>exact fq a0 aX
    | ret=>exact aX
    | exit id=>exact aX
   ·cases ak
 | cond c a b fb fq =>
   intro aY rc T H Q ak h;simp only [dU] at ak;split at ak
   ·rename_i x y al a0;simp only [Option.some.injEq] at ak;subst ak
    have key:∀ v,aA T c=v→(match v with
      | .bool t=>(match t with | true=>dD P A fn lo rl x T H Q | false=>dD P A fn lo rl y T H Q)
      | .dq=>dD P A fn lo rl x T H Q∧dD P A fn lo rl y T H Q
      | _=>False)→c3 P A fn lo rl (.cond c a b) aY ⟨T,H⟩ fun e s=>Q e s.T s.H:=fun v ae h=>by
     cases v with
     | bool t =>
       refine .inl ⟨t,ae,?_⟩;cases t with
       | true=>exact fb al h
       | false=>exact fq a0 h
     | dq=>exact .inr ⟨ae,fb al h.1,fq a0 h.2⟩
     | _=>exact h.elim
    cases c with
    | tmp t=>simp only [n0,dD,iE] at h;exact key _ rfl h
    | const v=>exact key (aA [] (.const v)) rfl h
    | func f=>exact key (aA [] (.func f)) rfl h
    | global g=>exact key (aA [] (.global g)) rfl h
   ·cases ak
 | block id c a_ =>
   intro aY rc T H Q ak h;simp only [dU,rZ] at ak;obtain ⟨x,al,rfl⟩:=ak;show c3 P A fn lo rl c id ⟨T,H⟩ _;refine k_ (fun e s aX=>?_) (a_ al h);cases e with
   | normal=>exact aX
   | ret=>exact aX
   | exit bx =>
     simp only at aX ⊢;by_cases aE:bx=id
     ·subst aE;simp only [if_true];rw [v3] at aX;exact aX
     ·simp only [aE,if_false]
      have:Nat.beq bx id=false:=by
       cases ag:Nat.beq bx id with
       | false=>rfl
       | true=>exact absurd (ta ag) aE
      rw [this] at aX;exact aX
 | loop c a_ =>
   intro aY rc T H Q ak h;simp only [dU,rZ] at ak;obtain ⟨x,al,rfl⟩:=ak;simp only [dD,Dh,zz] at h;obtain ⟨hR,m,hm,C_⟩:=h;have ku:∀ s:a5,eY A.h9 aY s=⟨match lH aY A.h9 with | some k=>eT k s.T | none=>s.T,s.H⟩:=fun s=>by
    unfold eY;cases lH aY A.h9 <;> rfl
   refine ⟨m+1,Dq (f:=fun aF=>c3 P A fn lo rl c aY (eY A.h9 aY aF)) (fun m s=>hR m (eY A.h9 aY s).T s.H) ?_ (fun s Q cG a3 h=>k_ a3 h) m ⟨T,H⟩ (by rw [ku];exact hm)⟩;intro m s kn;rw [ku] at kn;have h:=a_ al (C_ m _ s.H kn);show c3 P A fn lo rl c aY (eY A.h9 aY s) _;rw [ku];refine k_ (fun e aF aX=>?_) h;cases e with
   | normal=>simp only at aX ⊢;rw [ku];exact aX
   | ret=>exact aX
   | exit id=>exact aX
 | scope c a_=>intro aY rc T H Q ak h;exact a_ ak h
 | rangeFunc f bh as bY _ _ =>
   intro aY rc T H Q ak h;simp only [dU,Option.some.injEq] at ak;subst ak;have key:∀ v,aA T f=v→n4 P A fn lo rl v bh.toList as bY T H Q→c3 P A fn lo rl (.rangeFunc f bh as bY) aY ⟨T,H⟩ fun e s=>Q e s.T s.H:=fun v ae h=>by
    unfold n4 at h;split at h
    ·(rename_i k first cap);obtain ⟨gZ,r,H',st,cF,fn',a7,zM,gu,x6,iB,ai,ak,cJ,a3⟩:=h;have fin:∀ (e:cB) (a2:List au),exec P A (kR (.fn k) (first++[.yield H.length]++cap) (H++[.loop .ready none fn (T.map I.view) bh.toList as bY A]) lo r H') fn lo 0 rl (.rangeFunc f bh as bY) aY ⟨T,H⟩=some (e,⟨T.map I.settle,a2⟩)→Q e (T.map I.settle) a2 →
       c3 P A fn lo rl (.rangeFunc f bh as bY) aY ⟨T,H⟩ fun e s=>Q e s.T s.H:=fun e a2 he a3=>⟨_,e,_,DZ ai,he,a3⟩
     have hex:∀ (e:cB),(match cF with | none=>some cB.normal | some .ret=>some .ret | some (.exit id)=>some (.exit id) | _=>none)=some e →
       exec P A (kR (.fn k) (first++[.yield H.length]++cap) (H++[.loop .ready none fn (T.map I.view) bh.toList as bY A]) lo r H') fn lo 0 rl (.rangeFunc f bh as bY) aY ⟨T,H⟩=some (e,⟨T.map I.settle,H'.set H.length .dead⟩):=fun e he=>by
      simp only [exec,ae,gZ,DY,ak,cJ,if_false];split at he <;> simp_all
     split at a3
     ·exact fin _ _ (hex .normal rfl) a3
     ·exact fin _ _ (hex .ret rfl) a3
     ·exact fin _ _ (hex (.exit _) rfl) a3
     ·exact a3.elim
    ·exact h.elim
   cases f with
   | tmp t=>simp only [n0,dD,iE] at h;exact key _ rfl h
   | const v=>exact key (aA [] (.const v)) rfl h
   | func g=>exact key (aA [] (.func g)) rfl h
   | global g=>exact key (aA [] (.global g)) rfl h
end
end Go.Proofs.YtfakoboiahbhaaaGreat.Ab


namespace Go.Proofs.YtfakoboiahbhaaaGreat.Ab
open Go
inductive jk where
 | tmp (t:Nat) | cell (a:Nat) (g:e4)
def kL (g:e4) (cs:List I) (off:Nat):Option I:=match g with
 | .one=>(cs[off]?).map I.view
 | .str s=>if off+s≤cs.length then some (.agg (((cs.drop off).take s).map I.view)) else none
 | .arr s=>if off+s≤cs.length then some (.agg (((cs.drop off).take s).map I.view)) else none
theorem Dk {P:Program} {t:TypeId} {g:e4} (h:gQ P t=some g) (cs:List I) (off:Nat):eu P t cs off=kL g cs off:=by
 rcases oA h with ⟨rfl,ad,d,af⟩ | ⟨s,af,ad⟩
 ·simp [eu,kL,ad,af]
 ·rcases af with ⟨rfl,af⟩ | ⟨rfl,af⟩ <;> simp [eu,kL,ad,af]
def oC (H:List au) (g:e4):I→Option I
 | .ptr id off=>match H[id]? with
   | some (.cells l)=>kL g l off
   | some (.grow l _ _)=>kL g l off
   | _=>none
 | .bU cells=>kL g cells 0
 | _=>none
theorem BA {P:Program} {t:TypeId} {g:e4} (h:gQ P t=some g) (H:List au) (a:I):dT P H t a=oC H g a:=by
 cases a <;> simp only [dT,oC,Dk h] <;> rfl
noncomputable def j1 (H:List au) (T:List I):List jk→Option (List I)
 | []=>some []
 | .tmp t::r=>(j1 H T r).map (c5 T t::·)
 | .cell a g::r=>match oC H g (c5 T a),j1 H T r with
   | some v,some vs=>some (v::vs)
   | _,_=>none
def j3 (P:Program):List ResultVar→Option (List jk)
 | []=>some []
 | .tmp t::r=>(j3 P r).map (.tmp t::·)
 | .cell a t::r=>match gQ P t,j3 P r with
   | some g,some l=>some (.cell a g::l)
   | _,_=>none
theorem xk {P:Program} (H:List au) (T:List I):∀ {rs:List ResultVar} {l:List jk},j3 P rs=some l→fg P H T rs=j1 H T l
 | [],l,h=>by simp [j3] at h;subst h;rfl
 | .tmp t::r,l,h=>by
   simp only [j3,rZ] at h;obtain ⟨l,h,rfl⟩:=h;simp only [fg,j1,xk H T h]
 | .cell a t::r,l,h=>by
   simp only [j3] at h;split at h
   ·rename_i g l' ad af;simp only [Option.some.injEq] at h;subst h;simp only [fg,j1,xk H T af,BA ad];rfl
   ·cases h
inductive ov (rs:List jk) (v:I) (e:cB) (T:List I) (H:List au):Prop where
 | mk (he:e=.normal∨e=.ret) (vs:List I) (aj:j1 H T rs=some vs) (r:I) (aQ:bJ H 0 H.length 0 8 (hb vs)=some r) (ae:r=v∨r.settle=v)
theorem Gt {rs:List jk} {v:I} {e:cB} {T:List I} {H:List au} (he:e=.normal∨e=.ret) (aC:cq 8 v=true) (h:(j1 H T rs).map hb=some v):ov rs v e T H:=by
 simp only [rZ] at h;obtain ⟨vs,ad,af⟩:=h;exact ⟨he,vs,ad,v,by rw [af];exact oT aC,.inl rfl⟩
noncomputable def ze (P:Program) (A:c8) (k:Nat):Option (eA×Nat×List jk):=match P.funcs[k]? with
 | some f=>match f.body with
   | some c => match codeOk A c, f.name == "runtime.NumGoroutine", dU P A c 0, j3 P f.results.toList with
     | true,false,some rc,some ts=>some (rc,f.ntmps,ts)
     | _,_,_,_=>none
   | none=>none
 | none=>none
theorem F5 {P:Program} (dJ:P.follows .mixedOrders=true) {k:Nat} {A:c8} {rc:eA} {n:Nat} {ts:List jk} (ak:ze P A k=some (rc,n,ts)) {args T:List I} (bX:args++List.replicate (n-args.length) .junk=T) {v:I} (aC:cq 8 v=true)
  (h:dD P A k 0 none rc T [] (ov ts v)):lh P k args v:=by
 unfold ze at ak;split at ak
 ·rename_i f aQ;split at ak
  ·rename_i c ag;split at ak
   ·rename_i Gs FD ad af aG a6;simp only [Option.some.injEq,Prod.mk.injEq] at ak;obtain ⟨rfl,rfl,rfl⟩:=ak;subst bX;have a3:∀ e s,ov FD v e (a5.T s) (a5.H s)→(e=.normal∨e=.ret)∧∃ vs r,fg P s.H s.T f.results.toList=some vs∧bJ s.H 0 s.H.length 0 8 (hb vs)=some r∧(r=v∨r.settle=v):=fun e s ⟨cb,vs,BX,r,b8,d_⟩=>by
     exact ⟨cb,vs,r,by rw [xk _ _ a6,BX],b8,d_⟩
    exact Ea dJ aQ ag (by simpa using af) ad aC (k_ a3 (w_ aG h))
   ·cases ak
  ·cases ak
 ·cases ak
def oa:Nat→Nat→List (Nat×I)→List I
 | 0,_,_=>[]
 | n+1,i,[]=>.junk::oa n (i+1) []
 | n+1,i,(j,v)::r=>match Nat.beq i j with
   | true=>v::oa n (i+1) r
   | false=>.junk::oa n (i+1) ((j,v)::r)
abbrev GD (n:Nat) (l:List (Nat×I)):List I:=oa n 0 l
abbrev gO (d:Nat) (s:List iv) (k:hT):cx:=⟨some d,s,none,none,k⟩
noncomputable section
def hf:Code→List (Code×Code)
 | .rangeFunc _ _ a b=>(a,b)::(hf a++hf b)
 | .seq a b=>hf a++hf b
 | .cond _ a b=>hf a++hf b
 | .block _ c=>hf c
 | .loop c=>hf c
 | .scope c=>hf c
 | _=>[]
def x7 (P:Program) (k:Nat):Code:=match P.funcs[k]? with
 | some f=>match f.body with
   | some c=>c
   | none=>.skip
 | none=>.skip
def Gu (P:Program) (k i:Nat):Code:=match (hf (x7 P k))[i]? with
 | some x=>x.1
 | none=>.skip
def Gv (P:Program) (k i:Nat):Code:=match (hf (x7 P k))[i]? with
 | some x=>x.2
 | none=>.skip
end
end Go.Proofs.YtfakoboiahbhaaaGreat.Ab


namespace Go.Proofs.YtfakoboiahbhaaaGreat.Ab
open Go
section
variable {P:Program} {B:Nat} {J:List Nat} {w:World} {H:List au} {U:Nat→Option aI} {S:Nat→Nat→Prop}
end
end Go.Proofs.YtfakoboiahbhaaaGreat.Ab


namespace Go.Proofs.YtfakoboiahbhaaaGreat.Ab
open Go
section
variable {P:Program} {B N:Nat} {J:List Nat} {w:World} {H:List au} {U:Nat→Option aI} {S:Nat→Nat→Prop}
theorem FN (dJ:P.follows .mixedOrders=true) {l lo:Nat} {fn:FuncId} {T a7:List I} {bh:List Nat} {as bY:Code} {an:c8} {args:List I} {H':List au}
  (ak:H[l]?=some (.loop .ready none fn T bh as bY an)) (ei:hh bh args T=some a7) (pr:ba lo H H')
  (h:c3 P an fn lo (some l) as 0 ⟨a7,H⟩ fun e s1=>e=.normal∧s1.H[l]?=some (.loop .ready none fn T bh as bY an) ∧
   c3 P an fn lo (some l) bY 0 ⟨s1.T,s1.H.set l (.loop .busy none fn T bh as bY an)⟩ fun e s2=>e=.normal∧s2.H[l]?=some (.loop .busy none fn T bh as bY an)∧ji (s2.H.set l (.loop .ready none fn T bh as bY an)) H') :
  Sem P (.yield l) args H lo (.bool true) H':=by
 refine ⟨pr,fun B U J S w xs b ah _ ae ag=>?_⟩;obtain ⟨a',bk,ar,L,aB,aH,aR,bj,bb,bf,c1,da,dF,fx,ow⟩:=ah.obj l _ ak;rw [ag] at aB;cases aB;have cJ:=xI bh args T a7 xs L.tmps.toList ei ae.len (by simpa using c1.symm);obtain ⟨cb,b8,d_,hp⟩:=cJ;refine ⟨L,aR,by rw [←ae.len,←cb,←dF];simp,?_⟩;refine roundIn_of_wpIn trivial ?_;have l9:(hF L xs).toList=(bh.zip xs).foldl (fun (l:List Value) (p:Nat×Value)=>l.set p.1 p.2) L.tmps.toList:=by rw [Ao,dF]
 obtain ⟨db,fD⟩:=A6 bh ah;have aK:ct B w.heap.size (gM bh U) J S w ⟨a7,H⟩ { tmps:=hF L xs,defers:=[] }:=by
  refine ⟨?_,fD,sb _,fun d aZ=>by simp at aZ,List.Pairwise.nil⟩;simp only [l9];have key:∀ (i:Nat) (u:I) (x:Value),a7[i]?=some u→((bh.zip xs).foldl (fun (l:List Value) (p:Nat×Value)=>l.set p.1 p.2) L.tmps.toList)[i]?=some x →
    Rel J S w u x∧aV (gM bh U) J S w (.slot i) u x:=fun i u x hu al=>by
   rcases hp i u x hu al with ⟨aJ,aP⟩ | ⟨j,aJ,aP,cj⟩
   ·obtain ⟨bR,b4⟩:=da i u x aJ (by simpa using aP);exact ⟨b4,aV.b3 bR⟩
   ·exact ⟨ae.rel j u x aP cj,(ae.own j u x aP cj).mono (Ext.refl J) (fun _ _ h=>⟨h,rfl⟩) fun b ag=>⟨by simp [gM,ag,aJ],rfl,fun _ h=>h⟩⟩
  exact ⟨by rw [b8,d_,←c1];simp,fun i u x hu al=>(key i u x hu al).1,fun i u x hu al=>(key i u x hu al).2⟩
 rw [fx,ow];refine oi dJ as 0 _ _ h a' _ _ B w.heap.size J w (gM bh U) S _ (.inr ⟨l,b,rfl,ag,rfl⟩) (fun l a w aO=>aO) aK fun e1 s1 av aB bC ai=>?_;obtain ⟨rfl,hz,af⟩:=av;obtain ⟨b2,cQ,a4,aJ,aP,b'⟩:=ai;have eW:cQ[l]?=some b:=aJ _ _ ag;obtain ⟨_,_,ar,jj,d1,d2,d3,d4,d5,_⟩:=b'.H.obj l _ hz;rw [eW] at d1;cases d1;obtain ⟨dZ,oX⟩:=b'.loop hz eW d3 .busy none;have o5:(Instr.beginRound b).run P bC=.ok () (bC.putObj b (.loop { jj with state:=.busy,pending:=none })):=by
  rw [run_beginRound d3 d4]
  have:({ jj with state:=.busy,pending:=none }:Loop)={ jj with state:=.busy }:=by rw [←d5]
  rw [this]
 refine ⟨_,o5,?_⟩;refine wpIn_mono (Q:=fun cM aM w'=>(∀ t,cM≠Exit.goto t)∧roundPost P b (fv B U J S w H' (.bool true)) cM aM w') ?_ (fun e a w h=>h.2);refine oi dJ bY 0 _ _ af bk _ _ B w.heap.size cQ _ b2 a4 _ (.inr ⟨l,b,rfl,eW,rfl⟩) (fun l a w aO=>aO.1 l rfl) oX fun ck s2 av aH bT ai=>?_;obtain ⟨rfl,fa,ks⟩:=av;obtain ⟨bn,cg,bH,cj,jO,lK⟩:=ai;have fm:cg[l]?=some b:=cj _ _ eW;obtain ⟨_,_,ar,iu,f1,f2,f3,f4,f5,_⟩:=lK.H.obj l _ fa;rw [fm] at f1;cases f1;have jw:bg U S w bn bH bT:=((db.trans aP).trans dZ).trans jO;refine ⟨fun t ax=>(by cases ax),?_⟩;refine ⟨_,_,run_endRound none f3,?_⟩;obtain ⟨oN,oY⟩:=lK.loop fa fm f3 .ready none;exact a1.nc ks ⟨bn,cg,bH,aJ.trans cj,jw.trans oN,oY.H,.bool _,aV.b3 rfl⟩
theorem GC (dJ:P.follows .mixedOrders=true) {l lo:Nat} {fn:FuncId} {T a7:List I} {bh:List Nat} {as bY:Code} {an:c8} {args:List I} {H':List au} {zR zU:eA}
  (cd:dU P an as 0=some zR) (ag:dU P an bY 0=some zU)
  (ak:H[l]?=some (.loop .ready none fn T bh as bY an)) (ei:hh bh args T=some a7) (pr:ba lo H H')
  (h:dD P an fn lo (some l) zR a7 H fun e fi H1=>e=.normal∧H1[l]?=some (.loop .ready none fn T bh as bY an) ∧
   dD P an fn lo (some l) zU fi (H1.set l (.loop .busy none fn T bh as bY an)) fun e dS a2=>e=.normal∧a2[l]?=some (.loop .busy none fn T bh as bY an)∧ji (a2.set l (.loop .ready none fn T bh as bY an)) H') :
  Sem P (.yield l) args H lo (.bool true) H' :=
 FN dJ ak ei pr (k_ (fun e s a3=>⟨a3.1,a3.2.1,w_ ag a3.2.2⟩) (w_ cd h))
end
end Go.Proofs.YtfakoboiahbhaaaGreat.Ab


namespace Go.Proofs.YtfakoboiahbhaaaGreat.Ab
open Go
abbrev Gl (d s:Nat):cx:=gO d [.sl s] .iS
abbrev Gm (d s:Nat):cx:=gO d [.hI s] .iS
abbrev Gk (d:Nat) (n:Int):cx:=gO d [.iC (.int .i64 n)] .iS
abbrev FX (d s:Nat) (n:Int):cx:=gO d [.hL s,.iC (.int .i64 n)] (.bin .add)
abbrev FZ (d s t:Nat) (o:BinOp):cx:=gO d [.hL s,.hL t] (.bin o)
abbrev FY (d s:Nat) (n:Int) (o:BinOp):cx:=gO d [.hL s,.iC (.int .i64 n)] (.bin o)
abbrev Gi (d s:Nat):cx:=gO d [.hI s] .w8
abbrev Gj (d s:Nat):cx:=gO d [.hL s] (.pV .one)
abbrev F4 (d s k:Nat):cx:=gO d [.hL s] (.oR k)
abbrev Gf (d s t k:Nat):cx:=gO d [.hL s,.hL t] (.pO k)
abbrev GH (d s k:Nat):cx:=gO d [.sl s] (.ext k)
abbrev cP (d:Nat) (l:List iv) (g:Nat) (b:Bool) (k:hT):cx:=⟨some d,l,some (g,b),none,k⟩
abbrev Gq (l:List cx):eA:=.j2 false l
abbrev Gr (l:List cx):eA:=.j2 true l
abbrev Gx (l:List cx) (c:eA):eA:=.seq (.j2 false l) c
abbrev Gg (n:Nat):eA:=.cond (.sl n) .skip .skip
def Aq (b:Bool):Nat→List Bool→List Bool
 | 0,l=>l
 | n+1,l=>b::Aq b n l
def Ex:Bool→List Nat→List Bool
 | _,[]=>[]
 | b,n::r=>Aq b n (Ex (!b) r)
end Go.Proofs.YtfakoboiahbhaaaGreat.Ab
