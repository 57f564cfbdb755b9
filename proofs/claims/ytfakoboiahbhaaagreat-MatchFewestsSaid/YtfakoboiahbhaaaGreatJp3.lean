
import Derived.Test.YtfakoboiahbhaaaGreatJp2
import Derived.Maps.RangeRun
set_option linter.unusedSimpArgs false
set_option linter.unusedVariables false
set_option linter.unusedSectionVars false

namespace Go.Proofs.YtfakoboiahbhaaaGreat.Ab
open Go
section
variable {P:Program} {B N:Nat} {J:List Nat} {w:World} {H:List au} {U:Nat→Option aG} {S:Nat→Nat→Prop}
theorem E_ {bB:Nat→aG} {us:List I} {xs:List Value} (aq:us.length=xs.length) (h:∀ (j:Nat) (u:I) (v:Value),us[j]?=some u→xs[j]?=some v→Rel J S w u v∧u.plain=true):a7 bB U J S w us xs :=
 ⟨aq,fun j u v hu ae=>(h j u v hu ae).1,fun j u v hu ae=>aV.b3 (h j u v hu ae).2⟩
def pt (F:Fence) (P:Program) (Q:Exit→Act→World→Prop) (cB:Option Code) (aO:Act) (w':World):Prop:=match cB with
 | none=>Q .normal aO w'
 | some c=>c.wpIn F 0 P Q aO w'
theorem zr {F:Fence} (bG:eA F) {C:cc} (bD:dn P C) {T:List I} {a:Act} (aM:cz B N U J S w ⟨T,H⟩ a) (lM:a7 .slot U J S w (T.map I.view) a.tmps.toList)
  {lo k:Nat} {first cap:List I} {vs ws:Array Value} (aN:Rel J S w (.func k first cap) (.func (.func k) vs ws))
  {as bX:Code} {an:c'} {fn fn':FuncId} {bk:Array Tmp} (a':codeOk an as=true) (bm:codeOk an bX=true) {r:I} {H':List au}
  (h:C (.fn k) (first++[.yield H.length]++cap) (H++[.loop .ready none fn (T.map I.view) bk.toList as bX an]) lo=some (r,H'))
  {st:LoopState} {cB:Option Code} {fQ:FuncId} {eN:List I} {gG:List Nat} {gp gq:Code} {gm:c'} (aq:H'[H.length]?=some (.loop st cB fQ eN gG gp gq gm)) (cF:st≠.busy)
  {bE:World} (mK:bj (db U) S w (db U) S bE) (bV:aJ B (db U) J S bE H) {mark:List Deferred} {dfr:Nat} (hm:Marks N (db U) bE mark) (yh:∀ d∈mark,∀ r,d.target=.collected r→U r=none∧w.heap.size≤r) {Q:Exit→Act→World→Prop}
  (bz:∀ aO w',Step B N U J S w ⟨T,H'.set H.length .dead⟩ aO w'→pt F P Q cB aO w') :
  CallsIn F 0 P k (vs++#[Value.func (.yield bE.heap.size) #[] #[]]++ws) (bE.alloc (.loop { state:=.ready,pending:=none,fn:=fn',tmps:=a.tmps,params:=bk,assign:=as,body:=bX,defers:=dfr }))
   (rangePost F 0 P bE.heap.size Q { a with defers:=mark++a.defers }):=by
 generalize fh:({ state:=.ready,pending:=none,fn:=fn',tmps:=a.tmps,params:=bk,assign:=as,body:=bX,defers:=dfr }:Loop)=L;have xS:=j6 bV (.loop L) (.obj H.length);have Cl:=m8 bV (.loop L) (.obj H.length);have lQ:Ext J (J++[bE.heap.size]):=Ext.append J _;have oF:∀ b o,S b o→S b o∧(bE.alloc (.loop L)).cell? ⟨b,o,none⟩=w.cell? ⟨b,o,none⟩:=(mK.trans xS).set;have Bv:=Cl.push bE.heap.size (o:=.loop .ready none fn (T.map I.view) bk.toList as bX an)
  ⟨a',bm,bE.heap.size,L,Ext.last bV _,by simp [lay],World.alloc_heap_new bE _,by rw [←fh],by rw [←fh],trivial,by rw [←fh];simpa using lM.len.symm,
   fun i u v hu ae=>by
    rw [←fh] at ae;refine ⟨?_,((lM.rel i u v hu (by simpa using ae)).mono lQ oF)⟩;simp only [List.getElem?_map,Option.map_eq_some_iff] at hu;obtain ⟨x,_,rfl⟩:=hu
    exact I.c_ x,by rw [←fh],by rw [←fh],by rw [←fh]⟩
 have fS:mx (lay (db U) bE.heap.size (.obj H.length)):=fun b i ag=>by
  unfold lay at ag;split at ag
  ·simp at ag
  ·exact BX b i ag
 have By:a7 (fun i=>.arg i) (lay (db U) bE.heap.size (.obj H.length)) (J++[bE.heap.size]) S (bE.alloc (.loop L)) (first++[.yield H.length]++cap) (vs.toList++[Value.func (.yield bE.heap.size) #[] #[]]++ws.toList):=by
  cases aN with
  | func _ _ _ _ _ aL aQ bP b4 aR r2 =>
    refine E_ (by simp [aL,aQ]) fun j u v hu ae=>?_;rcases Nat.lt_or_ge j first.length with ad | ad
    ·rw [List.append_assoc,List.getElem?_append_left ad] at hu;rw [List.append_assoc,List.getElem?_append_left (by simp;omega)] at ae;exact ⟨(aR j u v hu (by simpa using ae)).mono lQ oF,bP u (List.mem_of_getElem? hu)⟩
    ·rw [List.append_assoc,List.getElem?_append_right ad] at hu;rw [List.append_assoc,List.getElem?_append_right (by simp;omega)] at ae;(have bR:vs.toList.length=first.length:=by simp [aL]);rw [bR] at ae;rcases Nat.lt_or_ge (j-first.length) 1 with af | af
     ·(have aT:j-first.length=0:=by omega);rw [aT] at hu ae;simp at hu ae;subst hu ae;exact ⟨.yield _ _ (Ext.last bV _),rfl⟩
     ·rw [List.getElem?_append_right (by simpa using af)] at hu ae;exact ⟨(r2 _ u v hu (by simpa using ae)).mono lQ oF,b4 u (List.mem_of_getElem? hu)⟩
 have e4:=(bD.ok h).2 B _ _ S _ _ Bv fS By;have hk:(vs.toList++[Value.func (.yield bE.heap.size) #[] #[]]++ws.toList).toArray=vs++#[Value.func (.yield bE.heap.size) #[] #[]]++ws:=by
  apply Array.ext';simp
 rw [hk] at e4;refine bG.calls (CallsIn.mono e4 fun e bS he=>?_);cases e with
 | panicked c=>exact he.elim
 | outgrown=>exact he.elim
 | returned x =>
   obtain ⟨bo,ca,bI,po,dR,ck,_,_⟩:=he;obtain ⟨_,_,ao,h',aB,aF,aS,bp,bf,_⟩:=ck.obj _ _ aq;have dx:ca[H.length]?=some bE.heap.size:=po _ _ (Ext.last bV _);rw [dx] at aB;cases aB;obtain ⟨Bi,Bu,_⟩:=yT ck aF aS { h' with state:=.exhausted };have jk:bj (db U) S bE bo bI (bS.putObj bE.heap.size (.loop { h' with state:=.exhausted })):=(xS.trans dR).trans Bi;obtain ⟨aW,aX⟩:=zd none aM (lQ.trans po) (mK.trans jk) Bu (.junk undef) (aV.b3 rfl);refine ⟨h'.pending,_,run_endLoop aS (by rw [bp];exact cF),?_⟩;rw [←bf] at bz;refine bz _ _ ⟨_,ca,bI,lQ.trans po,aW,⟨aX.T,aX.H,aX.M.1,fun d a2=>?_,List.pairwise_append.2 ⟨hm.2.2,aX.M.2.2,fun d a2 gR mS e=>?_⟩⟩⟩
   rotate_left
   ·obtain ⟨ht,c8,_⟩:=hm.2.1 d a2;obtain ⟨aR,b9,_,_,Dg⟩:=aM.M.2.1 gR mS;have:=(yh d a2 ht c8).2;have:=(Array.getElem?_eq_some_iff.1 Dg).1;rw [c8,b9] at e;cases e;omega
   rcases List.mem_append.1 a2 with a2 | a2
   ·obtain ⟨ht,c8,c9,jB,kt⟩:=hm.2.1 d a2;have di:ht<bE.heap.size:=(Array.getElem?_eq_some_iff.1 kt).1;refine ⟨ht,c8,c9,?_,(jk.cG ht di jB).trans kt⟩;have aT:=(yh d a2 ht c8).1;have af:bo ht=none:=by
     cases bM:bo ht with
     | none=>rfl
     | some l =>
       rcases jk.own ht (by simp [bM]) with bU | bU
       ·exact absurd jB bU
       ·omega
    simp [back,aT,af]
   ·exact aX.M.2.1 d a2
end
end Go.Proofs.YtfakoboiahbhaaaGreat.Ab


namespace Go.Proofs.YtfakoboiahbhaaaGreat.Ab
open Go
def toExit:cC→Exit
 | .normal=>.normal
 | .ret=>.ret
 | .exit id=>.exit id
def iY (F:Fence) (rl:Option Nat) (J:List Nat):Prop:=(rl=none∧F=Fence.wide)∨∃ l b,rl=some l∧J[l]?=some b∧F=Fence.wide.inRound b
theorem iY.mM {F:Fence} {rl:Option Nat} {J:List Nat} (h:iY F rl J):eA F:=by
 rcases h with ⟨_,rfl⟩ | ⟨l,b,_,_,rfl⟩
 ·exact .inl rfl
 ·exact .inr ⟨b,rfl⟩
theorem iY.ext {F:Fence} {rl:Option Nat} {J bZ:List Nat} (h:iY F rl J) (bL:Ext J bZ):iY F rl bZ:=by
 rcases h with h | ⟨l,b,ad,af,aH⟩
 ·exact .inl h
 ·exact .inr ⟨l,b,ad,bL _ _ af,aH⟩
theorem j7 {p:Nat→Prop} (h:∃ n,p n):∃ n,p n∧∀ m,p m→n≤m:=by
 obtain ⟨n,aP⟩:=h
 induction n using Nat.strongRecOn with
 | _ n a9 =>
   by_cases aq:∃ m,m<n∧p m
   ·obtain ⟨m,hm,aD⟩:=aq;exact a9 m hm aD
   ·exact ⟨n,aP,fun m hm=>Nat.le_of_not_lt fun aY=>aq ⟨m,aY,hm⟩⟩
section
variable {P:Program}
theorem CS {F:Fence} {c:Code} {f:a8→Option (cC×a8)} {e:cC} {aI:a8} {Q:Exit→Act→World→Prop} {B N:Nat} {J:List Nat} {w:World} {U:Nat→Option aG} {S:Nat→Nat→Prop} {s:a8} {a:Act} {n:Nat}
  (h:hX f n s=some (e,aI)) (aM:cz B N U J S w s a) (bz:∀ aO w',Step B N U J S w aI aO w'→Q (toExit e) aO w')
  (ka:∀ (s1:a8) (e1:cC) (s2:a8),f s1=some (e1,s2)→∀ (cD:Exit→Act→World→Prop) (aB:Act) (bE:World),(∀ l a w,cD (.goto l) a w→Q (.goto l) a w)→Step B N U J S w s1 aB bE →
   (∀ aO w',Step B N U J S w s2 aO w'→cD (toExit e1) aO w')→c.wpIn F 0 P cD aB bE):(Code.loop c).wpIn F 0 P Q a w:=by
 classical
 let Inv:Nat→Act→World→Prop:=fun n aO w'=>∃ s1,hX f n s1=some (e,aI)∧Step B N U J S w s1 aO w'
 let gg:Act→World→Nat:=fun aO w'=>if h:∃ n,Inv n aO w' then Classical.choose (j7 h) else 0
 have lR:∀ aO w',(∃ n,Inv n aO w')→Inv (gg aO w') aO w'∧∀ m,Inv m aO w'→gg aO w'≤m:=fun aO w' h=>by
  have:gg aO w'=Classical.choose (j7 h):=by simp only [gg,dif_pos h]
  rw [this];exact Classical.choose_spec (j7 h)
 refine wpIn_loop (fun aO w'=>∃ n,Inv n aO w') gg ⟨n,s,h,Step.here aM⟩ fun aB bE j_=>?_;obtain ⟨⟨s1,ad,gy⟩,_⟩:=lR aB bE j_;cases aP:gg aB bE with
 | zero=>rw [aP] at ad;simp [hX] at ad
 | succ m =>
   rw [aP] at ad;simp only [hX] at ad;split at ad
   ·rename_i s2 BL;refine ka s1 .normal s2 BL _ aB bE (fun l a w h=>h) gy fun aO w' dU=>?_;have hinv:Inv m aO w':=⟨s2,ad,dU⟩;exact ⟨⟨m,hinv⟩,Nat.lt_succ_of_le ((lR aO w' ⟨m,hinv⟩).2 m hinv)⟩
   ·rename_i fS;refine ka s1 e aI ad _ aB bE (fun l a w h=>h) gy fun aO w' dU=>?_;cases e with
    | normal=>exact absurd ad (fS aI)
    | ret=>exact bz aO w' dU
    | exit id=>exact bz aO w' dU
theorem mL {C:cc} (bD:dn P C) (dD:P.follows .mixedOrders=true) {A:c'} {fn:FuncId} {lo d:Nat} {rl:Option Nat} :
  ∀ (c:Code) (a1:Nat) (s:a8) (e:cC) (aI:a8),exec P A C fn lo d rl c a1 s=some (e,aI)→codeOk A c=true →
    ∀ (F:Fence) (Q:Exit→Act→World→Prop) (B N:Nat) (J:List Nat) (w:World) (U:Nat→Option aG) (S:Nat→Nat→Prop) (a:Act),iY F rl J→(∀ l a w,¬ Q (.goto l) a w) →
      cz B N U J S w s a→(∀ aO w',Step B N U J S w aI aO w'→Q (toExit e) aO w')→c.wpIn F 0 P Q a w:=by
 intro c
 induction c with
 | skip =>
   intro a1 s e aI h _ F Q B N J w U S a bG aK aM bz;simp only [exec,Option.some.injEq,Prod.mk.injEq] at h;obtain ⟨rfl,rfl⟩:=h;exact wpIn_skip (bz a w (Step.here aM))
 | label l =>
   intro a1 s e aI h _ F Q B N J w U S a bG aK aM bz;simp only [exec,Option.some.injEq,Prod.mk.injEq] at h;obtain ⟨rfl,rfl⟩:=h;exact wpIn_label (bz a w (Step.here aM))
 | ret =>
   intro a1 s e aI h _ F Q B N J w U S a bG aK aM bz;simp only [exec,Option.some.injEq,Prod.mk.injEq] at h;obtain ⟨rfl,rfl⟩:=h;exact wpIn_ret (bz a w (Step.here aM))
 | exit id =>
   intro a1 s e aI h _ F Q B N J w U S a bG aK aM bz;simp only [exec,Option.some.injEq,Prod.mk.injEq] at h;obtain ⟨rfl,rfl⟩:=h;exact wpIn_exit (bz a w (Step.here aM))
 | goto l=>intro a1 s e aI h;simp [exec] at h
 | refuse y=>intro a1 s e aI h;simp [exec] at h
 | region id ops draw =>
   intro a1 s e aI h b0 F Q B N J w U S a bG aK aM bz;simp only [exec,Option.map_eq_some_iff,Prod.mk.injEq] at h;obtain ⟨s1,h,rfl,rfl⟩:=h;refine zx bG.mM dD bD (fun a2=>?_) h (aM.cG _ _) bz;simpa [codeOk,a2] using b0
 | seq x y ng ps =>
   intro a1 s e aI h b0 F Q B N J w U S a bG aK aM bz;simp only [codeOk,Bool.and_eq_true] at b0;simp only [exec] at h;split at h
   ·rename_i s1 ad;refine wpIn_seq (ng _ _ _ _ ad b0.1 F _ B N J w U S a bG (fun l a w=>aK l a w) aM fun aO w' ai=>?_);obtain ⟨b5,cT,a5,aL,aQ,cb⟩:=ai;exact ps _ _ _ _ h b0.2 F Q B N cT w' b5 a5 aO (bG.ext aL) aK cb fun hJ h7 dU=>bz hJ h7 (dU.trans aL aQ)
   ·rename_i fS;refine wpIn_seq (ng _ _ _ _ h b0.1 F _ B N J w U S a bG (fun l a w=>aK l a w) aM fun aO w' ai=>?_);cases e with
    | normal=>exact absurd h (fS aI)
    | ret=>exact bz aO w' ai
    | exit id=>exact bz aO w' ai
 | cond x t f nf nd =>
   intro a1 s e aI h b0 F Q B N J w U S a bG aK aM bz;simp only [codeOk,Bool.and_eq_true] at b0;simp only [exec] at h;have aj:=aM.aA x;split at h
   ·rename_i ag;rw [ag] at aj;exact wpIn_cond_true aj.hM (nf _ _ _ _ h b0.1 F Q B N J w U S a bG aK aM bz)
   ·rename_i ag;rw [ag] at aj;exact wpIn_cond_false aj.hM (nd _ _ _ _ h b0.2 F Q B N J w U S a bG aK aM bz)
   ·simp at h
 | block id c a9 =>
   intro a1 s e aI h b0 F Q B N J w U S a bG aK aM bz;simp only [exec] at h;refine wpIn_block ?_;split at h
   ·rename_i bA s1 ad;refine a9 _ _ _ _ ad b0 F _ B N J w U S a bG (fun l a w=>aK l a w) aM fun aO w' ai=>?_;by_cases aE:bA=id
    ·simp only [aE,if_true,Option.some.injEq,Prod.mk.injEq] at h;obtain ⟨rfl,rfl⟩:=h;simp only [toExit,Exit.inBlock,aE,if_true];exact bz aO w' ai
    ·simp only [aE,if_false,Option.some.injEq,Prod.mk.injEq] at h;obtain ⟨rfl,rfl⟩:=h;simp only [toExit,Exit.inBlock,aE,if_false];exact bz aO w' ai
   ·rename_i fS;refine a9 _ _ _ _ h b0 F _ B N J w U S a bG (fun l a w=>aK l a w) aM fun aO w' ai=>?_;cases e with
    | normal=>exact bz aO w' ai
    | ret=>exact bz aO w' ai
    | exit bA=>exact absurd h (fS bA aI)
 | scope c a9 =>
   intro a1 s e aI h b0 F Q B N J w U S a bG aK aM bz;simp only [exec] at h;exact AE (a9 _ _ _ _ h b0 F Q B N J w U S a bG aK aM bz) aK
 | loop c a9 =>
   intro a1 s e aI h b0 F Q B N J w U S a bG aK aM bz;simp only [exec] at h;refine CS h aM bz fun s1 e1 s2 ad cD aB bE Ci gy oD=>?_;obtain ⟨b5,cT,a5,aL,aQ,cb⟩:=gy;exact a9 _ _ _ _ ad b0 F cD B N cT bE b5 a5 aB (bG.ext aL) (fun l a w bl=>aK l a w (Ci l a w bl)) (cb.cG _ _) fun aO w' dU=>oD aO w' (dU.trans aL aQ)
 | rangeFunc g bk as bX e8 fl =>
   intro a1 s e aI h b0 F Q B N J w U S a bG aK aM bz;simp only [codeOk,Bool.and_eq_true] at b0;simp only [exec] at h;split at h
   ·(rename_i k first cap gY lv);have yu:=aM.aA g;rw [lv] at yu;split at h
    ·rename_i r H' ak;split at h
     ·rename_i st cB fQ eN gG gp gq gm aq;split at h
      ·simp at h
      ·rename_i cF;have oD:∀ aO w',Step B N U J S w ⟨s.T.map I.settle,H'.set s.H.length .dead⟩ aO w'→pt F P Q cB aO w':=fun aO w' ai=>by
        split at h
        ·simp only [Option.some.injEq,Prod.mk.injEq] at h;obtain ⟨rfl,rfl⟩:=h;exact bz aO w' ai
        ·simp only [Option.some.injEq,Prod.mk.injEq] at h;obtain ⟨rfl,rfl⟩:=h;exact wpIn_ret (bz aO w' ai)
        ·simp only [Option.some.injEq,Prod.mk.injEq] at h;obtain ⟨rfl,rfl⟩:=h;exact wpIn_exit (bz aO w' ai)
        ·simp at h
       obtain ⟨a5,dj,dc,bV,j',oG⟩:=Af s.T a.tmps.toList .slot S (fun i j h=>by cases h;rfl) (fun i id=>by simp) (fun i id j=>by simp) aM.T aM.H;have c5:bj U S w U a5 w:=bj.settle dj fun b o h=>(dc b o h).imp id fun ⟨i,h⟩=>⟨_,h⟩;have cb:cz B N U J a5 w ⟨s.T.map I.settle,s.H⟩ a:=⟨j',bV,aM.M.aA c5⟩;have kl:(s.T.map I.settle).map I.view=s.T.map I.view:=by
        rw [List.map_map];apply List.map_congr_left;intro u _;exact xo u
       (have lM:a7 .slot U J a5 w ((s.T.map I.settle).map I.view) a.tmps.toList:=by rw [kl];exact oG);rw [←kl] at ak;have x4:∀ aO w',Step B N U J a5 w ⟨s.T.map I.settle,H'.set s.H.length .dead⟩ aO w'→pt F P Q cB aO w':=fun aO w' ai=>oD aO w' (Step.trans (Ext.refl J) c5 ai);have di:=yu.mono (Ext.refl J) (S':=a5) (w':=w) (fun b o h=>⟨dj b o h,rfl⟩);obtain ⟨⟨f0,BK,iu,B_⟩,_⟩:=bD.ok ak;have x6:U w.heap.size=none:=by
        cases al:U w.heap.size with
        | none=>rfl
        | some l=>have:=(aM.H.base _ l al).2;omega
       generalize BV:a.eval g=Fx at di;cases di with
       | func _ _ _ vs ws aL aQ bP b4 aR r2 =>
         refine wpIn_rangeFunc fun fn' _=>?_;have kj:∀ (l:Nat) (w0:World),(resolve a.eval (rangeCall g l) 0).run P w0=.ok { target:=.fn (.func k) ws,args:=vs++#[Value.func (.yield l) #[] #[]] } w0:=fun l w0=>by
          have:(#[Operand.const (Value.func (.yield l) #[] #[])]:Array Operand).map a.eval=#[Value.func (.yield l) #[] #[]]:=by simp [Act.eval]
          simp only [resolve,rangeCall,BV,Deferred.ofValue,this,Sem.run_pure]
         have hinv:∀ (l:Nat) (w0:World),(invoke (.fn (.func k) ws) (vs++#[Value.func (.yield l) #[] #[]])).run P w0=.ok (.enter k (vs++#[Value.func (.yield l) #[] #[]]++ws)) w0:=fun l w0=>by
          simp only [invoke,z2 BK iu B_]
         (have oU:Rel J a5 w (.func k first cap) (.func (.func k) vs ws):=.func k first cap vs ws aL aQ bP b4 aR r2);(have x9:F.depth.isSome=true→1≤0:=fun iy=>by rw [bG.mM.depth] at iy;cases iy);rcases bG with ⟨rfl,rfl⟩ | ⟨ct,dp,rfl,ag,rfl⟩
         ·have ck:=lJ cb.H;have e4:=zr (.inl rfl) bD cb lM oU b0.1 b0.2 ak aq cF (xR ck (.deferred (some []))) (Cn ck (.deferred (some []))) (fn':=fn') (dfr:=w.heap.size)
           (mark:=[{ target:=.collected w.heap.size,args:=#[] }]) ⟨by have:=aM.M.1;simp;omega,fun d a2=>by
            simp only [List.mem_singleton] at a2;subst a2;exact ⟨w.heap.size,rfl,aM.M.1,mX x6,World.alloc_heap_new w _⟩,List.pairwise_singleton _ _⟩ (fun d a2 ht m7=>by
            simp only [List.mem_singleton] at a2;subst a2
            cases m7;exact ⟨x6,Nat.le_refl _⟩) x4
          (have bR:(w.alloc (.deferred (some []))).heap.size=w.heap.size+1:=by simp);rw [bR] at e4;exact ⟨_,_,_,_,_,k,_,_,run_enterLoop_outer fn' a.tmps bk as bX,kj _ _,fun _ _=>trivial,hinv _ _,x9,e4⟩
         ·have ck:=lJ cb.H;simp only [inLoop] at gY;split at gY
          ·rename_i bF;obtain ⟨_,_,ao,n3,aB,aF,aS,_⟩:=aM.H.obj ct _ bF;rw [ag] at aB;cases aB;have e4:=zr (.inr ⟨dp,rfl⟩) bD cb lM oU b0.1 b0.2 ak aq cF (bj.refl _ _ _) ck (fn':=fn') (dfr:=n3.defers)
            (mark:=[]) ⟨aM.M.1,fun d a2=>by simp at a2,List.Pairwise.nil⟩ (fun d a2=>by simp at a2) x4
           exact ⟨_,_,_,_,_,k,_,_,run_enterLoop_inner aS fn' a.tmps bk as bX,kj _ _,fun _ _=>trivial,hinv _ _,x9,e4⟩
          ·simp at gY
     ·simp at h
    ·simp at h
   ·simp at h
end
end Go.Proofs.YtfakoboiahbhaaaGreat.Ab


namespace Go.Proofs.YtfakoboiahbhaaaGreat.Ab
open Go
def hC (U:Nat→Option aG):Nat→Option aG:=fun b=>match U b with
 | some (.arg i)=>some (.slot i)
 | some (.obj id)=>some (.obj id)
 | some (.cell id j)=>some (.cell id j)
 | _=>none
def kG (t:Nat) (U:Nat→Option aG):Nat→Option aG:=fun b=>match U b with
 | some (.slot i)=>if i=t then some .res else none
 | some (.obj id)=>some (.obj id)
 | some (.cell id j)=>some (.cell id j)
 | _=>none
section
variable {P:Program} {B N:Nat} {J:List Nat} {w:World} {H:List au} {U:Nat→Option aG} {S:Nat→Nat→Prop}
theorem relabel {ay:Nat→Option aG} (ah:aJ B U J S w H) (ad:∀ b,U b=none→ay b=none) (af:∀ b l,U b=some l→((∃ id,l=.obj id)∨∃ id j,l=.cell id j)→ay b=some l) :
  bj U S w ay S w∧aJ B ay J S w H:=by
 have aP:∀ b,ay b≠none→U b≠none:=fun b h aT=>h (ad b aT);refine ⟨⟨rfl,rfl,rfl,Nat.le_refl _,fun _ _ _=>rfl,fun _ _ h=>⟨h,rfl⟩,fun _ _ h=>.inl h,fun b h=>.inl (aP b h)⟩,⟨ah.cA,fun id o ar=>?_,ah.b',fun b l ag=>?_,ah.cV⟩⟩
 ·refine (ah.obj id o ar).frame (Ext.refl J) (fun _ _ h=>⟨h,rfl⟩) fun b l ag aq=>⟨af b l ag ?_,rfl,fun _ h=>h⟩;rcases aq with rfl | ⟨j,rfl⟩
  ·exact .inl ⟨id,rfl⟩
  ·exact .inr ⟨id,j,rfl⟩
 ·cases h:U b with
  | none=>rw [ad b h] at ag;cases ag
  | some l'=>exact ah.base b l' h
theorem nT (ah:aJ B U J S w H):bj U S w (hC U) S w∧aJ B (hC U) J S w H :=
 relabel ah (fun b h=>by simp [hC,h]) fun b l h aq=>by
  rcases aq with ⟨id,rfl⟩ | ⟨id,j,rfl⟩ <;> simp [hC,h]
theorem Dr (t:Nat) (ah:aJ B U J S w H):bj U S w (kG t U) S w∧aJ B (kG t U) J S w H :=
 relabel ah (fun b h=>by simp [kG,h]) fun b l h aq=>by
  rcases aq with ⟨id,rfl⟩ | ⟨id,j,rfl⟩ <;> simp [kG,h]
theorem xj (ah:aJ B U J S w H) {args:List I} {vs:List Value} (ae:a7 (fun i=>.arg i) U J S w args vs) (n:Nat) :
  cz B w.heap.size (hC U) J S w ⟨args++List.replicate (n-args.length) .junk,H⟩ { tmps:=vs.toArray++Array.replicate (n-vs.toArray.size) undef,defers:=[] }:=by
 have aq:=ae.len;refine ⟨?_,(nT ah).2,Nat.le_refl _,fun d a2=>by simp at a2,List.Pairwise.nil⟩;have lL:(vs.toArray++Array.replicate (n-vs.toArray.size) undef).toList=vs++List.replicate (n-vs.length) undef:=by simp
 simp only [lL];have key:∀ (i:Nat) (u:I) (v:Value),(args++List.replicate (n-args.length) .junk)[i]?=some u→(vs++List.replicate (n-vs.length) undef)[i]?=some v →
   Rel J S w u v∧aV (hC U) J S w (.slot i) u v:=fun i u v hu al=>by
  rcases Nat.lt_or_ge i args.length with ad | ad
  ·rw [List.getElem?_append_left ad] at hu;rw [List.getElem?_append_left (by omega)] at al;exact ⟨ae.rel i u v hu al,(ae.own i u v hu al).mono (Ext.refl J) (fun _ _ h=>⟨h,rfl⟩) fun b ag=>⟨by simp [hC,ag],rfl,fun _ h=>h⟩⟩
  ·rw [List.getElem?_append_right ad] at hu;rw [List.getElem?_replicate] at hu;split at hu
   ·cases hu;exact ⟨.junk v,aV.b3 rfl⟩
   ·simp at hu
 exact ⟨by simp [aq],fun i u v hu al=>(key i u v hu al).1,fun i u v hu al=>(key i u v hu al).2⟩
theorem nj {fn:Func} {tmps:Array Value} {R:Ending→World→Prop} {kV:Nat→Option aG} {S0:Nat→Nat→Prop} {w0:World} :
  ∀ (ds:List Deferred) (w:World),(∀ d∈ds,∃ r,d.target=.collected r∧w0.heap.size≤r∧U r=none∧w.heap[r]?=some (.deferred (some [])))→ds.Pairwise (fun a b=>a.target≠b.target)→bj kV S0 w0 U S w→aJ B U J S w H →
    (∀ w',(∀ b l,U b=some l→w'.heap[b]?=w.heap[b]?)→(∀ b o,S b o→w'.cell? ⟨b,o,none⟩=w.cell? ⟨b,o,none⟩)→bj kV S0 w0 U S w'→aJ B U J S w' H→∃ v,(results fn tmps).run P w'=.ok v w'∧R (.returned v) w')→LeavesInM Fence.wide 0 P fn tmps R ds .returning w
 | [],w,_,_,aA,ah,lj=>lj w (fun _ _ _=>rfl) (fun _ _ _=>rfl) aA ah
 | d::ds,w,a2,aD,aA,ah,lj=>by
   obtain ⟨r,ad,af,aH,bh⟩:=a2 d (by simp);have aj:r<w.heap.size:=(Array.getElem?_eq_some_iff.1 bh).1;(have bR:(w.putObj r (.deferred none)).heap.size=w.heap.size:=by simp [World.putObj]);have hR:∀ b,b≠r→(w.putObj r (.deferred none)).heap[b]?=w.heap[b]?:=fun b h=>World.putObj_heap_other h;have bY:∀ b o,S b o→b≠r:=fun b o ai e=>by
    subst e;obtain ⟨v,ae⟩:=ah.b' b o ai;simp [World.cell?,bh] at ae
   have bw:∀ b o,b≠r→(w.putObj r (.deferred none)).cell? ⟨b,o,none⟩=w.cell? ⟨b,o,none⟩:=fun b o h=>by
    simp only [World.cell?,hR b h]
   (have kf:∀ b l,U b=some l→b≠r:=fun b l h e=>by subst e;rw [aH] at h;cases h);have c5:bj kV S0 w0 U S (w.putObj r (.deferred none)):=by
    refine ⟨aA.os,aA.tape,aA.output,by rw [bR];exact aA.size,fun b ag aP=>?_,fun b o ai=>?_,aA.fresh,aA.own⟩
    ·rw [hR b (by omega)];exact aA.cG b ag aP
    ·obtain ⟨aL,aQ⟩:=aA.set b o ai;exact ⟨aL,(bw b o (bY b o aL)).trans aQ⟩
   have cg:∀ b o,S b o→S b o∧(w.putObj r (.deferred none)).cell? ⟨b,o,none⟩=w.cell? ⟨b,o,none⟩:=fun b o ai=>⟨ai,bw b o (bY b o ai)⟩;have fA:aJ B U J S (w.putObj r (.deferred none)) H :=
    ⟨ah.cA,fun id o ar=>(ah.obj id o ar).frame (Ext.refl J) cg fun b l ag _=>⟨ag,hR b (kf b l ag),fun _ h=>h⟩,fun b o ai=>by
     obtain ⟨v,ae⟩:=ah.b' b o ai
     exact ⟨v,(bw b o (bY b o ai)).trans ae⟩,fun b l ag=>by rw [bR];exact ah.base b l ag,by rw [bR];exact ah.cV⟩
   refine ⟨by simp,.inl ⟨r,_,ad,run_takeDeferred bh,?_⟩⟩;have yn:=List.pairwise_cons.1 aD;refine nj ds _ (fun gR mS=>?_) yn.2 c5 fA (fun w' c7 aL aQ ch=>lj w' (fun b l h=>(c7 b l h).trans (hR b (kf b l h))) (fun b o h=>(aL b o h).trans (bw b o (bY b o h))) aQ ch)
   ·obtain ⟨r',aW,aX,cw,dG⟩:=a2 gR (by simp [mS])
    have:r'≠r:=fun e=>yn.1 gR mS (by rw [ad,aW,e])
    exact ⟨r',aW,aX,cw,(hR r' this).trans dG⟩
end
end Go.Proofs.YtfakoboiahbhaaaGreat.Ab


namespace Go.Proofs.YtfakoboiahbhaaaGreat.Ab
open Go
section
variable {P:Program} {B N:Nat} {J:List Nat} {w:World} {H:List au} {U:Nat→Option aG} {S:Nat→Nat→Prop}
theorem oy {bB:Nat→aG} {T:List I} {bd:Array Value} (bW:a7 bB U J S w T bd.toList) (t:Nat):Rel J S w (c1 T t) (bd.getD t undef)∧aV U J S w (bB t) (c1 T t) (bd.getD t undef):=by
 rw [fR,List.getD_eq_getElem?_getD];cases h:T[t]? with
 | none=>exact ⟨.junk _,aV.b3 rfl⟩
 | some u =>
   have aq:=bW.len;have aY:t<T.length:=(List.getElem?_eq_some_iff.1 h).1;(have lD:t<bd.size:=by rw [←Array.length_toList,←aq];exact aY);(have al:bd.toList[t]?=some (bd.getD t undef):=by simp [Array.getD_eq_getD_getElem?,lD]);exact ⟨bW.rel t u _ h al,bW.own t u _ h al⟩
theorem mf (ah:aJ B U J S w H) {T:List I} {bd:Array Value} (bW:a7 .slot U J S w T bd.toList) {g:ResultVar→Sem Value} (cn:∀ t,g (.tmp t)=pure (bd.getD t undef))
  (cp:∀ a t,g (.cell a t)=do loadVar t (←asAddr (bd.getD a undef))):∀ (rs:List ResultVar) (vs:List I),fb P H T rs=some vs →
  ∃ xs,(rs.mapM g).run P w=.ok xs w∧vs.length=xs.length∧∀ (j:Nat) (u:I) (x:Value),vs[j]?=some u→xs[j]?=some x→Rel J S w u x∧((u.plain=true∧True)∨∃ t,(u=c1 T t∧x=bd.getD t undef)∧aV U J S w (.slot t) u x)
 | [],vs,h=>by
   simp only [fb,Option.some.injEq] at h;subst h;exact ⟨[],by simp,rfl,by simp⟩
 | .tmp t::r,vs,h=>by
   simp only [fb,Option.map_eq_some_iff] at h;obtain ⟨dk,h,rfl⟩:=h;obtain ⟨xs,aW,aX,cw⟩:=mf ah bW cn cp r dk h;obtain ⟨aR,r2⟩:=oy bW t;refine ⟨bd.getD t undef::xs,by rw [List.mapM_cons];simp [cn,aW],by simp [aX],fun j u x hu al=>?_⟩;cases j with
   | zero=>simp only [List.getElem?_cons_zero,Option.some.injEq] at hu al;subst hu al;exact ⟨aR,.inr ⟨t,⟨rfl,rfl⟩,r2⟩⟩
   | succ j=>exact cw j u x (by simpa using hu) (by simpa using al)
 | .cell a t::r,vs,h=>by
   simp only [fb] at h;split at h
   ·rename_i v dk ae hV;simp only [Option.some.injEq] at h;subst h;obtain ⟨xs,aW,aX,cw⟩:=mf ah bW cn cp r dk hV;have aj:=(oy bW a).1;obtain ⟨x,aL,aQ,ch⟩:=kL ah ae aj;have aD:∃ k2,bd.getD a undef=.pointer (some k2):=by
     unfold dI at ae;generalize bd.getD a undef=F4 at aj ⊢;split at ae
     ·rename_i heq;rw [heq] at aj;cases aj;exact ⟨_,rfl⟩
     ·rename_i heq;rw [heq] at aj;cases aj;exact ⟨_,rfl⟩
     ·simp at ae
    obtain ⟨k2,aD⟩:=aD;rw [aD] at aL;(have CG:(loadVar t k2).run P w=.ok x w:=by simpa [Instr.loadAt,Instr.sureAddr] using aL);refine ⟨x::xs,by rw [List.mapM_cons];simp [cp,aD,asAddr,CG,aW],by simp [aX],fun j u y hu al=>?_⟩;cases j with
    | zero=>simp only [List.getElem?_cons_zero,Option.some.injEq] at hu al;subst hu al;exact ⟨aQ,.inl ⟨ch,trivial⟩⟩
    | succ j=>exact cw j u y (by simpa using hu) (by simpa using al)
   ·simp at h
theorem pQ (ah:aJ B U J S w H) {T:List I} {bd:Array Value} (bW:a7 .slot U J S w T bd.toList) {fn:Func} {vs:List I} (h:fb P H T fn.results.toList=some vs) :
  ∃ v,(results fn bd).run P w=.ok v w∧a0 B U J S w H (g9 vs) v w:=by
 have run:∀ xs,(fn.results.toList.mapM (fun (x:ResultVar)=>match x with | .tmp t=>(pure (bd.getD t undef):Sem Value) | .cell a t=>do loadVar t (←asAddr (bd.getD a undef)))).run P w=.ok xs w →
   (results fn bd).run P w=.ok (if h:xs.toArray.size=1 then xs.toArray[0] else .tuple xs.toArray) w:=fun xs al=>by
  have aK:results fn bd=(do
    let vs ←fn.results.mapM (fun (x:ResultVar)=>match x with | .tmp t=>(pure (bd.getD t undef):Sem Value) | .cell a t=>do loadVar t (←asAddr (bd.getD a undef)))
    pure (if h:vs.size=1 then vs[0] else .tuple vs)):=by
   unfold results;congr 1
  rw [aK,Array.mapM_eq_mapM_toList];simp only [Sem.run_bind,Sem.run_map,al,Result.andThen_ok,Sem.run_pure]
 match vs,h with
 | [u],h =>
   obtain ⟨xs,aW,aX,cw⟩:=mf ah bW (g:=fun x=>match x with | .tmp t=>pure (bd.getD t undef) | .cell a t=>do loadVar t (←asAddr (bd.getD a undef))) (fun _=>rfl) (fun _ _=>rfl) _ _ h
   match xs,aX with
   | [x],_ =>
     obtain ⟨aR,r2⟩:=cw 0 u x rfl rfl;refine ⟨x,by rw [run _ aW];rfl,?_⟩;rcases r2 with ⟨aD,_⟩ | ⟨t,_,ar⟩
     ·exact a0.same ah aR aD
     ·obtain ⟨aA,b_⟩:=Dr t ah;exact ⟨kG t U,J,S,Ext.refl J,aA,b_,aR,ar.mono (Ext.refl J) (fun _ _ h=>⟨h,rfl⟩) fun b ag=>⟨by simp [kG,ag],rfl,fun _ h=>h⟩⟩
 | [],h =>
   obtain ⟨xs,aW,aX,cw⟩:=mf ah bW (g:=fun x=>match x with | .tmp t=>pure (bd.getD t undef) | .cell a t=>do loadVar t (←asAddr (bd.getD a undef))) (fun _=>rfl) (fun _ _=>rfl) _ _ h
   match xs,aX with
   | [],_=>exact ⟨.tuple #[],by rw [run _ aW];rfl,a0.same ah (.tuple [] #[] rfl (by simp) (by simp)) rfl⟩
 | fp::gb::us,h =>
   obtain ⟨a5,dj,dc,bV,j',oG⟩:=Af T bd.toList .slot S (fun i j h=>by cases h;rfl) (fun i id=>by simp) (fun i id j=>by simp) bW ah;have c5:bj U S w U a5 w:=bj.settle dj fun b o h=>(dc b o h).imp id fun ⟨i,h⟩=>⟨_,h⟩;obtain ⟨xs,aW,aX,cw⟩:=mf ah bW (g:=fun x=>match x with | .tmp t=>pure (bd.getD t undef) | .cell a t=>do loadVar t (←asAddr (bd.getD a undef))) (fun _=>rfl) (fun _ _=>rfl) _ _ h
   refine ⟨.tuple xs.toArray,by
    rw [run _ aW]
    have:¬ xs.toArray.size=1:=by simp at aX ⊢;omega
    rw [dif_neg this],a0.after (Ext.refl J) c5 (a0.same bV (.tuple _ _ (by simp at aX ⊢;omega) ?_ ?_) rfl)⟩
   ·intro y aZ;obtain ⟨x,_,rfl⟩:=List.mem_map.1 aZ;exact I.c_ x
   ·intro j y x aZ al;simp only [List.getElem?_map,Option.map_eq_some_iff] at aZ;obtain ⟨u,hu,rfl⟩:=aZ;obtain ⟨aR,r2⟩:=cw j u x hu (by simpa using al);rcases r2 with ⟨aD,_⟩ | ⟨t,⟨rfl,rfl⟩,_⟩
    ·rw [I.jZ aD];exact aR.mono (Ext.refl J) fun b o h=>⟨dj b o h,rfl⟩
    ·have:=(oy oG t).1;have ae:c1 (T.map I.view) t=(c1 T t).view:=by
      rw [fR,fR,List.getD_eq_getElem?_getD,List.getD_eq_getElem?_getD,List.getElem?_map];cases T[t]? <;> rfl
     rw [ae] at this;exact this
end
end Go.Proofs.YtfakoboiahbhaaaGreat.Ab


namespace Go.Proofs.YtfakoboiahbhaaaGreat.Ab
open Go
def gM (bk:List Nat) (U:Nat→Option aG):Nat→Option aG:=fun b=>match U b with
 | some (.arg i)=>(bk[i]?).map .slot
 | some (.obj id)=>some (.obj id)
 | some (.cell id j)=>some (.cell id j)
 | _=>none
section
variable {P:Program} {B N:Nat} {J:List Nat} {w:World} {H:List au} {U:Nat→Option aG} {S:Nat→Nat→Prop}
theorem Ax (bk:List Nat) (ah:aJ B U J S w H):bj U S w (gM bk U) S w∧aJ B (gM bk U) J S w H :=
 relabel ah (fun b h=>by simp [gM,h]) fun b l h aq=>by
  rcases aq with ⟨id,rfl⟩ | ⟨id,j,rfl⟩ <;> simp [gM,h]
theorem xf:∀ (bk:List Nat) (us:List I) (T bb:List I) (xs bd:List Value),hc bk us T=some bb→us.length=xs.length→T.length=bd.length →
  bk.length=us.length∧bb.length=T.length∧((bk.zip xs).foldl (fun (l:List Value) (p:Nat×Value)=>l.set p.1 p.2) bd).length=bd.length ∧
  ∀ (i:Nat) (u:I) (x:Value),bb[i]?=some u→((bk.zip xs).foldl (fun (l:List Value) (p:Nat×Value)=>l.set p.1 p.2) bd)[i]?=some x →
    (T[i]?=some u∧bd[i]?=some x)∨∃ (j:Nat),bk[j]?=some i∧us[j]?=some u∧xs[j]?=some x
 | [],[],T,bb,xs,bd,h,aq,aw=>by
   simp only [hc,Option.some.injEq] at h;subst h;exact ⟨rfl,rfl,by simp,fun i u x hu al=>.inl ⟨hu,by simpa using al⟩⟩
 | p::bk,xn::us,T,bb,iW::xs,bd,h,aq,aw=>by
   simp only [hc,gL] at h;obtain ⟨ad,af,aH,bh⟩:=xf bk us (T.set p xn) bb xs (bd.set p iW) h (by simpa using aq) (by simpa using aw);refine ⟨by simp [ad],by simpa using af,by simpa using aH,fun i u x hu al=>?_⟩;rcases bh i u x hu (by simpa using al) with ⟨aL,aQ⟩ | ⟨j,aL,aQ,ch⟩
   ·by_cases ym:p=i
    ·subst ym;(have dA:p<T.length:=by have:=(List.getElem?_eq_some_iff.1 aL).1;simpa using this);(have kq:p<bd.length:=by omega);rw [List.getElem?_set_self dA] at aL;rw [List.getElem?_set_self kq] at aQ;exact .inr ⟨0,rfl,by simpa using aL,by simpa using aQ⟩
    ·rw [List.getElem?_set_ne ym] at aL aQ;exact .inl ⟨aL,aQ⟩
   ·exact .inr ⟨j+1,by simpa using aL,by simpa using aQ,by simpa using ch⟩
 | [],_::_,T,bb,xs,bd,h,aq,aw=>by simp [hc] at h
 | _::_,[],T,bb,xs,bd,h,aq,aw=>by simp [hc] at h
 | _::_,_::_,T,bb,[],bd,h,aq,aw=>by simp at aq
theorem zV (L:Loop) (vs:List Value):(hx L vs).toList=(L.params.toList.zip vs).foldl (fun (l:List Value) (p:Nat×Value)=>l.set p.1 p.2) L.tmps.toList:=by
 unfold hx;rw [←Array.foldl_toList,Array.toList_zip];generalize L.params.toList.zip vs=gd;generalize L.tmps=bd
 induction gd generalizing bd with
 | nil=>rfl
 | cons z gd a9=>simp only [List.foldl_cons];rw [a9];simp
theorem cz.loop {s:a8} {a:Act} (aM:cz B N U J S w s a) {id b:Nat} {L:Loop} {st:LoopState} {cB:Option Code} {fn:FuncId} {T:List I} {bk:List Nat} {as bX:Code} {an:c'}
  (aE:s.H[id]?=some (.loop st cB fn T bk as bX an)) (ag:J[id]?=some b) (fh:w.heap[b]?=some (.loop L)) (hd:LoopState) (g_:Option Code) :
  bj U S w U S (w.putObj b (.loop { L with state:=hd,pending:=g_ }))∧cz B N U J S (w.putObj b (.loop { L with state:=hd,pending:=g_ })) ⟨s.T,s.H.set id (.loop hd g_ fn T bk as bX an)⟩ a:=by
 obtain ⟨aA,ah,_⟩:=CT aM.H aE ag fh hd g_;obtain ⟨_,_,ao,n3,aB,aF,_⟩:=aM.H.obj id _ aE;rw [ag] at aB;cases aB;refine ⟨aA,⟨⟨aM.T.len,fun i u v hu ae=>(aM.T.rel i u v hu ae).mono (Ext.refl J) aA.set,fun i u v hu ae=>?_⟩,ah,aM.M.aA aA⟩⟩;refine (aM.T.own i u v hu ae).mono (Ext.refl J) aA.set fun ao bq=>⟨bq,World.putObj_heap_other (fun e=>?_),fun _ h=>h⟩;subst e;rw [aF] at bq;cases bq
theorem A_ (dD:P.follows .mixedOrders=true) {C:cc} (bD:dn P C) {k:Nat} {f:Func} {c:Code} (aN:P.funcs[k]?=some f) (ag:f.body=some c) {A:c'} (b0:codeOk A c=true)
  {lo d:Nat} {args:List I} {e:cC} {s:a8} (h:exec P A C k lo d none c 0 ⟨args++List.replicate (f.ntmps-args.length) .junk,H⟩=some (e,s)) (he:e=.normal∨e=.ret) {vs:List I}
  (aj:fb P s.H s.T f.results.toList=some vs) {xs:List Value} (ah:aJ B U J S w H) (ae:a7 (fun i=>.arg i) U J S w args xs) :
  CallsIn Fence.wide 0 P k xs.toArray w (fr B U J S w s.H (g9 vs)):=by
 refine callsIn_of_wp_marks aN ag trivial ?_;have aM:=xj ah ae f.ntmps;have c5:=(nT ah).1;refine mL bD dD c 0 _ _ _ h b0 Fence.wide _ B w.heap.size J w (hC U) S _ (.inl ⟨rfl,rfl⟩) (fun l a w aK=>aK.elim) aM fun aO w' ai=>?_;obtain ⟨b5,cT,a5,aL,aQ,cb⟩:=ai;have iz:LeavesInM Fence.wide 0 P f aO.tmps (fr B U J S w s.H (g9 vs)) aO.defers .returning w':=by
  refine nj (U:=b5) (S:=a5) (J:=cT) (B:=B) (H:=s.H) (kV:=U) (S0:=S) (w0:=w) aO.defers w' cb.M.2.1 cb.M.2.2 (c5.trans aQ) cb.H fun bS dj dc lU lV=>?_
  have bW:a7 .slot b5 cT a5 bS s.T aO.tmps.toList:=⟨cb.T.len,fun i u v hu ae=>(cb.T.rel i u v hu ae).mono (Ext.refl _) (fun b o h=>⟨h,dc b o h⟩),fun i u v hu ae =>
   (cb.T.own i u v hu ae).mono (Ext.refl _) (fun b o h=>⟨h,dc b o h⟩) fun b ag=>⟨ag,dj b _ ag,fun _ h=>h⟩⟩
  obtain ⟨v,aW,aX⟩:=pQ lV bW aj;exact ⟨v,aW,a0.after aL lU aX⟩
 rcases he with rfl | rfl
 ·exact iz
 ·exact iz
end
end Go.Proofs.YtfakoboiahbhaaaGreat.Ab


namespace Go.Proofs.YtfakoboiahbhaaaGreat.Ab
open Go
section
variable {P:Program} {B N:Nat} {J:List Nat} {w:World} {H:List au} {U:Nat→Option aG} {S:Nat→Nat→Prop}
def kK (l:Nat) (H:List au) (fn:FuncId) (T:List I) (bk:List Nat) (as bX:Code) (an:c'):cC→I×List au
 | .normal=>(.bool true,H.set l (.loop .ready none fn T bk as bX an))
 | .ret=>(.bool false,H.set l (.loop .done (some .ret) fn T bk as bX an))
 | .exit id=>(.bool false,H.set l (.loop .done (some (.exit id)) fn T bk as bX an))
theorem A' (dD:P.follows .mixedOrders=true) {C:cc} (bD:dn P C) {l lo d:Nat} {fn fn':FuncId} {jJ cB:Option Code} {T bb eN dH:List I} {bk gG fJ:List Nat} {as bX gp gq fw fx:Code} {an gm fv:c'} {fQ fz:FuncId} {args:List I}
  (aq:H[l]?=some (.loop .ready jJ fn T bk as bX an)) (eb:hc bk args T=some bb) {s1 s2:a8} {e:cC} {jK:Option Code}
  (ad:exec P an C fn lo d (some l) as 0 ⟨bb,H⟩=some (.normal,s1)) (hp:s1.H[l]?=some (.loop .ready cB fQ eN gG gp gq gm))
  (af:exec P an C fn' lo d (some l) bX 0 ⟨s1.T,s1.H.set l (.loop .busy cB fQ eN gG gp gq gm)⟩=some (e,s2)) (e7:s2.H[l]?=some (.loop .busy jK fz dH fJ fw fx fv))
  {xs:List Value} {b:Nat} (ah:aJ B U J S w H) (ae:a7 (fun i=>.arg i) U J S w args xs) (ag:J[l]?=some b) :
  ∃ L,w.heap[b]?=some (.loop L)∧xs.length=L.params.size ∧
    RoundIn Fence.wide 0 P b L.fn (hx L xs) L.assign L.body w (fr B U J S w (kK l s2.H fz dH fJ fw fx fv e).2 (kK l s2.H fz dH fJ fw fx fv e).1):=by
 obtain ⟨a',bm,ao,L,aB,aF,aS,bp,bf,bg,cY,c4,dv,fu,n6⟩:=ah.obj l _ aq;rw [ag] at aB;cases aB;have cF:=xf bk args T bb xs L.tmps.toList eb ae.len (by simpa using cY.symm);obtain ⟨cn,cp,ed,il⟩:=cF;refine ⟨L,aS,by rw [←ae.len,←cn,←dv];simp,?_⟩;refine roundIn_of_wpIn trivial ?_;have lL:(hx L xs).toList=(bk.zip xs).foldl (fun (l:List Value) (p:Nat×Value)=>l.set p.1 p.2) L.tmps.toList:=by rw [zV,dv]
 obtain ⟨c5,fA⟩:=Ax bk ah;have aM:cz B w.heap.size (gM bk U) J S w ⟨bb,H⟩ { tmps:=hx L xs,defers:=[] }:=by
  refine ⟨?_,fA,Nat.le_refl _,fun d a2=>by simp at a2,List.Pairwise.nil⟩;simp only [lL];have key:∀ (i:Nat) (u:I) (x:Value),bb[i]?=some u→((bk.zip xs).foldl (fun (l:List Value) (p:Nat×Value)=>l.set p.1 p.2) L.tmps.toList)[i]?=some x →
    Rel J S w u x∧aV (gM bk U) J S w (.slot i) u x:=fun i u x hu al=>by
   rcases il i u x hu al with ⟨aL,aQ⟩ | ⟨j,aL,aQ,ch⟩
   ·obtain ⟨bP,b4⟩:=c4 i u x aL (by simpa using aQ);exact ⟨b4,aV.b3 bP⟩
   ·exact ⟨ae.rel j u x aQ ch,(ae.own j u x aQ ch).mono (Ext.refl J) (fun _ _ h=>⟨h,rfl⟩) fun b ag=>⟨by simp [gM,ag,aL],rfl,fun _ h=>h⟩⟩
  exact ⟨by rw [cp,ed,←cY];simp,fun i u x hu al=>(key i u x hu al).1,fun i u x hu al=>(key i u x hu al).2⟩
 rw [fu,n6];refine mL bD dD as 0 _ _ _ ad a' _ _ B w.heap.size J w (gM bk U) S _ (.inr ⟨l,b,rfl,ag,rfl⟩) (fun l a w aK=>aK) aM fun aB bE ai=>?_;obtain ⟨b5,cT,a5,aL,aQ,cb⟩:=ai;have eQ:cT[l]?=some b:=aL _ _ ag;obtain ⟨_,_,ao,i',d1,d2,d3,d4,d5,_⟩:=cb.H.obj l _ hp;rw [eQ] at d1;cases d1;obtain ⟨dR,oB⟩:=cb.loop hp eQ d3 .busy cB;have oJ:(Instr.beginRound b).run P bE=.ok () (bE.putObj b (.loop { i' with state:=.busy,pending:=cB })):=by
  rw [run_beginRound d3 d4]
  have:({ i' with state:=.busy,pending:=cB }:Loop)={ i' with state:=.busy }:=by rw [←d5]
  rw [this]
 refine ⟨_,oJ,?_⟩;refine wpIn_mono (Q:=fun cL aO w'=>(∀ t,cL≠Exit.goto t)∧roundPost P b (fr B U J S w (kK l s2.H fz dH fJ fw fx fv e).2 (kK l s2.H fz dH fJ fw fx fv e).1) cL aO w') ?_ (fun e a w h=>h.2);refine mL bD dD bX 0 _ _ _ af bm _ _ B w.heap.size cT _ b5 a5 _ (.inr ⟨l,b,rfl,eQ,rfl⟩) (fun l a w aK=>aK.1 l rfl) oB fun aF bS ai=>?_;obtain ⟨bo,ca,bI,ch,lW,lg⟩:=ai;have fi:ca[l]?=some b:=ch _ _ eQ;obtain ⟨_,_,ao,h',f1,f2,f3,f4,f5,_⟩:=lg.H.obj l _ e7;rw [fi] at f1;cases f1;have jk:bj U S w bo bI bS:=((c5.trans aQ).trans dR).trans lW;have fin:∀ (st:LoopState) (jump:Option Code),a0 B U J S w (s2.H.set l (.loop st jump fz dH fJ fw fx fv)) (.bool jump.isNone) (.bool jump.isNone) (bS.putObj b (.loop { h' with state:=st,pending:=jump })):=fun st jump=>by
  obtain ⟨oo,oC⟩:=lg.loop e7 fi f3 st jump;exact ⟨bo,ca,bI,aL.trans ch,jk.trans oo,oC.H,.bool _,aV.b3 rfl⟩
 refine ⟨fun t aw=>(by cases e <;> cases aw),?_⟩;cases e with
 | normal=>exact ⟨_,_,run_endRound none f3,fin .ready none⟩
 | ret=>exact ⟨_,_,run_endRound (some .ret) f3,fin .done (some .ret)⟩
 | exit id=>exact ⟨_,_,run_endRound (some (.exit id)) f3,fin .done (some (.exit id))⟩
theorem Ba (dD:P.follows .mixedOrders=true) (A:FuncId→c') {tab:cc} (aw:dn P tab)
  (b0 : ∀ k f c, (A k).bad = false → P.funcs[k]? = some f → f.body = some c → codeOk (A k) c = true ∧ f.name ≠ "runtime.NumGoroutine") : ∀ d, dn P (fO P A tab d)
 | 0=>⟨fun h=>by simp [fO] at h,fun h=>by simp [fO] at h⟩
 | d+1=>by
   have bD:=Ba dD A aw b0 d;have xY:∀ {k:FuncId} {args:List I} {H:List au} {lo:Nat} {r:I} {H':List au},fO P A tab (d+1) (.fn k) args H lo=some (r,H')→tab (.fn k) args H lo=some (r,H') ∨
     ∃ f c e s vs,(A k).bad=false∧P.funcs[k]?=some f∧f.body=some c∧exec P (A k) (fO P A tab d) k lo d none c 0 ⟨args++List.replicate (f.ntmps-args.length) .junk,H⟩=some (e,s)∧(e=.normal∨e=.ret) ∧
       fb P s.H s.T f.results.toList=some vs∧r=g9 vs∧H'=s.H:=fun {k args H lo r H'} h=>by
    simp only [fO] at h;split at h
    ·rename_i x al;cases h;exact .inl al
    ·right;split at h
     ·simp at h
     rename_i mP;split at h
     ·rename_i f aN;split at h
      ·rename_i c ag;split at h
       ·rename_i s ai;simp only [Option.map_eq_some_iff,Prod.mk.injEq] at h;obtain ⟨vs,aj,rfl,rfl⟩:=h;exact ⟨f,c,_,s,vs,mP,aN,ag,ai,.inl rfl,aj,rfl,rfl⟩
       ·rename_i s ai;simp only [Option.map_eq_some_iff,Prod.mk.injEq] at h;obtain ⟨vs,aj,rfl,rfl⟩:=h;exact ⟨f,c,_,s,vs,mP,aN,ag,ai,.inr rfl,aj,rfl,rfl⟩
       ·simp at h
      ·simp at h
     ·simp at h
   have AJ:∀ {l:Nat} {args:List I} {H:List au} {lo:Nat} {r:I} {H':List au},fO P A tab (d+1) (.yield l) args H lo=some (r,H') →
     ∃ jJ fn T bk as bX an bb s1 cB fQ eN gG gp gq gm e s2 jK fz dH fJ fw fx fv,lo≤l∧H[l]?=some (.loop .ready jJ fn T bk as bX an)∧hc bk args T=some bb ∧
       exec P an (fO P A tab d) fn lo d (some l) as 0 ⟨bb,H⟩=some (.normal,s1)∧s1.H[l]?=some (.loop .ready cB fQ eN gG gp gq gm) ∧
       exec P an (fO P A tab d) fQ lo d (some l) bX 0 ⟨s1.T,s1.H.set l (.loop .busy cB fQ eN gG gp gq gm)⟩=some (e,s2)∧s2.H[l]?=some (.loop .busy jK fz dH fJ fw fx fv) ∧
       (r,H')=kK l s2.H fz dH fJ fw fx fv e:=fun {l args H lo r H'} h=>by
    simp only [fO] at h;split at h
    ·simp at h
    ·rename_i bF;split at h
     ·rename_i jJ fn T bk as bX an aq;split at h
      ·rename_i bb eb;split at h
       ·rename_i s1 ad;split at h
        ·rename_i cB fQ eN gG gp gq gm hp;split at h
         ·rename_i e s2 af;split at h
          ·rename_i jK fz dH fJ fw fx fv e7;refine ⟨jJ,fn,T,bk,as,bX,an,bb,s1,cB,fQ,eN,gG,gp,gq,gm,e,s2,jK,fz,dH,fJ,fw,fx,fv,by omega,aq,eb,ad,hp,af,e7,?_⟩;cases e <;> simp only [Option.some.injEq] at h <;> exact h.symm
          ·simp at h
         ·simp at h
        ·simp at h
       ·simp at h
      ·simp at h
     ·simp at h
   refine ⟨fun {b1 args H lo r H'} h=>?_,fun {b1 args H lo r H'} h=>?_⟩
   ·cases b1 with
    | fn k =>
      rcases xY h with h | ⟨f,c,e,s,vs,_,_,_,aH,_,_,_,rfl⟩
      ·exact aw.low h
      ·exact ou bD c 0 _ e s aH
    | yield l =>
      obtain ⟨jJ,fn,T,bk,as,bX,an,bb,s1,cB,fQ,eN,gG,gp,gq,gm,e,s2,jK,fz,dH,fJ,fw,fx,fv,bF,aq,eb,ad,hp,af,e7,aj⟩:=AJ h;have c8:=ou bD as 0 _ _ s1 ad;have c9:=ou bD bX 0 _ e s2 af;(have jB:a_ lo s2.H (kK l s2.H fz dH fJ fw fx fv e).2:=by cases e <;> exact a_.set _ _ bF);rw [←aj] at jB;exact (c8.trans ((a_.set s1.H _ bF).trans c9)).trans jB
   ·cases b1 with
    | fn k =>
      rcases xY h with h | ⟨f,c,e,s,vs,mP,aN,ag,aH,he,aj,rfl,rfl⟩
      ·exact aw.ok h
      obtain ⟨bC,bO⟩:=b0 k f c mP aN ag;exact ⟨⟨f,aN,by simp [ag],bO⟩,fun B U J S w xs ah _ ae=>A_ dD bD aN ag bC aH he aj ah ae⟩
    | yield l =>
      obtain ⟨jJ,fn,T,bk,as,bX,an,bb,s1,cB,fQ,eN,gG,gp,gq,gm,e,s2,jK,fz,dH,fJ,fw,fx,fv,bF,aq,eb,ad,hp,af,e7,aj⟩:=AJ h;intro B U J S w xs b ah _ ae ag;have:=A' dD bD aq eb ad hp af e7 ah ae ag;rw [←aj] at this;exact this
end
end Go.Proofs.YtfakoboiahbhaaaGreat.Ab


namespace Go.Proofs.YtfakoboiahbhaaaGreat.Ab
open Go
def Sem (P:Program) (b1:eZ) (args:List I) (H:List au) (lo:Nat) (r:I) (H':List au):Prop:=a_ lo H H'∧jc P b1 args H H' r
def kW (P:Program) (k:FuncId) (args:List I) (v:I):Prop:=Sem P (.fn k) args [] 0 v []∧cl 8 v=true
abbrev dM:=List (FuncId×List I×I)
def j1 (P:Program) (acc:dM):Prop:=(∀ p∈acc,kW P p.1 p.2.1 p.2.2)∧∀ p∈acc,∀ q∈acc,p.1=q.1→p.2.1=q.2.1→p.2.2=q.2.2
def j0 (C:cc) (acc:dM):Prop:=∀ p∈acc,∃ r a3,C (.fn p.1) p.2.1 [] 0=some (r,a3)∧bK a3 0 a3.length 0 8 r=some p.2.2
section
variable {P:Program}
theorem od {C:cc} (h:∀ b1 args H lo r H',C b1 args H lo=some (r,H')→Sem P b1 args H lo r H'):dn P C :=
 ⟨fun ak=>(h _ _ _ _ _ _ ak).1,fun ak=>(h _ _ _ _ _ _ ak).2⟩
theorem dn.FZ {C:cc} (bD:dn P C) {b1:eZ} {args:List I} {H:List au} {lo:Nat} {r:I} {H':List au} (h:C b1 args H lo=some (r,H')):Sem P b1 args H lo r H':=⟨bD.low h,bD.ok h⟩
theorem xM:dn P (fun _ _ _ _=>none):=od fun _ _ _ _ _ _ h=>by cases h
noncomputable def kz (b1:eZ) (args:List I) (H:List au) (lo:Nat) (r:I) (H':List au):cc:=fun t a h l =>
 open Classical in if t=b1∧a=args∧h=H∧l=lo then some (r,H') else none
theorem Dn (b1:eZ) (args:List I) (H:List au) (lo:Nat) (r:I) (H':List au):kz b1 args H lo r H' b1 args H lo=some (r,H'):=by simp [kz]
theorem Dp {b1:eZ} {args:List I} {H:List au} {lo:Nat} {r:I} {H':List au} (h:Sem P b1 args H lo r H'):dn P (kz b1 args H lo r H') :=
 od fun t a a4 l r' a3 ak=>by
  unfold kz at ak;split at ak
  ·rename_i he;obtain ⟨rfl,rfl,rfl,rfl⟩:=he;cases ak;exact h
  ·cases ak
theorem y3 {f:I→Option I}:∀ {l:List I},(∀ u∈l,f u=some u)→dY f l=some l
 | [],_=>rfl
 | u::l,h=>by
   simp only [dY,h u (by simp),y3 (l:=l) fun v ae=>h v (by simp [ae]),Option.map_some]
theorem ox {H:List au} {lo id0 n:Nat}:∀ {d:Nat} {v:I},cl d v=true→bK H lo id0 n d v=some v
 | 0,v,h=>by simp [cl] at h
 | d+1,v,h=>by
   have key:∀ {l:List I},l.all (cl d)=true→dY (bK H lo id0 n d) l=some l:=fun h=>y3 fun u hu=>ox (by rw [List.all_eq_true] at h;exact h u hu);cases v <;> simp only [cl,Bool.false_eq_true] at h <;> try rfl
   case ax cells len c=>simp only [bK,key h,Option.map_some]
   case bT cells=>simp only [bK,key h,Option.map_some]
   case agg cs=>simp only [bK,key h,Option.map_some]
   case tuple cs=>simp only [bK,key h,Option.map_some]
   case func f a b =>
    simp only [Bool.and_eq_true] at h;simp only [bK,key h.1,key h.2]
theorem xw {acc:dM} (h:j1 P acc):∃ C,dn P C∧j0 C acc:=by
 classical
 obtain ⟨ad,af⟩:=h;have key:∀ x:eZ×List I×List au×Nat,∃ o:Option (I×List au),(∀ r H',o=some (r,H')→Sem P x.1 x.2.1 x.2.2.1 x.2.2.2 r H') ∧
   ∀ p∈acc,x=(.fn p.1,p.2.1,[],0)→∃ r a3,o=some (r,a3)∧bK a3 0 a3.length 0 8 r=some p.2.2:=fun x=>by
  by_cases al:∃ p∈acc,x=(.fn p.1,p.2.1,[],0)
  ·obtain ⟨p,aD,rfl⟩:=al;obtain ⟨aW,aX⟩:=ad p aD;refine ⟨some (p.2.2,[]),fun r' H' e=>by cases e;exact aW,fun q bl e=>?_⟩;simp only [Prod.mk.injEq,eZ.fn.injEq] at e;exact ⟨p.2.2,[],rfl,by rw [ox aX,af p aD q bl e.1 e.2.1]⟩
  ·exact ⟨none,(fun r H' e=>nomatch e),fun p aD e=>absurd ⟨p,aD,e⟩ al⟩
 let C:cc:=fun t a H l=>Classical.choose (key (t,a,H,l))
 have bD:∀ t a H l,_:=fun t a H l=>Classical.choose_spec (key (t,a,H,l));exact ⟨C,od fun t a H l r H' ak=>(bD t a H l).1 r H' ak,fun p aD=>(bD _ _ _ _).2 p aD rfl⟩
def xv (o:Oper) (s:a8) (K:a8→Prop):Prop :=
 ∃ it r m since seen es clock,o.op=.next it false∧o.guard=none∧Ab.aA s.T it=.ptr r 0∧s.H[r]?=some (.iter m since seen clock)∧s.H[m]?=some (.map es clock)∧since≤clock∧(∀ e∈es,e.1<since) ∧
   ((∀ e∈es,e.1∈seen)→K ⟨put s.T o.dst (.tuple [.bool false]),s.H⟩) ∧
   ∀ e∈es,e.1 ∉ seen→K ⟨put s.T o.dst (.tuple [.bool true,e.2.1,e.2.2]),s.H.set r (.iter m since (seen++[e.1]) clock)⟩
section
variable {B N:Nat} {J:List Nat} {w:World} {H:List au} {U:Nat→Option aG} {S:Nat→Nat→Prop}
theorem CF (ah:aJ B U J S w H) {id m since since' jV stepped':Nat} {seen seen':List Nat} (aE:H[id]?=some (.iter m since seen jV)) {b d_:Nat}
  (aB:J[id]?=some b) (aF:U b=some (.obj id)) (aS:J[m]?=some d_) (bf:∀ o,¬ S b o) :
  bj U S w U S (w.putObj b (.mapIter (some d_) since' seen'.toArray stepped'))∧aJ B U J S (w.putObj b (.mapIter (some d_) since' seen'.toArray stepped')) (H.set id (.iter m since' seen' stepped')):=by
 have hj:∀ ao o,S ao o→ao≠b:=fun ao o ai e=>bf o (e ▸ ai);have ag:=(ah.base b _ aF).2;have aA:bj U S w U S (w.putObj b (.mapIter (some d_) since' seen'.toArray stepped')) :=
  ⟨rfl,rfl,rfl,by simp,fun ao _ aP=>World.putObj_heap_other (fun e=>by subst e;rw [aF] at aP;cases aP),fun ao o ai=>⟨ai,nx (hj ao o ai)⟩,fun ao o ai=>.inl ai,fun ao h=>.inl h⟩
 refine ⟨aA,by simpa using ah.cA,fun bA o ar=>?_,fun ao o ai=>?_,fun ao l h=>by simpa using ah.base ao l h,by simpa using ah.cV⟩
 ·by_cases gX:bA=id
  ·subst gX;rw [List.getElem?_set_self (List.getElem?_eq_some_iff.1 aE).1] at ar;cases ar;exact ⟨b,d_,aB,aF,aS,World.putObj_heap_same ag,bf⟩
  ·rw [List.getElem?_set_ne (fun e=>gX e.symm)] at ar;refine (ah.obj bA o ar).frame (Ext.refl J) aA.set fun ao ct bq js=>?_;have bY:ao≠b:=fun e=>by
    subst e;rw [aF] at bq;cases bq;rcases js with h | ⟨j,h⟩
    ·cases h;exact gX rfl
    ·cases h
   exact ⟨bq,World.putObj_heap_other bY,fun o ai=>ai⟩
 ·obtain ⟨v,ae⟩:=ah.b' ao o ai;exact ⟨v,(nx (hj ao o ai)).trans ae⟩
theorem Di {F:Fence} (bG:eA F) {o:Oper} {s:a8} {fc:a8→Prop} (h:xv o s fc) {a:Act} (aM:cz B N U J S w s a)
  {K:Act→World→Prop} {Q:Exit→Act→World→Prop} (gw:∀ aI,fc aI→∀ aO w',Step B N U J S w aI aO w'→K aO w'):o.wpIn F 0 P a w K Q:=by
 obtain ⟨it,r,m,since,seen,es,clock,aC,aK,BZ,aj,hm,pd,hold,c7,aL⟩:=h;have lF:∀ c,o.op≠.defer c:=fun c ak=>by rw [aC] at ak;cases ak
 refine ⟨fun f _=>bG.fn f,?_⟩;rw [Oper.semAt_eq _ _ _ lF];have lv:=aM.aA it;rw [BZ] at lv;have fA:=lJ aM.H;obtain ⟨b,d_,aB,aF,aS,bp,bf⟩:=fA.obj r _ aj;obtain ⟨Fp,bx,a',bm,bt,b6,dQ,fN⟩:=fA.obj m _ hm;rw [aS] at a';cases a';generalize ae:a.eval it=v at lv;cases lv with
 | ptr _ _ ao eR =>
   rw [aB] at eR;cases eR;have BA:∀ x∈bx.toList,x.born<since:=fun x al=>by
    obtain ⟨j,az⟩:=List.mem_iff_getElem?.1 al;(have d':bx[j]?=some x:=by simpa using az);(have aY:j<es.length:=by have:=(Array.getElem?_eq_some_iff.1 d').1;omega);rcases bJ:es[j] with ⟨i,k,v⟩;(have he:es[j]?=some (i,k,v):=by rw [List.getElem?_eq_getElem aY,bJ]);rw [(fN j i k v x he d').1];exact hold (i,k,v) (List.mem_of_getElem? he)
   have done:∀ {r':I} {H':List au} {v:Value} {w':World},a0 B (db U) J S w H' r' v w'→fc ⟨put s.T o.dst r',H'⟩→K (a.put o.dst v) w':=fun {r' H' v w'} aD av=>by
    obtain ⟨ay,bZ,S',aW,aX,gV,_⟩:=nw o.dst aM aD .junk (fun _ _ _ _ _=>.junk _);exact gw _ av _ _ ⟨ay,bZ,S',aW,aX,gV⟩
   rcases run_next_at (P:=P) w o.type b d_ since clock seen.toArray bx clock bp bt BA pd with ⟨aP,dT⟩ | ⟨x,al,bE,yA,dT⟩
   ·(have pc:(Go.execOp a.eval o).run P w=.ok (.value (.tuple #[.bool false])) w:=by simp [Go.execOp,aC,ae,dT]);rw [pc];refine done (a0.same fA (.tuple _ _ rfl (by simp [I.plain]) fun j u bu hu bc=>?_) rfl) (c7 fun e he=>?_)
    ·match j with
     | 0=>simp at hu bc;subst hu;subst bc;exact .bool _
     | j+1=>simp at hu
    ·obtain ⟨j,az⟩:=List.mem_iff_getElem?.1 he;have aY:j<es.length:=(List.getElem?_eq_some_iff.1 az).1;have al:bx[j]?=some bx[j]:=Array.getElem?_eq_getElem (by omega);have ag:=(fN j e.1 e.2.1 e.2.2 _ az al).1;have oR:leftOf bx seen.toArray=#[]:=Array.eq_empty_of_size_eq_zero aP;unfold leftOf at oR;rw [Array.filter_eq_empty_iff] at oR;have:=oR bx[j] (by simp);simpa [ag] using this
   ·have pc:(Go.execOp a.eval o).run P w=.ok (.value (.tuple #[.bool true,x.key,x.val])) (bE.putObj b (.mapIter (some d_) since (seen++[x.born]).toArray clock)):=by
     simp [Go.execOp,aC,ae,dT,Go.ChangeMaps.setBlock,World.putObj]
    rw [pc];have na:x∈bx.toList∧x.born ∉ seen:=by
     unfold leftOf at al;simpa using al
    obtain ⟨j,az⟩:=List.mem_iff_getElem?.1 na.1;(have d':bx[j]?=some x:=by simpa using az);(have aY:j<es.length:=by have:=(Array.getElem?_eq_some_iff.1 d').1;omega);rcases bJ:es[j] with ⟨i,k,v⟩;(have he:es[j]?=some (i,k,v):=by rw [List.getElem?_eq_getElem aY,bJ]);obtain ⟨d1,d2,d3,d4,d5⟩:=fN j i k v x he d';have m0:(i,k,v)∈es:=List.mem_of_getElem? he;refine done (r':=.tuple [.bool true,k,v]) (H':=s.H.set r (.iter m since (seen++[i]) clock)) ?_ (aL _ m0 (by rw [←d1];exact na.2));(have hw:aJ B (db U) J S bE s.H:=by rcases yA with rfl | rfl;exact fA;exact m9 fA);(have oS:bj (db U) S w (db U) S bE:=by rcases yA with rfl | rfl;exact bj.refl _ _ _;exact k_ _ _ _);refine a0.after (Ext.refl J) oS ?_;obtain ⟨aA,b_⟩:=CF hw (since':=since) (stepped':=clock) (seen':=seen++[i]) aj aB aF aS bf;rw [d1];refine ⟨db U,J,S,Ext.refl J,aA,b_,.tuple _ _ rfl (fun u hu=>?_) (fun j u bu hu bc=>?_),aV.b3 rfl⟩
    ·simp only [List.mem_cons,List.not_mem_nil,or_false] at hu;rcases hu with rfl | rfl | rfl
     ·rfl
     ·exact d2
     ·exact d4
    ·match j with
     | 0=>simp at hu bc;subst hu;subst bc;exact .bool _
     | 1=>simp at hu bc;subst hu;subst bc;exact (d3.mono (Ext.refl J) oS.set).mono (Ext.refl J) aA.set
     | 2=>simp at hu bc;subst hu;subst bc;exact (d5.mono (Ext.refl J) oS.set).mono (Ext.refl J) aA.set
     | j+3=>simp at hu
end
end
end Go.Proofs.YtfakoboiahbhaaaGreat.Ab


namespace Go.Proofs.YtfakoboiahbhaaaGreat.Ab
open Go
section
variable (P:Program)
def ib (lo:Nat) (ops:Array Oper) (o:Oper) (an:cq) (s:a8) (K:a8→Prop):Prop :=
 (∃ C aI,dn P C∧dL P C lo ops o an s=some aI∧K aI)∨xv o s K
def runN (lo:Nat) (ops:Array Oper):List Oper→List cq→a8→(a8→Prop)→Prop
 | [],_,s,K=>K s
 | o::r,as,s,K=>ib P lo ops o (as.headD {}) s fun aI=>runN lo ops r as.tail aI K
def DY (lo:Nat) (ops:Array Oper) (as:List cq) (s:a8) (K:a8→Prop):Prop :=
 ∃ acc aI,j1 P acc∧(∀ C,dn P C→j0 C acc→eC P C lo ops ops.toList as s=some aI)∧K aI
def ft (f:a8→(cC→a8→Prop)→Prop):Nat→a8→(cC→a8→Prop)→Prop
 | 0,_,_=>False
 | n+1,s,Q=>f s fun e aI=>match e with
   | .normal=>ft f n aI Q
   | e=>Q e aI
def du (A:c') (fn:FuncId) (lo:Nat) (rl:Option Nat):Code→Nat→a8→(cC→a8→Prop)→Prop
 | .skip,_,s,Q=>Q .normal s
 | .region id ops draw,_,s,Q=>match draw with
   | true=>DY P lo ops (A.ops.getD id []) (eS A.iG id s) (Q .normal)
   | false=>runN P lo ops ops.toList (A.ops.getD id []) (eS A.iG id s) (Q .normal)
 | .seq a b,a1,s,Q=>du A fn lo rl a a1 s fun e aI=>match e with
   | .normal=>du A fn lo rl b a1 aI Q
   | e=>Q e aI
 | .cond c a b,a1,s,Q=>(∃ t,aA s.T c=.bool t∧match t with
   | true=>du A fn lo rl a a1 s Q
   | false=>du A fn lo rl b a1 s Q)∨(aA s.T c=.dg∧du A fn lo rl a a1 s Q∧du A fn lo rl b a1 s Q)
 | .block id body,_,s,Q=>du A fn lo rl body id s fun e aI=>match e with
   | .exit bA=>if bA=id then Q .normal aI else Q (.exit bA) aI
   | e=>Q e aI
 | .loop body,a1,s,Q=>∃ n,ft (fun aI=>du A fn lo rl body a1 (eS A.hW a1 aI)) n s Q
 | .exit id,_,s,Q=>Q (.exit id) s
 | .ret,_,s,Q=>Q .ret s
 | .scope body,a1,s,Q=>du A fn lo rl body a1 s Q
 | .label _,_,s,Q=>Q .normal s
 | .rangeFunc f params assign body,a1,s,Q=>∃ C e aI,dn P C∧exec P A C fn lo 0 rl (.rangeFunc f params assign body) a1 s=some (e,aI)∧Q e aI
 | _,_,_,_=>False
end
section
variable {P:Program} {B N:Nat} {J:List Nat} {w:World} {H:List au} {U:Nat→Option aG} {S:Nat→Nat→Prop}
theorem EZ {F:Fence} (bG:eA F) {lo:Nat} {ops:Array Oper} {o:Oper} {an:cq} {s:a8} {fc:a8→Prop} (h:ib P lo ops o an s fc) {a:Act} (aM:cz B N U J S w s a)
  {rest:List Oper} {Q:Exit→Act→World→Prop} (gw:∀ aI,fc aI→∀ aO w',Step B N U J S w aI aO w'→wpListIn F 0 P ops Q rest aO w'):wpListIn F 0 P ops Q (o::rest) a w:=by
 rcases h with ⟨C,aI,bD,h,av⟩ | h
 ·unfold dL at h;unfold wpListIn;split at h
  ·rename_i hw;rw [kQ aM hw];simp only [if_true];exact xk bG bD h aM fun aO w' ai=>gw aI av aO w' ai
  ·rename_i hw;rw [kQ aM hw];simp only [Bool.false_eq_true,if_false];simp only [Option.some.injEq] at h;subst h;exact ⟨fun f _=>bG.fn f,gw _ av _ _ (Step.here (aM.skip o.dst))⟩
  ·simp at h
 ·have aK:o.guard=none:=by obtain ⟨_,_,_,_,_,_,_,_,aK,_⟩:=h;exact aK
  unfold wpListIn;have hw:Region.wanted o (yielded ops a.tmps)=true:=by unfold Region.wanted;rw [aK]
  rw [hw];simp only [if_true];exact Di bG h aM fun aI av aO w' ai=>gw aI av aO w' ai
theorem zZ {F:Fence} (bG:eA F) {lo:Nat} {ops:Array Oper} {fc:a8→Prop} {Q:Exit→Act→World→Prop} :
  ∀ (rest:List Oper) (as:List cq) (s:a8) (a:Act) (w:World) (U:Nat→Option aG) (J:List Nat) (S:Nat→Nat→Prop),runN P lo ops rest as s fc→cz B N U J S w s a →
    (∀ aI,fc aI→∀ aO w',Step B N U J S w aI aO w'→Q .normal aO w')→wpListIn F 0 P ops Q rest a w
 | [],as,s,a,w,U,J,S,h,aM,bz=>bz s h a w (Step.here aM)
 | o::rest,as,s,a,w,U,J,S,h,aM,bz=>by
   refine EZ bG h aM fun aI av aO w' ai=>?_;obtain ⟨b5,cT,a5,aL,aQ,cb⟩:=ai;exact zZ bG rest as.tail aI aO w' b5 cT a5 av cb fun D_ B0 hJ h7 dU=>bz D_ B0 hJ h7 (dU.trans aL aQ)
theorem CR {F:Fence} {c:Code} {f:a8→(cC→a8→Prop)→Prop} {cD:cC→a8→Prop} {Q:Exit→Act→World→Prop} {s:a8} {a:Act} {n:Nat}
  (h:ft f n s cD) (aM:cz B N U J S w s a) (bz:∀ e aI,cD e aI→∀ aO w',Step B N U J S w aI aO w'→Q (toExit e) aO w')
  (ka:∀ (s1:a8) (n4:cC→a8→Prop),f s1 n4→∀ (kX:Exit→Act→World→Prop) (aB:Act) (bE:World),(∀ l a w,kX (.goto l) a w→Q (.goto l) a w)→Step B N U J S w s1 aB bE →
   (∀ e s2,n4 e s2→∀ aO w',Step B N U J S w s2 aO w'→kX (toExit e) aO w')→c.wpIn F 0 P kX aB bE):(Code.loop c).wpIn F 0 P Q a w:=by
 classical
 let Inv:Nat→Act→World→Prop:=fun n aO w'=>∃ s1,ft f n s1 cD∧Step B N U J S w s1 aO w'
 let gg:Act→World→Nat:=fun aO w'=>if h:∃ n,Inv n aO w' then Classical.choose (j7 h) else 0
 have lR:∀ aO w',(∃ n,Inv n aO w')→Inv (gg aO w') aO w'∧∀ m,Inv m aO w'→gg aO w'≤m:=fun aO w' h=>by
  have:gg aO w'=Classical.choose (j7 h):=by simp only [gg,dif_pos h]
  rw [this];exact Classical.choose_spec (j7 h)
 refine wpIn_loop (fun aO w'=>∃ n,Inv n aO w') gg ⟨n,s,h,Step.here aM⟩ fun aB bE j_=>?_;obtain ⟨⟨s1,ad,gy⟩,_⟩:=lR aB bE j_;cases aP:gg aB bE with
 | zero=>rw [aP] at ad;exact ad.elim
 | succ m =>
   rw [aP] at ad;simp only [ft] at ad;refine ka s1 _ ad _ aB bE (fun l a w h=>h) gy fun e s2 av aO w' dU=>?_;cases e with
   | normal =>
     have hinv:Inv m aO w':=⟨s2,av,dU⟩;exact ⟨⟨m,hinv⟩,Nat.lt_succ_of_le ((lR aO w' ⟨m,hinv⟩).2 m hinv)⟩
   | ret=>exact bz .ret s2 av aO w' dU
   | exit id=>exact bz (.exit id) s2 av aO w' dU
theorem nW (dD:P.follows .mixedOrders=true) {A:c'} {fn:FuncId} {lo:Nat} {rl:Option Nat} :
  ∀ (c:Code) (a1:Nat) (s:a8) (K:cC→a8→Prop),du P A fn lo rl c a1 s K→codeOk A c=true →
    ∀ (F:Fence) (Q:Exit→Act→World→Prop) (B N:Nat) (J:List Nat) (w:World) (U:Nat→Option aG) (S:Nat→Nat→Prop) (a:Act),iY F rl J→(∀ l a w,¬ Q (.goto l) a w) →
      cz B N U J S w s a→(∀ e aI,K e aI→∀ aO w',Step B N U J S w aI aO w'→Q (toExit e) aO w')→c.wpIn F 0 P Q a w:=by
 intro c
 induction c with
 | skip=>intro a1 s K h _ F Q B N J w U S a bG aK aM bz;exact wpIn_skip (bz _ _ h a w (Step.here aM))
 | label l=>intro a1 s K h _ F Q B N J w U S a bG aK aM bz;exact wpIn_label (bz _ _ h a w (Step.here aM))
 | ret=>intro a1 s K h _ F Q B N J w U S a bG aK aM bz;exact wpIn_ret (bz _ _ h a w (Step.here aM))
 | exit id=>intro a1 s K h _ F Q B N J w U S a bG aK aM bz;exact wpIn_exit (bz _ _ h a w (Step.here aM))
 | goto l=>intro a1 s K h;exact h.elim
 | refuse y=>intro a1 s K h;exact h.elim
 | region id ops draw =>
   intro a1 s K h b0 F Q B N J w U S a bG aK aM bz;cases draw with
   | true =>
     obtain ⟨acc,aI,iq,al,av⟩:=h;obtain ⟨C,bD,cI⟩:=xw iq;exact zx bG.mM dD bD (fun _=>by simpa [codeOk] using b0) (al C bD cI) (aM.cG _ _) fun aO w' ai=>bz _ _ av aO w' ai
   | false=>exact wpIn_region_list (zZ bG.mM ops.toList _ _ a w U J S h (aM.cG _ _) fun aI av aO w' ai=>bz _ _ av aO w' ai)
 | seq x y ng ps =>
   intro a1 s K h b0 F Q B N J w U S a bG aK aM bz;simp only [codeOk,Bool.and_eq_true] at b0;refine wpIn_seq (ng _ _ _ h b0.1 F _ B N J w U S a bG (fun l a w=>aK l a w) aM fun e s1 av aO w' ai=>?_);cases e with
   | normal =>
     obtain ⟨b5,cT,a5,aL,aQ,cb⟩:=ai;exact ps _ _ _ av b0.2 F Q B N cT w' b5 a5 aO (bG.ext aL) aK cb fun e s2 B1 hJ h7 dU=>bz e s2 B1 hJ h7 (dU.trans aL aQ)
   | ret=>exact bz _ _ av aO w' ai
   | exit id=>exact bz _ _ av aO w' ai
 | cond x t f nf nd =>
   intro a1 s K h b0 F Q B N J w U S a bG aK aM bz;simp only [codeOk,Bool.and_eq_true] at b0;rcases h with ⟨b,ag,h⟩ | ⟨ag,ad,af⟩
   ·have aj:=aM.aA x;rw [ag] at aj;cases b with
    | true=>exact wpIn_cond_true aj.hM (nf _ _ _ h b0.1 F Q B N J w U S a bG aK aM bz)
    | false=>exact wpIn_cond_false aj.hM (nd _ _ _ h b0.2 F Q B N J w U S a bG aK aM bz)
   ·have aj:=aM.aA x;rw [ag] at aj;obtain ⟨b,aj⟩:=aj.AX;cases b with
    | true=>exact wpIn_cond_true aj (nf _ _ _ ad b0.1 F Q B N J w U S a bG aK aM bz)
    | false=>exact wpIn_cond_false aj (nd _ _ _ af b0.2 F Q B N J w U S a bG aK aM bz)
 | block id c a9 =>
   intro a1 s K h b0 F Q B N J w U S a bG aK aM bz;refine wpIn_block ?_;refine a9 _ _ _ h b0 F _ B N J w U S a bG (fun l a w=>aK l a w) aM fun e s1 av aO w' ai=>?_;cases e with
   | normal=>exact bz _ _ av aO w' ai
   | ret=>exact bz _ _ av aO w' ai
   | exit bA =>
     simp only at av;by_cases aE:bA=id
     ·simp only [aE,if_true] at av;simp only [toExit,Exit.inBlock,aE,if_true];exact bz _ _ av aO w' ai
     ·simp only [aE,if_false] at av;simp only [toExit,Exit.inBlock,aE,if_false];exact bz _ _ av aO w' ai
 | loop c a9 =>
   intro a1 s K h b0 F Q B N J w U S a bG aK aM bz;obtain ⟨n,h⟩:=h;refine CR h aM bz fun s1 n4 ad kX aB bE Cj ai gw=>?_;obtain ⟨b5,cT,a5,aL,aQ,cb⟩:=ai;exact a9 _ _ _ ad b0 F kX B N cT bE b5 a5 aB (bG.ext aL) (fun l a w h=>aK l a w (Cj l a w h)) (cb.cG _ _) fun e s2 av aO w' dU=>gw e s2 av aO w' (dU.trans aL aQ)
 | scope c a9 =>
   intro a1 s K h b0 F Q B N J w U S a bG aK aM bz;exact AE (a9 _ _ _ h b0 F Q B N J w U S a bG aK aM bz) aK
 | rangeFunc f params assign body _ _ =>
   intro a1 s K h b0 F Q B N J w U S a bG aK aM bz;obtain ⟨C,e,aI,bD,al,av⟩:=h;exact mL bD dD _ _ _ _ _ al b0 F Q B N J w U S a bG aK aM fun aO w' ai=>bz _ _ av aO w' ai
def iZ (H H':List au):Prop:=H'.length=H.length∧∀ (id:Nat) (o:au),H'[id]?=some o→o=.dead∨H[id]?=some o
theorem iZ.refl (H:List au):iZ H H:=⟨rfl,fun _ _ h=>.inr h⟩
theorem aJ.mN {H':List au} (ah:aJ B U J S w H) (h:iZ H H'):aJ B U J S w H' :=
 ⟨by rw [h.1];exact ah.cA,fun id o ar=>by
  rcases h.2 id o ar with rfl | a4
  ·trivial
  ·exact ah.obj id o a4,ah.b',ah.base,ah.cV⟩
theorem a0.mN {H1 H':List au} {r:I} {v:Value} {w':World} (h:iZ H1 H') (aD:a0 B U J S w H1 r v w'):a0 B U J S w H' r v w':=by
 obtain ⟨bo,ca,bI,a,b,c,d⟩:=aD;exact ⟨bo,ca,bI,a,b,c.mN h,d⟩
theorem DB (dD : P.follows .mixedOrders = true) {k : Nat} {f : Func} {c : Code} (aN : P.funcs[k]? = some f) (ag : f.body = some c) (aP : f.name ≠ "runtime.NumGoroutine") {A : c'} (b0 : codeOk A c = true)
  {args:List I} {v:I} (aD:cl 8 v=true)
  (h:du P A k 0 none c 0 ⟨args++List.replicate (f.ntmps-args.length) .junk,[]⟩ fun e s=>(e=.normal∨e=.ret)∧∃ vs r,fb P s.H s.T f.results.toList=some vs∧bK s.H 0 s.H.length 0 8 (g9 vs)=some r∧(r=v∨r.settle=v)):kW P k args v:=by
 refine ⟨⟨a_.refl _ _,⟨f,aN,by simp [ag],aP⟩,fun B U J S w xs ah _ ae=>?_⟩,aD⟩;refine callsIn_of_wp_marks aN ag trivial ?_;have aM:=xj ah ae f.ntmps;have c5:=(nT ah).1;refine nW dD c 0 _ _ h b0 Fence.wide _ B w.heap.size J w (hC U) S _ (.inl ⟨rfl,rfl⟩) (fun l a w aK=>aK.elim) aM fun e s av aO w' ai=>?_;obtain ⟨he,vs,r,aj,BS,eb⟩:=av;obtain ⟨b5,cT,a5,aL,aQ,cb⟩:=ai;have iz:LeavesInM Fence.wide 0 P f aO.tmps (fr B U J S w [] v) aO.defers .returning w':=by
  refine nj (U:=b5) (S:=a5) (J:=cT) (B:=B) (H:=s.H) (kV:=U) (S0:=S) (w0:=w) aO.defers w' cb.M.2.1 cb.M.2.2 (c5.trans aQ) cb.H fun bS dj dc lU lV=>?_
  have bW:a7 .slot b5 cT a5 bS s.T aO.tmps.toList:=⟨cb.T.len,fun i u v hu ae=>(cb.T.rel i u v hu ae).mono (Ext.refl _) (fun b o h=>⟨h,dc b o h⟩),fun i u v hu ae =>
   (cb.T.own i u v hu ae).mono (Ext.refl _) (fun b o h=>⟨h,dc b o h⟩) fun b ag=>⟨ag,dj b _ ag,fun _ h=>h⟩⟩
  obtain ⟨x,aW,aX⟩:=pQ lV bW aj;have m6:=pL ah (fun id aE=>by simp at aE) BS (a0.after aL lU aX);refine ⟨x,aW,?_⟩;rcases eb with rfl | eb
  ·exact m6
  ·cases r with
   | ax cells len gu =>
     cases gu with
     | uniq z=>simp only [I.settle] at eb;subst eb;exact m6.settle
     | _=>simp only [I.settle] at eb;subst eb;exact m6
   | _=>simp only [I.settle] at eb;subst eb;exact m6
 rcases he with rfl | rfl
 ·exact iz
 ·exact iz
theorem F0 (dD : P.follows .mixedOrders = true) {k : Nat} {f : Func} {c : Code} (aN : P.funcs[k]? = some f) (ag : f.body = some c) (aP : f.name ≠ "runtime.NumGoroutine") {A : c'} (b0 : codeOk A c = true)
  {lo:Nat} {args:List I} {H H':List au} {r:I} (aq:a_ lo H H')
  (h:du P A k lo none c 0 ⟨args++List.replicate (f.ntmps-args.length) .junk,H⟩ fun e s=>(e=.normal∨e=.ret)∧iZ s.H H'∧∃ vs,fb P s.H s.T f.results.toList=some vs∧g9 vs=r):Sem P (.fn k) args H lo r H':=by
 refine ⟨aq,⟨f,aN,by simp [ag],aP⟩,fun B U J S w xs ah _ ae=>?_⟩;refine callsIn_of_wp_marks aN ag trivial ?_;have aM:=xj ah ae f.ntmps;have c5:=(nT ah).1;refine nW dD c 0 _ _ h b0 Fence.wide _ B w.heap.size J w (hC U) S _ (.inl ⟨rfl,rfl⟩) (fun l a w aK=>aK.elim) aM fun e s av aO w' ai=>?_;obtain ⟨he,kc,vs,aj,rfl⟩:=av;obtain ⟨b5,cT,a5,aL,aQ,cb⟩:=ai;have iz:LeavesInM Fence.wide 0 P f aO.tmps (fr B U J S w H' (g9 vs)) aO.defers .returning w':=by
  refine nj (U:=b5) (S:=a5) (J:=cT) (B:=B) (H:=s.H) (kV:=U) (S0:=S) (w0:=w) aO.defers w' cb.M.2.1 cb.M.2.2 (c5.trans aQ) cb.H fun bS dj dc lU lV=>?_
  have bW:a7 .slot b5 cT a5 bS s.T aO.tmps.toList:=⟨cb.T.len,fun i u v hu ae=>(cb.T.rel i u v hu ae).mono (Ext.refl _) (fun b o h=>⟨h,dc b o h⟩),fun i u v hu ae =>
   (cb.T.own i u v hu ae).mono (Ext.refl _) (fun b o h=>⟨h,dc b o h⟩) fun b ag=>⟨ag,dj b _ ag,fun _ h=>h⟩⟩
  obtain ⟨v,aW,aX⟩:=pQ lV bW aj;exact ⟨v,aW,(a0.after aL lU aX).mN kc⟩
 rcases he with rfl | rfl
 ·exact iz
 ·exact iz
end
end Go.Proofs.YtfakoboiahbhaaaGreat.Ab


namespace Go.Proofs.YtfakoboiahbhaaaGreat.Ab
open Go
inductive ia where
 | sl (t:Nat) | hA (t:Nat) | hD (t:Nat) | ij (v:I)
inductive eX where
 | one | str (s:Nat) | arr (s:Nat)
inductive hH where
 | int (k:IntKind) | str (n:Nat)
inductive hI where
 | iH | nil (z:Nat) | Aw
 | px (a:eX) | yM (a:eX) | take | Av | Ar | st (s:Nat) | box | xE | alloc (z:List I)
 | y9 (z:List I) (s bytes:Nat)
 | y8 (z:List I) (s bytes:Nat)
 | pz | yO (n:Nat) | min | max
 | app (s bytes:Nat)
 | xx (s bytes:Nat)
 | call (mode:Nat)
 | pick | build (z:List I) (bk:List (Nat×Nat)) | xG (len s:Nat) (z:List I) (ix:List Nat) | xF (len s:Nat) (z:List I) (ix:List Nat)
 | za | bin (op:BinOp) | oa (neq:Bool) | un (op:UnOp) | conv (k:IntKind)
 | y6 (f:FuncId) (n m:Nat)
 | Ap (s:Nat) (l h m:Bool)
 | y7 | y0 (e9:hH) | yZ (e9:hH) (ok:Bool) (zero:Option I) | yY (e9:hH) | zU | xP | yP
 | ov (off:Nat) | xX (off:Nat) (a:eX) | pq (s:Nat) | yC (len s:Nat) | ext (i:Nat)
 | other (o:Oper) (mode:Nat)
structure df where
 dst:Option Nat
 EW:List ia
 guard:Option (Nat×Bool)
 ip:Option Nat
 k:hI
inductive eM where
 | skip
 | jO (draw:Bool) (l:List df)
 | seq (a b:eM)
 | cond (c:ia) (a b:eM)
 | block (id:Nat) (c:eM)
 | loop (cG:Option (List Bool)) (c:eM)
 | exit (id:Nat)
 | ret
 | zT (f:ia) (params:List Nat) (assign body:Code)
 | zb (it:Nat) (dst:Option Nat) (l:List df)
noncomputable section
def lr (v:I) (K:I→Prop):Prop:=match v with
 | .int k n=>K (.int k n)
 | .bool b=>K (.bool b)
 | .ax c n .shared=>K (.ax c n .shared)
 | .ax c n .full=>K (.ax c n .full)
 | .ax c n (.own z)=>K (.ax c n (.own z))
 | .ax c n (.uniq z)=>K (.ax c n (.uniq z))
 | .agg cs=>K (.agg cs)
 | .ptr id off=>K (.ptr id off)
 | .bT cs=>K (.bT cs)
 | .ref id off n cap sz=>K (.ref id off n cap sz)
 | .func f a b=>K (.func f a b)
 | .yield id=>K (.yield id)
 | .map id=>K (.map id)
 | .tuple vs=>K (.tuple vs)
 | .junk=>K .junk
 | .eu=>K .eu
 | .str s=>K (.str s)
 | .raw c n z=>K (.raw c n z)
 | .cf i g n z=>K (.cf i g n z)
 | .dg=>K .dg
theorem mT (v:I) (K:I→Prop):lr v K=K v:=by
 unfold lr;split <;> rfl
def hh:List I→Nat→(I→Prop)→Prop
 | [],_,K=>K .junk
 | h::_,0,K=>K h
 | _::t,n+1,K=>hh t n K
theorem im:∀ (T:List I) (t:Nat) (K:I→Prop),hh T t K=K (c1 T t)
 | [],t,K=>rfl
 | h::T,0,K=>rfl
 | h::T,n+1,K=>by rw [hh,im T n K];rfl
def iQ:List I→Nat→I→(List I→Prop)→Prop
 | [],_,_,K=>K []
 | _::t,0,v,K=>K (v::t)
 | h::t,n+1,v,K=>iQ t n v fun iT=>K (h::iT)
theorem jS:∀ (T:List I) (t:Nat) (v:I) (K:List I→Prop),iQ T t v K=K (gK T t v)
 | [],t,v,K=>rfl
 | h::T,0,v,K=>rfl
 | h::T,n+1,v,K=>by rw [iQ,jS T n v];rfl
def mb (T:List I) (d:Option Nat) (v:I) (K:List I→Prop):Prop:=match d with
 | some d=>iQ T d v K
 | none=>K T
theorem pM (T:List I) (d:Option Nat) (v:I) (K:List I→Prop):mb T d v K=K (put T d v):=by
 cases d with
 | none=>rfl
 | some d=>exact jS T d v K
def kn:List Bool→List I→(List I→Prop)→Prop
 | b::bs,v::vs,K=>kn bs vs fun dk=>match b with
   | true=>K (v::dk)
   | false=>K (.junk::dk)
 | [],vs,K=>K vs
 | _::_,[],K=>K []
theorem yI:∀ (bs:List Bool) (vs:List I) (K:List I→Prop),kn bs vs K=K (eL bs vs)
 | [],vs,K=>by simp [kn,eL]
 | b::bs,[],K=>by simp [kn,eL]
 | b::bs,v::vs,K=>by rw [kn,yI bs vs];cases b <;> simp [eL]
def jX (v:I) (K:I→Prop):Prop:=match v with
 | .ax c n (.own _)=>K (.ax c n .shared)
 | .ax c n (.uniq _)=>K (.ax c n .shared)
 | .raw _ _ _=>K .junk
 | .cf id _ n z=>K (.ref id 0 n none z)
 | v=>K v
theorem jY (v:I) (K:I→Prop):jX v K=K v.view:=by
 cases v with
 | ax c n k=>cases k <;> rfl
 | _=>rfl
def Aq (T:List I) (t:Nat) (v:I) (K:I→List I→Prop):Prop:=match v with
 | .ax c n (.uniq z)=>iQ T t (.ax c n (.own z)) fun gk=>K (.ax c n .shared) gk
 | .ax c n (.own _)=>K (.ax c n .shared) T
 | .raw _ _ _=>K .junk T
 | .cf id _ n z=>K (.ref id 0 n none z) T
 | v=>K v T
theorem EV (T:List I) (t:Nat) (v:I) (K:I→List I→Prop):Aq T t v K=K v.view (fL T t v):=by
 cases v with
 | ax c n k =>
   cases k with
   | uniq z=>exact jS _ _ _ _
   | _=>rfl
 | _=>rfl
def f_:List ia→List I→(List I→List I→Prop)→Prop
 | [],T,K=>K [] T
 | .ij v::r,T,K=>f_ r T fun vs bb=>K (v::vs) bb
 | .hA t::r,T,K=>hh T t fun v=>iQ T t .junk fun gk=>f_ r gk fun vs bb=>K (v::vs) bb
 | .hD t::r,T,K=>hh T t fun v=>jX v fun v=>iQ T t .junk fun gk=>f_ r gk fun vs bb=>K (v::vs) bb
 | .sl t::r,T,K=>hh T t fun v=>Aq T t v fun v gk=>f_ r gk fun vs bb=>K (v::vs) bb
def hv (dX:Bool):List Bool→List Operand→List ia
 | _,[]=>[]
 | ts,.tmp t::rest=>(match ts.headD false,dX with | true,true=>.hA t | true,false=>.hD t | false,_=>.sl t)::hv dX ts.tail rest
 | ts,x::rest=>.ij (match dX with | true=>aA [] x | false=>(aA [] x).view)::hv dX ts.tail rest
theorem iO (dX:Bool):∀ (xs:List Operand) (ts:List Bool) (T:List I) (K:List I→List I→Prop),f_ (hv dX ts xs) T K=K (fm dX (rd T ts xs).1) (rd T ts xs).2
 | [],ts,T,K=>by cases dX <;> simp [hv,f_,rd,fm]
 | .tmp t::rest,ts,T,K=>by
   simp only [hv];cases bJ:ts.headD false with
   | true =>
     cases dX with
     | true =>
       simp only [f_,im,jS,rd,bJ,iO true rest];rfl
     | false =>
       simp only [f_,im,jS,jY,rd,bJ,iO false rest];rfl
   | false =>
     simp only [f_,im,EV,rd,bJ,iO dX rest];cases dX
     ·simp only [fm,List.map_cons,I.jZ (I.c_ _)]
     ·rfl
 | .const v::rest,ts,T,K=>by
   simp only [hv,f_,rd,iO dX rest];cases dX <;> rfl
 | .func v::rest,ts,T,K=>by
   simp only [hv,f_,rd,iO dX rest];cases dX <;> rfl
 | .global v::rest,ts,T,K=>by
   simp only [hv,f_,rd,iO dX rest];cases dX <;> rfl
end
end Go.Proofs.YtfakoboiahbhaaaGreat.Ab


namespace Go.Proofs.YtfakoboiahbhaaaGreat.Ab
open Go
noncomputable section
def eJ {α:Type}:List α→Nat→(α→Prop)→Prop
 | [],_,_=>False
 | h::_,0,K=>K h
 | _::t,n+1,K=>eJ t n K
theorem e' {α:Type}:∀ {l:List α} {n:Nat} {K:α→Prop},eJ l n K→∃ x,l[n]?=some x∧K x
 | [],_,_,h=>h.elim
 | h::_,0,_,k=>⟨h,rfl,k⟩
 | _::t,n+1,K,k=>by simpa using e' (l:=t) (n:=n) (K:=K) k
theorem Dj {α:Type}:∀ {l:List α} {n:Nat} {x:α} {K:α→Prop},l[n]?=some x→K x→eJ l n K
 | [],_,_,_,h,_=>by simp at h
 | h::_,0,_,_,e,k=>by simp at e;subst e;exact k
 | _::t,n+1,_,K,e,k=>Dj (l:=t) (n:=n) (by simpa using e) k
def iV:List I→Nat→I→(List I→Prop)→Prop
 | [],_,_,_=>False
 | _::t,0,v,K=>K (v::t)
 | h::t,n+1,v,K=>iV t n v fun iT=>K (h::iT)
theorem kO:∀ {l:List I} {n:Nat} {v:I} {K:List I→Prop},iV l n v K→n<l.length∧K (l.set n v)
 | [],_,_,_,h=>h.elim
 | _::_,0,_,_,k=>⟨by simp,k⟩
 | h::t,n+1,v,K,k=>by
   obtain ⟨ad,af⟩:=kO (l:=t) (n:=n) k;exact ⟨by simpa using ad,af⟩
theorem E7:∀ {l:List I} {n:Nat} {v:I} {K:List I→Prop},n<l.length→K (l.set n v)→iV l n v K
 | [],_,_,_,h,_=>by simp at h
 | _::_,0,_,_,_,k=>k
 | h::t,n+1,v,K,e,k=>E7 (l:=t) (n:=n) (by simpa using e) k
def mo:List I→Nat→List I→(List I→Prop)→Prop
 | l,_,[],K=>K l
 | l,n,v::vs,K=>iV l n v fun l'=>mo l' (n+1) vs K
theorem nV:∀ {vs l:List I} {n:Nat} {K:List I→Prop},mo l n vs K→(n+vs.length≤l.length∨vs=[])∧K (setCells n vs l)
 | [],_,_,_,h=>⟨.inr rfl,h⟩
 | v::vs,l,n,K,h=>by
   obtain ⟨ad,af⟩:=kO h;obtain ⟨aH,bh⟩:=nV af;refine ⟨.inl ?_,bh⟩;rcases aH with aH | rfl
   ·simp only [List.length_set] at aH;simp only [List.length_cons];omega
   ·simp only [List.length_cons,List.length_nil];omega
def nz:Nat→List I→Nat→(List I→Prop)→Prop
 | 0,_,_,K=>K []
 | s+1,l,off,K=>eJ l off fun v=>jX v fun v=>lr v fun v=>nz s l (off+1) fun vs=>K (v::vs)
theorem zt:∀ {s:Nat} {l:List I} {off:Nat} {K:List I→Prop},nz s l off K→(off+s≤l.length∨s=0)∧K (((l.drop off).take s).map I.view)
 | 0,l,off,K,h=>⟨.inr rfl,by simpa [nz] using h⟩
 | s+1,l,off,K,h=>by
   obtain ⟨v,ae,h⟩:=e' h;rw [jY,mT] at h;obtain ⟨ad,af⟩:=zt h;have aY:=(List.getElem?_eq_some_iff.1 ae).1;refine ⟨.inl (by rcases ad with ad | rfl <;> omega),?_⟩;have a2:l.drop off=v::l.drop (off+1):=by
    rw [List.drop_eq_getElem_cons aY,(List.getElem?_eq_some_iff.1 ae).2]
   rw [a2];simpa using af
def nA:Nat→List I→Nat→(List I→Prop)→Prop
 | 0,_,_,K=>K []
 | s+1,l,off,K=>eJ l off fun v=>lr v fun v=>nA s l (off+1) fun vs=>K (v::vs)
theorem zu:∀ {s:Nat} {l:List I} {off:Nat} {K:List I→Prop},nA s l off K→(off+s≤l.length∨s=0)∧K ((l.drop off).take s)
 | 0,l,off,K,h=>⟨.inr rfl,by simpa [nA] using h⟩
 | s+1,l,off,K,h=>by
   obtain ⟨v,ae,h⟩:=e' h;rw [mT] at h;obtain ⟨ad,af⟩:=zu h;have aY:=(List.getElem?_eq_some_iff.1 ae).1;refine ⟨.inl (by rcases ad with ad | rfl <;> omega),?_⟩;have a2:l.drop off=v::l.drop (off+1):=by
    rw [List.drop_eq_getElem_cons aY,(List.getElem?_eq_some_iff.1 ae).2]
   rw [a2];simpa using af
def lZ (a:eX) (l:List I) (off:Nat) (K:I→Prop):Prop:=match a with
 | .one=>eJ l off fun v=>jX v K
 | .str s=>nz s l off fun vs=>K (.agg vs)
 | .arr s=>off+s≤l.length∧K (.agg (((l.drop off).take s).map I.view))
def zm (a:eX) (l:List I) (off:Nat) (K:I→Prop):Prop:=match a with
 | .one=>eJ l off fun v=>jX v K
 | .str s=>nA s l off fun vs=>K (.agg vs)
 | .arr s=>off+s≤l.length∧K (.agg ((l.drop off).take s))
def gP (P:Program) (t:TypeId):Option eX:=match dz P t,P.underlying t with
 | true,some (.struct _)=>(match bQ P t with | some (s+1)=>some (.str (s+1)) | _=>none)
 | true,_=>(bQ P t).map .arr
 | false,some _=>some .one
 | false,none=>none
section
variable {P:Program}
theorem n8 {t:TypeId} {a:eX} (h:gP P t=some a):(a=.one∧dz P t=false∧∃ d,P.underlying t=some d)∨(∃ s,(a=.str (s+1)∧bQ P t=some (s+1)∨a=.arr s∧bQ P t=some s)∧dz P t=true):=by
 unfold gP at h;split at h
 ·rename_i ad _;split at h
  ·rename_i s ai;cases h;exact .inr ⟨_,.inl ⟨rfl,ai⟩,ad⟩
  ·cases h
 ·rename_i ad _;simp only [Option.map_eq_some_iff] at h;obtain ⟨s,ai,rfl⟩:=h;exact .inr ⟨s,.inr ⟨rfl,ai⟩,ad⟩
 ·rename_i d ad af;cases h;exact .inl ⟨rfl,ad,d,af⟩
 ·cases h
theorem ni {t:TypeId} {a:eX} (cu:gP P t=some a) {l:List I} {off:Nat} {K:I→Prop} (h:lZ a l off K):∃ v,ek P t l off=some v∧K v:=by
 rcases n8 cu with ⟨rfl,ad,d,af⟩ | ⟨s,af,ad⟩
 ·obtain ⟨v,ae,h⟩:=e' h;rw [jY] at h;exact ⟨v.view,by simp [ek,ad,af,ae],h⟩
 ·rcases af with ⟨rfl,af⟩ | ⟨rfl,af⟩
  ·obtain ⟨aL,aQ⟩:=zt h;exact ⟨_,by simp only [ek,ad,af,Option.bind_some];rw [if_pos (by omega)],aQ⟩
  ·exact ⟨_,by simp only [ek,ad,af,Option.bind_some];rw [if_pos h.1],h.2⟩
theorem Dz {t:TypeId} {a:eX} (cu:gP P t=some a) {l:List I} {off:Nat} {K:I→Prop} (h:zm a l off K):∃ v,ie P t l off=some v∧K v.view:=by
 rcases n8 cu with ⟨rfl,ad,d,af⟩ | ⟨s,af,ad⟩
 ·obtain ⟨v,ae,h⟩:=e' h;rw [jY] at h;exact ⟨v,by simp [ie,ad,af,ae],h⟩
 ·rcases af with ⟨rfl,af⟩ | ⟨rfl,af⟩
  ·obtain ⟨aL,aQ⟩:=zu h;exact ⟨_,by simp only [ie,ad,af,Option.bind_some];rw [if_pos (by omega)],show K (I.view (.agg _)) from aQ⟩
  ·exact ⟨_,by simp only [ie,ad,af,Option.bind_some];rw [if_pos h.1],show K (I.view (.agg _)) from h.2⟩
end
def nN (v:I) (K:I→Prop):Prop:=match v with
 | .ax c n (.uniq z)=>K (.ax c n (.own z))
 | v=>K v
theorem xg (v:I) (K:I→Prop):nN v K=K v.settle:=by
 cases v with
 | ax c n k=>cases k <;> rfl
 | _=>rfl
def j4 (v:I) (mv:I→Prop) (mw:List I→Prop):Prop:=match v with
 | .agg vc=>mw vc
 | .junk=>False
 | .tuple _=>False
 | .raw _ _ _=>False
 | v=>mv v
theorem k7 {v:I} {mv:I→Prop} {mw:List I→Prop} (h:j4 v mv mw):(v.cells=some [v]∧mv v)∨∃ vc,v.cells=some vc∧v=.agg vc∧mw vc:=by
 cases v <;> first | exact .inl ⟨rfl,h⟩ | exact h.elim | exact .inr ⟨_,rfl,rfl,h⟩
def jl:List (Nat×Nat)→List I→List I→(List I→Prop)→Prop
 | [],[],cs,K=>K cs
 | (off,size)::bk,v::vs,cs,K=>j4 v (fun v=>match Nat.beq size 1 with | true=>iV cs off v fun cs=>jl bk vs cs K | false=>False) (fun vc=>match Nat.beq vc.length size,Nat.blt 0 size with | true,true=>mo cs off vc fun cs=>jl bk vs cs K | _,_=>False)
 | _,_,_,_=>False
theorem j8 {place:Nat→Option (Nat×Nat)}:∀ {ix:List Nat} {bk:List (Nat×Nat)} {vs cs:List I} {K:List I→Prop},jl bk vs cs K→ix.map place=bk.map some →
  ∃ c3,gl place cs (ix.zip vs)=some c3∧K c3
 | [],[],[],cs,K,h,_=>⟨cs,rfl,h⟩
 | i::ix,(off,size)::bk,v::vs,cs,K,h,aD=>by
   simp only [List.map_cons,List.cons.injEq] at aD;obtain ⟨jx,m5⟩:=aD;simp only [jl] at h;simp only [List.zip_cons_cons,gl,jx];rcases k7 h with ⟨ad,h⟩ | ⟨vc,ad,_,h⟩
   ·split at h
    ·rename_i af;have af:=Nat.eq_of_beq_eq_true af;obtain ⟨aH,h⟩:=kO h;obtain ⟨c3,aW,aX⟩:=j8 h m5;subst af;exact ⟨c3,by simp only [ad];rw [if_pos ⟨rfl,by omega⟩];exact aW,aX⟩
    ·exact h.elim
   ·split at h
    ·rename_i af bh;have af:=Nat.eq_of_beq_eq_true af;(have bh:0<size:=by simpa [Nat.blt_eq] using bh);obtain ⟨aH,h⟩:=nV h;obtain ⟨c3,aW,aX⟩:=j8 h m5;have bM:off+size≤cs.length:=by
      rcases aH with aH | aH
      ·omega
      ·rw [aH] at af;simp only [List.length_nil] at af;omega
     refine ⟨c3,?_,aX⟩;simp only [ad];rw [if_pos ⟨af,bM⟩];exact aW
    ·exact h.elim
 | [],_::_,_,_,_,_,aD=>by simp at aD
 | _::_,[],_,_,_,_,aD=>by simp at aD
 | [],[],_::_,_,_,h,_=>h.elim
 | _::_,_::_,[],_,_,h,_=>h.elim
def Ag:BinOp→Bool
 | .shl=>true
 | .shr=>true
 | _=>false
theorem Ek {op:BinOp} {k k':IntKind} (h:(decide (k=k') || Ag op)=true):k=k'∨op=.shl∨op=.shr:=by
 rw [Bool.or_eq_true] at h;rcases h with h | h
 ·exact .inl (of_decide_eq_true h)
 ·cases op <;> first | exact .inr (.inl rfl) | exact .inr (.inr rfl) | cases h
def n9 (op:BinOp) (k:IntKind) (a b:Int) (K:I→Prop):Prop:=match op with
 | .add=>K (.int k (k.wrap (a+b)))
 | .sub=>K (.int k (k.wrap (a-b)))
 | .mul=>K (.int k (k.wrap (a*b)))
 | .quo=>b≠0∧K (.int k (k.wrap (a.tdiv b)))
 | .rem=>b≠0∧K (.int k (a.tmod b))
 | .eql=>K (.bool (decide (a=b)))
 | .neq=>K (.bool (decide (a≠b)))
 | .lss=>K (.bool (decide (a<b)))
 | .leq=>K (.bool (decide (a≤b)))
 | .gtr=>K (.bool (decide (b<a)))
 | .geq=>K (.bool (decide (b≤a)))
 | .and=>K (.int k (k.wrap (BitVec.ofInt k.bits a &&& BitVec.ofInt k.bits b).toNat))
 | .or=>K (.int k (k.wrap (BitVec.ofInt k.bits a ||| BitVec.ofInt k.bits b).toNat))
 | .xor=>K (.int k (k.wrap (BitVec.ofInt k.bits a ^^^ BitVec.ofInt k.bits b).toNat))
 | .shl=>0≤b∧K (.int k (k.wrap (a*2 ^ (Nat.min b.toNat k.bits))))
 | .shr=>0≤b∧K (.int k (a.fdiv (2 ^ (Nat.min b.toNat k.bits))))
 | _=>False
section
variable {P:Program}
theorem AP (op:BinOp) (t:TypeId) (k k':IntKind) (a b:Int):fe P op t (.int k a) (.int k' b)=match op with
  | .shl=>hf .shl k a b
  | .shr=>hf .shr k a b
  | op=>if k=k' then je op k a b else none:=by cases op <;> rfl
theorem A2 {op:BinOp} {t:TypeId} {k k':IntKind} {a b:Int} {K:I→Prop} (av:k=k'∨op=.shl∨op=.shr) (h:n9 op k a b K):∃ v,fe P op t (.int k a) (.int k' b)=some v∧K v:=by
 rw [AP];cases op <;> simp only [n9] at h <;> try exact h.elim
 case shl=>exact ⟨_,by simp only [hf];rw [if_neg (by omega)],h.2⟩
 case shr=>exact ⟨_,by simp only [hf];rw [if_neg (by omega)],h.2⟩
 all_goals (obtain rfl:k=k':=by rcases av with av | av | av <;> first | exact av | cases av)
 all_goals simp only [if_true,je]
 case quo=>exact ⟨_,by rw [if_neg h.1],h.2⟩
 case rem=>exact ⟨_,by rw [if_neg h.1],h.2⟩
 case neq =>
  have e:(a != b)=decide (a≠b):=by by_cases jn:a=b <;> simp [jn]
  exact ⟨_,rfl,by rw [e];exact h⟩
 case eql=>exact ⟨_,rfl,h⟩
 all_goals exact ⟨_,rfl,h⟩
end
end
end Go.Proofs.YtfakoboiahbhaaaGreat.Ab


namespace Go.Proofs.YtfakoboiahbhaaaGreat.Ab
open Go
noncomputable section
def p1 (v:I) (H:List au) (K:I→List au→Prop):Prop:=match v with
 | .ax cells len (.uniq z)=>(len≠0∧K (.ref H.length 0 len none z) (H++[.cells cells]))∨(len=0∧K (.ax cells len (.uniq z)) H)
 | .ax [] 0 .full=>K (.ax [] 0 .full) H
 | .ref id off len cap sz=>K (.ref id off len cap sz) H
 | _=>False
def pV (a:eX) (v:I) (H:List au) (K:I→List au→Prop):Prop:=match v with
 | .ptr id off=>eJ H id fun o=>match o with | .cells l=>lZ a l off fun v=>K v H | .grow l _ _=>lZ a l off fun v=>K v H | _=>False
 | .bT cells=>lZ a cells 0 fun v=>K v H
 | _=>False
def pZ (lo:Nat) (v:I) (H:List au) (K:I→List au→Prop):Prop:=match v with
 | .ptr id off=>match Nat.ble lo id with
   | true=>eJ H id fun o=>match o with
     | .cells l=>(eJ l off fun v=>match v with | .ax c n (.own z)=>K (.ax c n (.own z)) (H.set id (.cells (l.set off (.ax c n .shared)))) | .ax c n .full=>K (.ax c n .full) H | .raw c n z=>K (.ax c n (.uniq z)) (H.set id (.cells (l.set off .junk))) | _=>False)
     | .grow l g cQ=>(eJ l off fun v=>match v with | .ax c n (.own z)=>K (.ax c n (.own z)) (H.set id (.grow (l.set off (.ax c n .shared)) g cQ)) | .ax c n .full=>K (.ax c n .full) H | _=>False)
     | _=>False
   | false=>False
 | _=>False
def p0 (lo:Nat) (v:I) (H:List au) (K:I→List au→Prop):Prop:=match v with
 | .ptr id off=>match Nat.ble lo id with
   | true=>eJ H id fun o=>match o with | .cells l=>(eJ l off fun v=>match v with | .raw c n z=>n≠0∧K (.ref H.length 0 n none z) (H.set id (.cells (l.set off (.ref H.length 0 n none z)))++[.cells c]) | .ax c n .full=>K (.ax c n .full) H | _=>False) | _=>False
   | false=>False
 | _=>False
def pY (lo:Nat) (p v:I) (H:List au) (K:I→List au→Prop):Prop:=match p with
 | .ptr id off=>match Nat.ble lo id with
   | true=>eJ H id fun o=>match o with
     | .cells l=>(match v with | .ax c n (.uniq z)=>c.all gJ=true∧n≠0∧iV l off (.raw c n z) fun l'=>K .junk (H.set id (.cells l')) | _=>False)
     | _=>False
   | false=>False
 | _=>False
def pX (lo s:Nat) (p v:I) (H:List au) (K:I→List au→Prop):Prop:=match p with
 | .ptr id off=>match Nat.ble lo id with
   | true=>eJ H id fun o=>match o with
     | .cells l=>j4 v (fun v=>match Nat.beq s 1 with | true=>nN v fun v=>iV l off v fun l'=>K .junk (H.set id (.cells l')) | false=>False) (fun vc=>match Nat.beq vc.length s,Nat.blt 0 s with | true,true=>mo l off (vc.map I.settle) fun l'=>K .junk (H.set id (.cells l')) | _,_=>False)
     | .grow l g z=>j4 v (fun v=>match Nat.beq s 1 with | true=>nN v fun v=>iV l off v fun l'=>K .junk (H.set id (.grow l' g z)) | false=>False) (fun vc=>match Nat.beq vc.length s,Nat.blt 0 s with | true,true=>mo l off (vc.map I.settle) fun l'=>K .junk (H.set id (.grow l' g z)) | _,_=>False)
     | _=>False
   | false=>False
 | _=>False
def pT (v:I) (H:List au) (K:I→List au→Prop):Prop :=
 j4 v (fun v=>nN v fun v=>K (.ptr H.length 0) (H++[.cells [v]])) (fun vc=>K (.ptr H.length 0) (H++[.cells (vc.map I.settle)]))
def pU (v:I) (H:List au) (K:I→List au→Prop):Prop :=
 j4 v (fun v=>v.plain=true∧K (.bT [v]) H) (fun vc=>vc.all I.plain=true∧K (.bT vc) H)
def pH:List I→Int→(Int→Prop)→Prop
 | [],a,K=>K a
 | .int _ b::r,a,K=>pH r (min a b) K
 | _::_,_,_=>False
def pG:List I→Int→(Int→Prop)→Prop
 | [],a,K=>K a
 | .int _ b::r,a,K=>pG r (max a b) K
 | _::_,_,_=>False
def pS (lo s bytes:Nat) (x y:I) (H:List au) (K:I→List au→Prop):Prop:=match y with
 | .ax new m _=>(new.length=m*s∧m*bytes≤140737488355328)∧match x with
   | .ax cells n .full=>(m≠0∧(n+m)*bytes≤140737488355328∧cells.length=n*s)∧K (.cf H.length (H.length+1) (n+m) s) (H++[.grow (cells++new) (H.length+1) s,.dead])
   | .ax cells n (.uniq z)=>(z=s∧m≠0∧(n+m)*bytes≤140737488355328)∧K (.cf H.length (H.length+1) (n+m) z) (H++[.grow (cells++new) (H.length+1) z,.dead])
   | .cf id gid n z=>match Nat.ble lo id with
     | true=>eJ H id fun o=>match o with
       | .grow l g cQ=>((g=gid∧cQ=z∧z=s∧l.length=n*z∧0<m∧(n+m)*bytes≤140737488355328)∧K (.cf H.length (H.length+1) (n+m) z) (H.set id .dead++[.grow (l++new) (H.length+1) z,.dead])) ∨
         ((g=gid∧cQ=z∧z=s∧n*z<l.length∧0<m∧(n+m)*bytes≤140737488355328)∧K (.cf H.length (H.length+1) (n+m) z) (H.set id .dead++[.grow (l.take (n*z)++new) (H.length+1) z,.dead]))
       | _=>False
     | false=>False
   | _=>False
 | _=>False
def zR (z:List I) (s bytes:Nat) (a b:I) (H:List au) (K:I→List au→Prop):Prop:=match a,b with
 | .int _ n,.int _ c=>0≤n∧n≤c∧c.toNat*bytes≤140737488355328∧K (.ref H.length 0 n.toNat (some c.toNat) s) (H++[.cells (eU c.toNat z)])
 | _,_=>False
def zQ (z:List I) (s bytes:Nat) (a b:I) (H:List au) (K:I→List au→Prop):Prop:=match a,b with
 | .int _ n,.int _ c=>n=c∧0≤n∧c.toNat*bytes≤140737488355328∧K (.ax (eU c.toNat z) n.toNat (.uniq s)) H
 | _,_=>False
def zM (v:I) (H:List au) (K:I→List au→Prop):Prop:=match v with
 | .ax _ n _=>K (.int .i64 n) H
 | .ref _ _ n _ _=>K (.int .i64 n) H
 | _=>False
def nG (s bytes:Nat) (x:I) (new:List I) (m:Nat) (H:List au) (K:I→List au→Prop):Prop:=new.length=m*s∧m*bytes≤140737488355328∧match x with
    | .ax cells n .shared=>m=0∧K (.ax cells n .shared) H
    | .ax cells n .full=>m≠0∧(n+m)*bytes≤140737488355328∧cells.length=n*s∧K (.ax (cells++new) (n+m) (.uniq s)) H
    | .ax cells n (.own z)=>z=s∧(n+m)*bytes≤140737488355328∧K (.ax (cells++new) (n+m) (.own z)) H
    | .ax cells n (.uniq z)=>z=s∧(n+m)*bytes≤140737488355328∧K (.ax (cells++new) (n+m) (.uniq z)) H
    | _=>False
def pR (s bytes:Nat) (x y:I) (H:List au) (K:I→List au→Prop):Prop:=match y with
 | .ax new m _=>nG s bytes x new m H K
 | .ref id off m _ z=>eJ H id fun o=>match o with
   | .cells l=>off+m*z≤l.length∧nG s bytes x (((l.drop off).take (m*z)).map I.view) m H K
   | _=>False
 | _=>False
def pW (s:Nat) (l h m:Bool) (x:I) (vs:List I) (H:List au) (K:I→List au→Prop):Prop:=match x with
 | .ax cells n c=>match l,h,m,vs with
   | false,false,false,[]=>match c with
     | .uniq z=>K (.ax (cells.take (n*z)) n (.uniq z)) H
     | .shared=>K (.ax (cells.take (n*s)) n .shared) H
     | _=>False
   | true,false,false,[.int _ i]=>match c with
     | .own z=>(s=z∧0≤i∧i≤n)∧K (.ax (cells.drop (i.toNat*z)) (n-i.toNat) (.own z)) H
     | .shared | .uniq _=>(0≤i∧i≤n)∧K (.ax ((cells.drop (i.toNat*s)).take ((n-i.toNat)*s)) (n-i.toNat) .shared) H
     | _=>False
   | false,true,false,[.int _ j]=>match c with
     | .uniq z=>(0≤j∧j≤n)∧K (.ax (cells.take (j.toNat*z)) j.toNat (.uniq z)) H
     | .shared | .own _=>(0≤j∧j≤n)∧K (.ax (cells.take (j.toNat*s)) j.toNat .shared) H
     | _=>False
   | true,true,false,[.int _ i,.int _ j]=>match c with
     | .shared | .own _ | .uniq _=>(0≤i∧i≤j∧j≤n)∧K (.ax ((cells.drop (i.toNat*s)).take ((j.toNat-i.toNat)*s)) (j.toNat-i.toNat) .shared) H
     | _=>False
   | false,true,true,[.int _ j,.int _ k]=>(j=k∧0≤j∧j≤n)∧K (.ax (cells.take (j.toNat*s)) j.toNat .full) H
   | true,true,true,[.int _ i,.int _ j,.int _ k]=>(j=k∧0≤i∧i≤j∧j≤n)∧K (.ax ((cells.drop (i.toNat*s)).take ((j.toNat-i.toNat)*s)) (j.toNat-i.toNat) .full) H
   | _,_,_,_=>False
 | .ref id off n cap sz=>match l,h,m,vs with
   | true,false,false,[.int _ i]=>sz=s∧(0≤i∧i≤n)∧(i<n→K (.ref id (off+i.toNat*s) (n-i.toNat) (cap.map (·-i.toNat)) sz) H)∧(i=n→K (.ax [] 0 .shared) H)
   | false,true,false,[.int _ j]=>sz=s∧(0≤j∧j≤n∧0<n)∧K (.ref id off j.toNat cap sz) H
   | _,_,_,_=>False
 | .cf id gid n z=>match l,h,m,vs with
   | false,true,false,[.int _ j]=>(0≤j∧j≤n)∧K (.cf id gid j.toNat z) H
   | _,_,_,_=>False
 | _=>False
def zI (off:Nat) (v:I) (H:List au) (K:I→List au→Prop):Prop:=match v with
 | .ptr id o=>K (.ptr id (o+off)) H
 | .bT cells=>K (.bT (cells.drop off)) H
 | _=>False
def zJ (s:Nat) (x i:I) (H:List au) (K:I→List au→Prop):Prop:=match i with
 | .int _ n=>match x with
   | .ax cells len _=>(0≤n∧n<len)∧K (.bT (cells.drop (n.toNat*s))) H
   | .ref id off len _ _=>(0≤n∧n<len)∧K (.ptr id (off+n.toNat*s)) H
   | _=>False
 | _=>False
def zK (len s:Nat) (x i:I) (H:List au) (K:I→List au→Prop):Prop:=match i with
 | .int _ n=>match x with
   | .ptr id off=>(0≤n∧n<len)∧K (.ptr id (off+n.toNat*s)) H
   | .bT cells=>(0≤n∧n<len)∧K (.bT (cells.drop (n.toNat*s))) H
   | _=>False
 | _=>False
def ko (e9:hH) (k:I):Prop:=match e9,k with
 | .int q,.int fK _=>q=fK
 | .str n,.agg cs=>cs.length=n
 | _,_=>False
def zP (lo:Nat) (e9:hH) (m k v:I) (H:List au) (K:I→List au→Prop):Prop:=match m with
 | .map id=>match Nat.ble lo id with
   | true=>ko e9 k∧∃ es clock,H[id]?=some (.map es clock)∧∃ r,fy k es 0=some r∧(match r with
     | some i=>K .junk (H.set id (.map (es.modify i fun e=>(e.1,k,v)) clock))
     | none=>K .junk (H.set id (.map (es++[(clock,k,v)]) (clock+1))))
   | false=>False
 | _=>False
def zO (e9:hH) (ok:Bool) (zero:Option I) (m k:I) (H:List au) (K:I→List au→Prop):Prop:=match m with
 | .map id=>ko e9 k∧∃ es clock,H[id]?=some (.map es clock)∧∃ r,fy k es 0=some r∧(match r with
   | some i=>∃ e,es[i]?=some e∧(match ok with | true=>K (.tuple [e.2.2,.bool true]) H | false=>K e.2.2 H)
   | none=>∃ z,zero=some z∧(match ok with | true=>K (.tuple [z,.bool false]) H | false=>K z H))
 | _=>False
def zN (lo:Nat) (e9:hH) (m k:I) (H:List au) (K:I→List au→Prop):Prop:=match m with
 | .map id=>match Nat.ble lo id with
   | true=>ko e9 k∧∃ es clock,H[id]?=some (.map es clock)∧∃ r,fy k es 0=some r∧(match r with
     | some i=>K (.tuple []) (H.set id (.map (es.eraseIdx i) clock))
     | none=>K (.tuple []) H)
   | false=>False
 | _=>False
def zS (m:I) (H:List au) (K:I→List au→Prop):Prop:=match m with
 | .map id=>∃ es clock,H[id]?=some (.map es clock)∧K (.ptr H.length 0) (H++[.iter id clock [] clock])
 | _=>False
def zH (p:I) (H:List au) (K:I→List au→Prop):Prop:=match p with
 | .ptr r 0=>∃ m since seen clock ga es e,H[r]?=some (.iter m since seen clock)∧seen.getLast?=some ga∧H[m]?=some (.map es clock)∧es.find? (fun e=>e.1 == ga)=some e∧K (.tuple [e.2.1,e.2.2]) H
 | _=>False
def zL (m:I) (H:List au) (K:I→List au→Prop):Prop:=match m with
 | .map id=>∃ es clock,H[id]?=some (.map es clock)∧K (.int .i64 es.length) H
 | _=>False
def bN (P:Program) (lo:Nat) (k:hI) (vs:List I) (H:List au) (K:I→List au→Prop):Prop:=match k with
 | .iH=>match vs with | [v]=>K v H | _=>False
 | .nil z=>match vs with | [_]=>K (.ax [] 0 (.uniq z)) H | _=>False
 | .Aw=>match vs with | [v]=>p1 v H K | _=>False
 | .px a=>match vs with | [v]=>pV a v H K | _=>False
 | .yM a=>match vs with | [.bT cells]=>lZ a cells 0 fun v=>K v H | _=>False
 | .take=>match vs with | [v]=>pZ lo v H K | _=>False
 | .Av=>match vs with | [v]=>p0 lo v H K | _=>False
 | .Ar=>match vs with | [p,v]=>pY lo p v H K | _=>False
 | .st s=>match vs with | [p,v]=>pX lo s p v H K | _=>False
 | .box=>match vs with | [v]=>pT v H K | _=>False
 | .xE=>match vs with | [v]=>pU v H K | _=>False
 | .alloc z=>K (.ptr H.length 0) (H++[.cells z])
 | .y9 z s bytes=>match vs with | [a,b]=>zR z s bytes a b H K | _=>False
 | .y8 z s bytes=>match vs with | [a,b]=>zQ z s bytes a b H K | _=>False
 | .pz=>match vs with | [v]=>zM v H K | _=>False
 | .yO n=>match vs with | [.ax _ _ _] | [.ref _ _ _ _ _] | [.map _]=>False | [_]=>K (.int .i64 n) H | _=>False
 | .min=>match vs with | .int k a::r=>pH r a fun n=>K (.int k n) H | _=>False
 | .max=>match vs with | .int k a::r=>pG r a fun n=>K (.int k n) H | _=>False
 | .app s bytes=>match vs with | [x,y]=>pR s bytes x y H K | _=>False
 | .xx s bytes=>match vs with | [x,y]=>pS lo s bytes x y H K | _=>False
 | .call _=>False
 | .pick=>match vs with | [.bool c,a,b]=>(match c with | true=>K a H | false=>K b H) | _=>False
 | .build z bk=>jl bk vs z fun cs=>K (.agg cs) H
 | .xG len s z ix=>jl (ix.map fun i=>(i*s,s)) vs (eU len z) fun cs=>K (.ax cs len (.uniq s)) H
 | .xF len s z ix=>jl (ix.map fun i=>(i*s,s)) vs (eU len z) fun cs=>K (.ax cs len .full) H
 | .za=>match vs with | [.ptr id off]=>K (.ptr id off) H | [.bT cells]=>K (.bT cells) H | _=>False
 | .bin op=>match vs with | [.int k a,.int k' b]=>(match decide (k=k') || Ag op with | true=>n9 op k a b fun v=>K v H | false=>False) | _=>False
 | .oa neq=>match vs with | [.bool a,.bool b]=>(match neq with | true=>K (.bool (!(a == b))) H | false=>K (.bool (a == b)) H) | _=>False
 | .un op=>match vs with
   | [.bool b]=>(match op with | .not=>K (.bool !b) H | _=>False)
   | [.int k n]=>(match op with | .neg=>K (.int k (k.wrap (-n))) H | _=>False)
   | _=>False
 | .conv k=>match vs with | [.int _ n]=>K (.int k (k.wrap n)) H | _=>False
 | .y6 f n m=>(match Nat.beq vs.length (n+m) with | true=>K (.func f (vs.take n) (vs.drop n)) H | false=>False)
 | .Ap s l h m=>match vs with | x::vs=>pW s l h m x vs H K | _=>False
 | .y7=>K (.map H.length) (H++[.map [] 0])
 | .y0 e9=>match vs with | [m,k,v]=>zP lo e9 m k v H K | _=>False
 | .yZ e9 ok z=>match vs with | [m,k]=>zO e9 ok z m k H K | _=>False
 | .yY e9=>match vs with | [m,k]=>zN lo e9 m k H K | _=>False
 | .zU=>match vs with | [m]=>zS m H K | _=>False
 | .xP=>match vs with | [m]=>zH m H K | _=>False
 | .yP=>match vs with | [m]=>zL m H K | _=>False
 | .ov off=>match vs with | [v]=>zI off v H K | _=>False
 | .xX off a=>match vs with | [.agg cs]=>zm a cs off fun v=>K v H | _=>False
 | .pq s=>match vs with | [x,i]=>zJ s x i H K | _=>False
 | .yC len s=>match vs with | [x,i]=>zK len s x i H K | _=>False
 | .ext i=>match vs with | [.tuple ws]=>(eJ ws i fun v=>jX v fun v=>K v H) | _=>False
 | .other o mode=>∃ v H',(∀ C,a6 P C lo o mode vs H=some (v,H'))∧K v H'
def nD (P:Program) (o:Oper) (mode:Nat) (x:Operand):hI:=match mode with
 | 0=>match iE x,P.underlying o.type with
   | true,some (.slice e)=>(match bQ P e with | some z=>.nil z | none=>.other o mode)
   | _,_=>.iH
 | 1=>.Aw
 | _=>.other o mode
def lX (P:Program) (t:TypeId):Option (hH×TypeId):=match jD P t with
 | some (k,e)=>(match P.underlying k with
   | some (.int q)=>some (.int q,e)
   | some (.struct fs)=>some (.str fs.size,e)
   | _=>none)
 | none=>none
def g' (P:Program) (o:Oper) (mode:Nat):hI:=match o.op with
 | .move x | .assign x=>nD P o mode x
 | .load t _=>match mode with
   | 0=>(match gP P t with | some a=>.px a | none=>.other o mode)
   | 2=>(match P.underlying t with | some (.slice _)=>.Av | _=>.other o mode)
   | 3=>(match gP P t with | some a=>.yM a | none=>.other o mode)
   | 5=>.other o mode
   | _=>match P.underlying t with | some (.slice _)=>.take | _=>.other o mode
 | .store t _ _=>match mode,bQ P t with | 0,some s=>.st s | _+1,some 1=>.Ar | _,_=>.other o mode
 | .box _ _=>match mode with | 0=>.box | _=>.xE
 | .alloc t=>match mode with
   | 0=>(match zeroCells P t with | some z=>.alloc z | none=>.other o mode)
   | _=>(match zeroCells P t,P.underlying t with
     | some [.ax [] 0 .full],some (.slice e)=>(match bQ P e with | some s=>.alloc [.ax [] 0 (.own s)] | none=>.other o mode)
     | _,_=>.other o mode)
 | .makeSlice t _ _=>match mode,P.underlying t with
   | 0,some (.slice e)=>(match bQ P e,zeroCells P e,(P.info? e).map (·.bytes) with
     | some s,some z,some bytes=>(match Nat.beq z.length s && Nat.blt 0 s && Nat.ble 1 bytes with | true=>.y9 z s bytes | false=>.other o mode)
     | _,_,_=>.other o mode)
   | _+1,some (.slice e)=>(match bQ P e,zeroCells P e,(P.info? e).map (·.bytes) with
     | some s,some z,some bytes=>(match Nat.beq z.length s && Nat.blt 0 s && Nat.ble 1 bytes with | true=>.y8 z s bytes | false=>.other o mode)
     | _,_,_=>.other o mode)
   | _,_=>.other o mode
 | .call c=>match c.callee with
   | .builtin b=>match b with
     | .len=>(match iF P c.argTypes[0]? with
       | true=>.pz
       | false=>match (c.argTypes[0]?).bind P.underlying with | some (.array n _)=>.yO n | some (.map _ _)=>.yP | _=>.other o mode)
     | .delete=>(match (c.argTypes[0]?).bind (lX P) with | some x=>.yY x.1 | none=>.other o mode)
     | .min=>.min
     | .max=>.max
     | .append=>(match c.argTypes.toList with
       | [t,de]=>(match Nat.beq t de,P.underlying t with
         | true,some (.slice e)=>(match bQ P e,zeroCells P e,(P.info? e).map (·.bytes) with
           | some s,some z,some bytes=>(match Nat.beq z.length s && Nat.blt 0 s && Nat.ble 1 bytes,mode with | true,0=>.app s bytes | true,_=>.xx s bytes | false,_=>.other o mode)
           | _,_,_=>.other o mode)
         | _,_=>.other o mode)
       | _=>.other o mode)
     | _=>.other o mode
   | .value _=>.call mode
   | .invoke _ _=>.other o mode
 | .makeMap t r=>match r,P.underlying t with | none,some (.map _ _)=>.y7 | _,_=>.other o mode
 | .mapUpdate t _ _ _=>match lX P t with | some x=>.y0 x.1 | none=>.other o mode
 | .lookup t _ _ ok=>match lX P t with | some x=>.yZ x.1 ok (n1 P x.2) | none=>.other o mode
 | .range t _=>match P.underlying t with | some (.map _ _)=>.zU | _=>.other o mode
 | .entry _=>.xP
 | .pick _ _ _=>.pick
 | .build t parts=>match zeroCells P t,P.underlying t with
   | some z,some (.struct fs)=>(match fs.toList.all (fun f=>(bQ P f.type).isSome),l3 (fun i=>(fs[i]?).bind fun f=>(bQ P f.type).map fun s=>(f.offset,s)) (parts.toList.map (·.1)) with
     | true,some bk=>.build z bk
     | _,_=>.other o mode)
   | some z,some (.array _ e)=>(match bQ P e with | some s=>.build z (parts.toList.map fun p=>(p.1*s,s)) | none=>.other o mode)
   | _,_=>.other o mode
 | .buildSlice t len parts=>match P.underlying t with
   | some (.slice e)=>(match bQ P e,zeroCells P e with
     | some s,some z=>(match Nat.beq z.length s && Nat.blt 0 s && Nat.ble (len*s) 16777216,mode with | true,0=>.xG len s z (parts.toList.map (·.1)) | true,_=>.xF len s z (parts.toList.map (·.1)) | false,_=>.other o mode)
     | _,_=>.other o mode)
   | _=>.other o mode
 | .nilCheck _=>.za
 | .binOp op t _ y _=>match iE y,P.underlying t with
   | false,some (.int _)=>.bin op
   | false,some .bool=>(match op with | .eql=>.oa false | .neq=>.oa true | _=>.other o mode)
   | _,_=>.other o mode
 | .unOp op _ _=>.un op
 | .convert src dst _=>match P.underlying src,P.underlying dst with
   | some _,some (.int k)=>.conv k
   | _,_=>.other o mode
 | .makeFunc fn first captured=>match fn with | .func f=>.y6 f first.size captured.size | _=>.other o mode
 | .slice t _ l h m=>match P.underlying t with
   | some (.slice e)=>(match bQ P e with | some s=>.Ap s l.isSome h.isSome m.isSome | none=>.other o mode)
   | _=>.other o mode
 | .fieldAddr t _ f=>match P.underlying t with
   | some (.struct fs)=>(match (fs[f]?).bind fun g=>(bQ P g.type).map fun s=>(s,g.offset) with
     | some (s+1,off)=>.ov off
     | _=>.other o mode)
   | _=>.other o mode
 | .field t _ f=>match P.underlying t with
   | some (.struct fs)=>(match (fs[f]?).bind fun g=>(gP P g.type).map fun a=>(a,g.offset) with
     | some (a,off)=>.xX off a
     | _=>.other o mode)
   | _=>.other o mode
 | .indexAddr t _ _=>match P.underlying t with
   | some (.slice e)=>(match bQ P e with | some s=>.pq s | none=>.other o mode)
   | some (.array len e)=>(match bQ P e with | some s=>.yC len s | none=>.other o mode)
   | _=>.other o mode
 | .extract _ i=>.ext i
 | _=>.other o mode
where
 l3 {α β:Type} (f:α→Option β):List α→Option (List β)
  | []=>some []
  | x::xs=>match f x with | some y=>(l3 f xs).map (y::·) | none=>none
end
end Go.Proofs.YtfakoboiahbhaaaGreat.Ab


namespace Go.Proofs.YtfakoboiahbhaaaGreat.Ab
open Go
section
variable {P:Program} {H:List au}
theorem fZ {n bytes:Nat} (ad:n*bytes≤140737488355328) (af:1≤bytes):fo n bytes=true:=by
 simp only [fo,Bool.and_eq_true,Nat.ble_eq];exact ⟨ad,af⟩
theorem DP {lo:Nat} {t:TypeId} {a:eX} (cu:gP P t=some a) {v:I} {K:I→List au→Prop} (h:pV a v H K):∃ r H',dF P lo 0 t H [v]=some (r,H')∧K r H':=by
 unfold pV at h;split at h
 ·obtain ⟨x,aq,h⟩:=e' h;split at h
  ·obtain ⟨r,ad,af⟩:=ni cu h;exact ⟨r,H,by simp [dF,dI,aq,ad],af⟩
  ·obtain ⟨r,ad,af⟩:=ni cu h;exact ⟨r,H,by simp [dF,dI,aq,ad],af⟩
  ·exact h.elim
 ·obtain ⟨r,ad,af⟩:=ni cu h;exact ⟨r,H,by simp [dF,dI,ad],af⟩
 ·exact h.elim
theorem DU {lo mode:Nat} {t e:TypeId} (hm:mode≠0) (o5:mode≠2) (yf:mode≠3) (yg:mode≠5) (aw:P.underlying t=some (.slice e)) {v:I} {K:I→List au→Prop} (h:pZ lo v H K):∃ r H',dF P lo mode t H [v]=some (r,H')∧K r H':=by
 unfold pZ at h;split at h
 ·split at h
  ·rename_i bF;obtain ⟨x,aq,h⟩:=e' h;have bF:=Nat.le_of_ble_eq_true bF;split at h
   ·obtain ⟨v,ae,h⟩:=e' h;split at h
    ·refine ⟨_,_,?_,h⟩;cases mode with
     | zero=>exact absurd rfl hm
     | succ m=>simp only [dF,aw,bF,if_true,aq,ae]
    ·refine ⟨_,_,?_,h⟩;cases mode with
     | zero=>exact absurd rfl hm
     | succ m=>simp only [dF,aw,bF,if_true,aq,ae];rfl
    ·refine ⟨_,_,?_,h⟩;cases mode with
     | zero=>exact absurd rfl hm
     | succ m=>simp only [dF,aw,bF,if_true,aq,ae];rw [if_neg o5]
    ·exact h.elim
   ·obtain ⟨v,ae,h⟩:=e' h;split at h
    ·refine ⟨_,_,?_,h⟩;cases mode with
     | zero=>exact absurd rfl hm
     | succ m=>simp only [dF,aw,bF,if_true,aq,ae]
    ·refine ⟨_,_,?_,h⟩;cases mode with
     | zero=>exact absurd rfl hm
     | succ m=>simp only [dF,aw,bF,if_true,aq,ae]
    ·exact h.elim
   ·exact h.elim
  ·exact h.elim
 ·exact h.elim
theorem DT {lo:Nat} {t e:TypeId} (aw:P.underlying t=some (.slice e)) {v:I} {K:I→List au→Prop} (h:p0 lo v H K):∃ r H',dF P lo 2 t H [v]=some (r,H')∧K r H':=by
 unfold p0 at h;split at h
 ·split at h
  ·rename_i bF;obtain ⟨x,aq,h⟩:=e' h;have bF:=Nat.le_of_ble_eq_true bF;split at h
   ·obtain ⟨v,ae,h⟩:=e' h;split at h
    ·exact ⟨_,_,by simp only [dF,aw,bF,if_true,aq,ae];rw [if_neg h.1],h.2⟩
    ·exact ⟨_,_,by simp only [dF,aw,bF,if_true,aq,ae];rfl,h⟩
    ·exact h.elim
   ·exact h.elim
  ·exact h.elim
 ·exact h.elim
theorem DR {lo mode:Nat} {t:TypeId} (hm:mode≠0) (ai:bQ P t=some 1) {p v:I} {K:I→List au→Prop} (h:pY lo p v H K):∃ r H',hs P lo mode t H [p,v]=some (r,H')∧K r H':=by
 unfold pY at h;split at h
 ·split at h
  ·rename_i bF;have bF:=Nat.le_of_ble_eq_true bF;obtain ⟨x,aq,h⟩:=e' h;split at h
   ·split at h
    ·obtain ⟨ad,af,h⟩:=h;obtain ⟨aH,h⟩:=kO h;refine ⟨.junk,_,?_,h⟩;cases mode with
     | zero=>exact absurd rfl hm
     | succ m =>
       simp only [hs,k0,ai];rw [if_pos ⟨ad,af⟩];simp only [g4,bF,if_true,aq];rw [if_pos aH];rfl
    ·exact h.elim
   ·exact h.elim
  ·exact h.elim
 ·exact h.elim
theorem DS {lo s:Nat} {t:TypeId} (ai:bQ P t=some s) {p v:I} {K:I→List au→Prop} (h:pX lo s p v H K):∃ r H',hs P lo 0 t H [p,v]=some (r,H')∧K r H':=by
 unfold pX at h;split at h
 ·split at h
  ·rename_i bF;have bF:=Nat.le_of_ble_eq_true bF;obtain ⟨x,aq,h⟩:=e' h;split at h
   ·rcases k7 h with ⟨ad,av⟩ | ⟨vc,ad,_,av⟩
    ·split at av
     ·rename_i af;have af:=Nat.eq_of_beq_eq_true af;rw [xg] at av;obtain ⟨aH,av⟩:=kO av;clear h;subst af;exact ⟨.junk,_,by simp only [hs,ig,ai,ad,g5,bF,if_true,aq];rw [if_pos ⟨rfl,by omega⟩];rfl,av⟩
     ·exact av.elim
    ·split at av
     ·rename_i af bh;have af:=Nat.eq_of_beq_eq_true af;(have bh:0<s:=by simpa [Nat.blt_eq] using bh);obtain ⟨aH,av⟩:=nV av;(have bM:=aH.resolve_right fun aH=>by simp only [List.map_eq_nil_iff] at aH;rw [aH] at af;simp only [List.length_nil] at af;omega);simp only [List.length_map,af] at bM;exact ⟨.junk,_,by simp only [hs,ig,ai,ad,g5,bF,if_true,aq];rw [if_pos ⟨af,bM⟩];rfl,av⟩
     ·exact av.elim
   ·rcases k7 h with ⟨ad,av⟩ | ⟨vc,ad,_,av⟩
    ·split at av
     ·rename_i af;have af:=Nat.eq_of_beq_eq_true af;rw [xg] at av;obtain ⟨aH,av⟩:=kO av;clear h;subst af;exact ⟨.junk,_,by simp only [hs,ig,ai,ad,g5,bF,if_true,aq];rw [if_pos ⟨rfl,by omega⟩];rfl,av⟩
     ·exact av.elim
    ·split at av
     ·rename_i af bh;have af:=Nat.eq_of_beq_eq_true af;(have bh:0<s:=by simpa [Nat.blt_eq] using bh);obtain ⟨aH,av⟩:=nV av;(have bM:=aH.resolve_right fun aH=>by simp only [List.map_eq_nil_iff] at aH;rw [aH] at af;simp only [List.length_nil] at af;omega);simp only [List.length_map,af] at bM;exact ⟨.junk,_,by simp only [hs,ig,ai,ad,g5,bF,if_true,aq];rw [if_pos ⟨af,bM⟩];rfl,av⟩
     ·exact av.elim
   ·exact h.elim
  ·exact h.elim
 ·exact h.elim
theorem DO {v:I} {K:I→List au→Prop} (h:pT v H K):∃ r H',gF 0 H [v]=some (r,H')∧K r H':=by
 unfold pT at h;rcases k7 h with ⟨ad,h⟩ | ⟨vc,ad,_,h⟩
 ·rw [xg] at h;exact ⟨_,_,by simp only [gF,ad,Option.map_some,List.map_cons,List.map_nil],h⟩
 ·exact ⟨_,_,by simp only [gF,ad,Option.map_some],h⟩
theorem DN {mode:Nat} (hm:mode≠0) {v:I} {K:I→List au→Prop} (h:pU v H K):∃ r H',gF mode H [v]=some (r,H')∧K r H':=by
 unfold pU at h;cases mode with
 | zero=>exact absurd rfl hm
 | succ m =>
 rcases k7 h with ⟨ad,af,h⟩ | ⟨vc,ad,_,af,h⟩
 ·have aH:[v].all I.plain=true:=by simp [af]
  exact ⟨_,_,by simp only [gF,ad,aH],h⟩
 ·exact ⟨_,_,by simp only [gF,ad,af],h⟩
theorem y5:∀ (l:List I) (a:Int) {K:Int→Prop},pH l a K→∃ n,kx l a=some n∧K n
 | [],a,K,h=>⟨a,rfl,h⟩
 | .int k b::r,a,K,h=>by
   obtain ⟨n,ad,af⟩:=y5 r _ h;(have e:min a b=if b<a then b else a:=by split <;> omega);rw [e] at ad;exact ⟨n,ad,af⟩
 | .junk::_,_,_,h | .bool _::_,_,_,h | .eu::_,_,_,h | .ptr _ _::_,_,_,h | .bT _::_,_,_,h | .ax _ _ _::_,_,_,h | .ref _ _ _ _ _::_,_,_,h | .func _ _ _::_,_,_,h | .yield _::_,_,_,h | .map _::_,_,_,h
 | .agg _::_,_,_,h | .tuple _::_,_,_,h | .str _::_,_,_,h | .raw _ _ _::_,_,_,h | .cf _ _ _ _::_,_,_,h=>h.elim
theorem y4:∀ (l:List I) (a:Int) {K:Int→Prop},pG l a K→∃ n,kv l a=some n∧K n
 | [],a,K,h=>⟨a,rfl,h⟩
 | .int k b::r,a,K,h=>by
   obtain ⟨n,ad,af⟩:=y4 r _ h;(have e:max a b=if b > a then b else a:=by split <;> omega);rw [e] at ad;exact ⟨n,ad,af⟩
 | .junk::_,_,_,h | .bool _::_,_,_,h | .eu::_,_,_,h | .ptr _ _::_,_,_,h | .bT _::_,_,_,h | .ax _ _ _::_,_,_,h | .ref _ _ _ _ _::_,_,_,h | .func _ _ _::_,_,_,h | .yield _::_,_,_,h | .map _::_,_,_,h
 | .agg _::_,_,_,h | .tuple _::_,_,_,h | .str _::_,_,_,h | .raw _ _ _::_,_,_,h | .cf _ _ _ _::_,_,_,h=>h.elim
theorem DV {lo:Nat} {t:TypeId} {x:Operand} {v:I} {K:I→List au→Prop} (h:p1 v H K):∃ r H',eK P lo 1 t x H [v]=some (r,H')∧K r H':=by
 unfold p1 at h;split at h
 ·rcases h with h | h
  ·exact ⟨_,_,by simp only [eK];rw [if_neg h.1],h.2⟩
  ·exact ⟨_,_,by simp only [eK];rw [if_pos h.1],h.2⟩
 ·exact ⟨_,_,rfl,h⟩
 ·exact ⟨_,_,rfl,h⟩
 ·exact h.elim
theorem zG {t e:TypeId} {s bytes:Nat} (aw:P.underlying t=some (.slice e)) (ai:bQ P e=some s) {z:List I} (bn:zeroCells P e=some z) (ag:(P.info? e).map (·.bytes)=some bytes)
  (ei:z.length=s) (aT:0<s) (ad:1≤bytes) {x y:I} {new:List I} {m:Nat} (eD:appended H y=some (m,new)) {K:I→List au→Prop} (h:nG s bytes x new m H K):∃ r H',iL P #[t,t] H [x,y]=some (r,H')∧K r H':=by
 unfold nG at h;obtain ⟨aB,aF,h⟩:=h;have ak:new.length=m*s∧0<s∧z.length=s∧fo m bytes=true:=⟨aB,aT,ei,fZ aF ad⟩;have key:∀ {r:I},e0 P H t t x y=some r→iL P #[t,t] H [x,y]=some (r,H):=fun h=>by simp [iL,h]
 have beq:Nat.beq t t=true:=Nat.beq_refl t;split at h
 ·obtain ⟨br,h⟩:=h;subst br;refine ⟨_,_,key ?_,h⟩;simp only [e0,aw,ai,ag,bn,beq,eD];rw [if_pos ak];rfl
 ·obtain ⟨br,cU,ff,h⟩:=h;refine ⟨_,_,key ?_,h⟩;simp only [e0,aw,ai,ag,bn,beq,eD];rw [if_pos ak];simp only [br,if_false];rw [if_pos ⟨fZ cU ad,ff⟩]
 ·obtain ⟨br,cU,h⟩:=h;refine ⟨_,_,key ?_,h⟩;simp only [e0,aw,ai,ag,bn,beq,eD];rw [if_pos ak];simp only [br];rw [if_pos ⟨trivial,fZ cU ad⟩]
 ·obtain ⟨br,cU,h⟩:=h;refine ⟨_,_,key ?_,h⟩;simp only [e0,aw,ai,ag,bn,beq,eD];rw [if_pos ak];simp only [br];rw [if_pos ⟨trivial,fZ cU ad⟩]
 ·exact h.elim
theorem DM {t e:TypeId} {s bytes:Nat} (aw:P.underlying t=some (.slice e)) (ai:bQ P e=some s) {z:List I} (bn:zeroCells P e=some z) (ag:(P.info? e).map (·.bytes)=some bytes)
  (ei:z.length=s) (aT:0<s) (ad:1≤bytes) {x y:I} {K:I→List au→Prop} (h:pR s bytes x y H K):∃ r H',iL P #[t,t] H [x,y]=some (r,H')∧K r H':=by
 unfold pR at h;split at h
 ·rename_i new m c;exact zG aw ai bn ag ei aT ad (y:=.ax new m c) rfl h
 ·rename_i id off m c cQ;obtain ⟨o,ar,h⟩:=e' h;split at h
  ·rename_i l;obtain ⟨br,h⟩:=h;refine zG aw ai bn ag ei aT ad (y:=.ref id off m c cQ) ?_ h;simp only [appended,lenOf,rowOf,ar,if_pos br]
  ·exact h.elim
 ·exact h.elim
theorem Nat.A7 {a b:Nat} (h:b=a):Nat.blt a b=false:=by
 cases ag:Nat.blt a b with
 | false=>rfl
 | true=>have:=Nat.le_of_ble_eq_true ag;omega
theorem DL {lo:Nat} {t e:TypeId} {s bytes:Nat} (aw:P.underlying t=some (.slice e)) (ai:bQ P e=some s) {z:List I} (bn:zeroCells P e=some z) (ag:(P.info? e).map (·.bytes)=some bytes)
  (ei:z.length=s) (aT:0<s) (ad:1≤bytes) {x y:I} {K:I→List au→Prop} (h:pS lo s bytes x y H K):∃ r H',iM P lo #[t,t] H [x,y]=some (r,H')∧K r H':=by
 unfold pS at h;split at h
 ·rename_i new m c;obtain ⟨⟨aB,aF⟩,h⟩:=h;have eD:appended H (.ax new m c)=some (m,new):=rfl;have ak:new.length=m*s∧0<s∧z.length=s∧fo m bytes=true:=⟨aB,aT,ei,fZ aF ad⟩;have beq:Nat.beq t t=true:=Nat.beq_refl t;split at h
  ·rename_i cells n;obtain ⟨⟨br,cU,ff⟩,h⟩:=h;refine ⟨_,_,?_,h⟩;have q:e0 P H t t (.ax cells n .full) (.ax new m c)=some (.ax (cells++new) (n+m) (.uniq s)):=by
    simp only [e0,aw,ai,ag,bn,beq,eD];rw [if_pos ak];simp only [br,if_false];rw [if_pos ⟨fZ cU ad,ff⟩]
   simp only [iM,iR,hZ,q];rw [if_neg (by omega)]
  ·rename_i cells n cQ;obtain ⟨⟨rfl,br,cU⟩,h⟩:=h;refine ⟨_,_,?_,h⟩;have q:e0 P H t t (.ax cells n (.uniq cQ)) (.ax new m c)=some (.ax (cells++new) (n+m) (.uniq cQ)):=by
    simp only [e0,aw,ai,ag,bn,beq,eD];rw [if_pos ak];rw [if_pos ⟨trivial,fZ cU ad⟩]
   simp only [iM,iR,hZ,q];rw [if_neg (by omega)]
  ·rename_i id gid n z;split at h
   ·rename_i bF;have bF:=Nat.le_of_ble_eq_true bF;obtain ⟨o,aE,h⟩:=e' h;split at h
    ·rcases h with ⟨⟨cn,cp,ed,br,cU,ff⟩,bM⟩ | ⟨⟨cn,cp,ed,br,cU,ff⟩,bM⟩
     ·subst cn cp ed;refine ⟨_,_,?_,bM⟩;have iu:=Nat.A7 br;simp only [iM,iR,aE,iu,Bool.false_and];simp only [hZ,bF,if_true,aw,aE,ai,ag,bn,eD];rw [if_pos ⟨trivial,trivial,trivial,trivial,br,aB,aT,cU,ei,fZ aF ad,fZ ff ad⟩]
     ·rename_i l g cQ;subst cn cp ed;refine ⟨_,_,?_,bM⟩;have iu:Nat.blt (n*cQ) l.length=true:=Nat.ble_eq_true_of_le br;have fi:Nat.ble lo id=true:=Nat.ble_eq_true_of_le bF;have BY:=(List.getElem?_eq_some_iff.1 aE).1;(have oY:(H.set id (.grow (l.take (n*cQ)) g cQ))[id]?=some (.grow (l.take (n*cQ)) g cQ):=by rw [List.getElem?_set_self BY]);simp only [iM,iR,aE,iu,fi,Bool.and_self];simp only [hZ,bF,if_true,aw,oY,ai,ag,bn];have Bx:appended (H.set id (.grow (l.take (n*cQ)) g cQ)) (.ax new m c)=some (m,new):=rfl;simp only [Bx];rw [if_pos ⟨trivial,trivial,trivial,trivial,by rw [List.length_take];omega,aB,aT,cU,ei,fZ aF ad,fZ ff ad⟩,List.set_set,List.length_set]
    ·exact h.elim
   ·exact h.elim
  ·exact h.elim
 ·exact h.elim
theorem DQ {t e:TypeId} {s:Nat} (aw:P.underlying t=some (.slice e)) (ai:bQ P e=some s) {l h m:Option Operand} {x:I} {vs:List I} {K:I→List au→Prop}
  (av:pW s l.isSome h.isSome m.isSome x vs H K):∃ r,ec P t l h m (x::vs)=some r∧K r H:=by
 unfold pW at av;split at av
 ·rename_i cells n c;split at av
  ·rename_i e1 cd dw;obtain rfl:=Option.isSome_eq_false_iff.1 e1 |> Option.isNone_iff_eq_none.1;obtain rfl:=Option.isSome_eq_false_iff.1 cd |> Option.isNone_iff_eq_none.1;obtain rfl:=Option.isSome_eq_false_iff.1 dw |> Option.isNone_iff_eq_none.1;split at av
   ·exact ⟨_,by simp [ec,aw,ai,cE,dd],av⟩
   ·exact ⟨_,by simp [ec,I.view,eO,aw,ai,cE,dd],av⟩
   ·exact av.elim
  ·rename_i k i e1 cd dw;obtain ⟨l,rfl⟩:=Option.isSome_iff_exists.1 e1;obtain rfl:=Option.isSome_eq_false_iff.1 cd |> Option.isNone_iff_eq_none.1;obtain rfl:=Option.isSome_eq_false_iff.1 dw |> Option.isNone_iff_eq_none.1;split at av
   ·obtain ⟨⟨rfl,ag⟩,av⟩:=av;exact ⟨_,by simp [ec,aw,ai,cE,dd,ag],av⟩
   ·obtain ⟨ag,av⟩:=av;exact ⟨_,by simp [ec,I.view,eO,aw,ai,cE,dd,ag],av⟩
   ·obtain ⟨ag,av⟩:=av;exact ⟨_,by simp [ec,I.view,eO,aw,ai,cE,dd,ag],av⟩
   ·exact av.elim
  ·rename_i k j e1 cd dw;obtain rfl:=Option.isSome_eq_false_iff.1 e1 |> Option.isNone_iff_eq_none.1;obtain ⟨h,rfl⟩:=Option.isSome_iff_exists.1 cd;obtain rfl:=Option.isSome_eq_false_iff.1 dw |> Option.isNone_iff_eq_none.1;split at av
   ·obtain ⟨ag,av⟩:=av;exact ⟨_,by simp [ec,aw,ai,cE,dd,ag],av⟩
   ·obtain ⟨ag,av⟩:=av;exact ⟨_,by simp [ec,I.view,eO,aw,ai,cE,dd,ag],av⟩
   ·obtain ⟨ag,av⟩:=av;exact ⟨_,by simp [ec,I.view,eO,aw,ai,cE,dd,ag],av⟩
   ·exact av.elim
  ·rename_i k i k' j e1 cd dw;obtain ⟨l,rfl⟩:=Option.isSome_iff_exists.1 e1;obtain ⟨h,rfl⟩:=Option.isSome_iff_exists.1 cd;obtain rfl:=Option.isSome_eq_false_iff.1 dw |> Option.isNone_iff_eq_none.1;have az:0≤i∧i≤j∧j≤n→(0≤j∧j≤n)∧i≤max j 0:=fun ag=>⟨⟨by omega,ag.2.2⟩,by omega⟩;split at av
   ·obtain ⟨ag,av⟩:=av;obtain ⟨aW,aX⟩:=az ag;exact ⟨_,by simp [ec,I.view,eO,aw,ai,cE,dd,aW,aX,ag.1],av⟩
   ·obtain ⟨ag,av⟩:=av;obtain ⟨aW,aX⟩:=az ag;exact ⟨_,by simp [ec,I.view,eO,aw,ai,cE,dd,aW,aX,ag.1],av⟩
   ·obtain ⟨ag,av⟩:=av;obtain ⟨aW,aX⟩:=az ag;exact ⟨_,by simp [ec,I.view,eO,aw,ai,cE,dd,aW,aX,ag.1],av⟩
   ·exact av.elim
  ·rename_i k j k' yG e1 cd dw;obtain rfl:=Option.isSome_eq_false_iff.1 e1 |> Option.isNone_iff_eq_none.1;obtain ⟨h,rfl⟩:=Option.isSome_iff_exists.1 cd;obtain ⟨m,rfl⟩:=Option.isSome_iff_exists.1 dw;obtain ⟨⟨rfl,ag⟩,av⟩:=av;(have q:j≤max j 0:=by omega);refine ⟨_,?_,av⟩;cases c <;> simp [ec,I.view,eO,aw,ai,cE,dd,ag,q]
  ·rename_i k i k' j FJ yG e1 cd dw;obtain ⟨l,rfl⟩:=Option.isSome_iff_exists.1 e1;obtain ⟨h,rfl⟩:=Option.isSome_iff_exists.1 cd;obtain ⟨m,rfl⟩:=Option.isSome_iff_exists.1 dw;obtain ⟨⟨rfl,ag⟩,av⟩:=av;(have q:j≤max j 0:=by omega);(have aX:i≤max j 0:=by omega);(have cw:0≤j:=by omega);refine ⟨_,?_,av⟩;cases c <;> simp [ec,I.view,eO,aw,ai,cE,dd,ag,q,aX,cw]
  ·exact av.elim
 ·rename_i id off n cap sz;split at av
  ·rename_i k i e1 cd dw;obtain ⟨l,rfl⟩:=Option.isSome_iff_exists.1 e1;obtain rfl:=Option.isSome_eq_false_iff.1 cd |> Option.isNone_iff_eq_none.1;obtain rfl:=Option.isSome_eq_false_iff.1 dw |> Option.isNone_iff_eq_none.1;obtain ⟨rfl,ag,aL,aQ⟩:=av;by_cases hi:i<n
   ·(have hi':i.toNat<n:=by omega);exact ⟨_,by simp [ec,I.view,eO,aw,ai,cE,dd,ag,hi'],aL hi⟩
   ·(have hi':¬ i.toNat<n:=by omega);exact ⟨_,by simp [ec,I.view,eO,aw,ai,cE,dd,ag,hi'],aQ (by omega)⟩
  ·rename_i k j e1 cd dw;obtain rfl:=Option.isSome_eq_false_iff.1 e1 |> Option.isNone_iff_eq_none.1;obtain ⟨h,rfl⟩:=Option.isSome_iff_exists.1 cd;obtain rfl:=Option.isSome_eq_false_iff.1 dw |> Option.isNone_iff_eq_none.1;obtain ⟨rfl,⟨br,cU,ff⟩,av⟩:=av;(have ak:cap.map (·-0)=cap:=by cases cap <;> rfl);exact ⟨_,by simp [ec,I.view,eO,aw,ai,cE,dd,br,cU,ff],av⟩
  ·exact av.elim
 ·rename_i id gid n z;split at av
  ·rename_i k j e1 cd dw;obtain rfl:=Option.isSome_eq_false_iff.1 e1 |> Option.isNone_iff_eq_none.1;obtain ⟨h,rfl⟩:=Option.isSome_iff_exists.1 cd;obtain rfl:=Option.isSome_eq_false_iff.1 dw |> Option.isNone_iff_eq_none.1;obtain ⟨ag,av⟩:=av;exact ⟨_,by simp [ec,aw,ai,cE,dd,ag],av⟩
  ·exact av.elim
 ·exact av.elim
end
end Go.Proofs.YtfakoboiahbhaaaGreat.Ab


namespace Go.Proofs.YtfakoboiahbhaaaGreat.Ab
open Go
section
variable {P:Program} {H:List au}
theorem y2 {α β:Type} {f:α→Option β}:∀ {l:List α} {r:List β},g'.l3 f l=some r→l.map f=r.map some
 | [],r,h=>by simp [g'.l3] at h;subst h;rfl
 | x::xs,r,h=>by
   simp only [g'.l3] at h;split at h
   ·rename_i y aZ;simp only [Option.map_eq_some_iff] at h;obtain ⟨ys,h,rfl⟩:=h;simp [aZ,y2 h]
   ·simp at h
theorem pw {t:TypeId} {x:hH×TypeId} (h:lX P t=some x):∃ dW,jD P t=some (dW,x.2)∧∀ k,ko x.1 k→isKey P dW k=true:=by
 unfold lX at h;split at h
 ·rename_i dW e hm;split at h
  ·rename_i q bl;cases h;refine ⟨dW,hm,fun k av=>?_⟩;cases k <;> simp only [ko] at av;subst av;simp [isKey,bl]
  ·rename_i fs ai;cases h;refine ⟨dW,hm,fun k av=>?_⟩;cases k <;> simp only [ko] at av;simp [isKey,ai,av]
  ·cases h
 ·cases h
theorem zE {lo:Nat} {o:Oper} {mode:Nat} {vs:List I} {K:I→List au→Prop} (h:bN P lo (g' P o mode) vs H K):∃ v H',(∀ C,a6 P C lo o mode vs H=some (v,H'))∧K v H':=by
 have FQ:∀ {x:hI},x=.other o mode→bN P lo x vs H K→∃ v H',(∀ C,a6 P C lo o mode vs H=some (v,H'))∧K v H':=fun e h=>by subst e;exact h
 have pure:∀ {r:I},(∀ C,a6 P C lo o mode vs H=(cv P o vs).map (·,H))→cv P o vs=some r→K r H→∃ v H',(∀ C,a6 P C lo o mode vs H=some (v,H'))∧K v H':=fun ad af aH=>⟨_,H,fun C=>by rw [ad C,af];rfl,aH⟩;have iH:∀ x,(o.op=.move x∨o.op=.assign x)→(∀ C,a6 P C lo o mode vs H=eK P lo mode o.type x H vs)→bN P lo (nD P o mode x) vs H K→∃ v H',(∀ C,a6 P C lo o mode vs H=some (v,H'))∧K v H':=fun x _ hm h=>by
  unfold nD at h;split at h
  ·split at h
   ·rename_i e aP hu;split at h
    ·rename_i z bn;simp only [bN] at h;split at h
     ·exact ⟨_,_,fun C=>by rw [hm C];simp only [eK,aP,hu,bn,Option.map_some],h⟩
     ·exact h.elim
    ·exact h
   ·rename_i fS;simp only [bN] at h;split at h
    ·refine ⟨_,H,fun C=>?_,h⟩;rw [hm C];simp only [eK]
     try (split
          ·rename_i e ad af;exact absurd af (fS e ad)
          ·rfl)
    ·exact h.elim
  ·simp only [bN] at h;split at h
   ·obtain ⟨r,H',ad,af⟩:=DV (P:=P) (lo:=lo) (t:=o.type) (x:=x) h;exact ⟨r,H',fun C=>by rw [hm C];exact ad,af⟩
   ·exact h.elim
  ·exact h
 unfold g' at h;cases aC:o.op <;> simp only [aC] at h <;> (try exact h)
 case move x=>exact iH x (.inl aC) (fun C=>by simp [a6,aC]) h
 case assign x=>exact iH x (.inr aC) (fun C=>by simp [a6,aC]) h
 case load t a =>
  split at h
  ·split at h
   ·rename_i AV cu;simp only [bN] at h;split at h
    ·obtain ⟨r,H',ad,af⟩:=DP (P:=P) (lo:=lo) cu h;exact ⟨r,H',fun C=>by simp only [a6,aC];exact ad,af⟩
    ·exact h.elim
   ·exact h
  ·split at h
   ·rename_i e hu;simp only [bN] at h;split at h
    ·obtain ⟨r,H',ad,af⟩:=DT (P:=P) (lo:=lo) hu h;exact ⟨r,H',fun C=>by simp only [a6,aC];exact ad,af⟩
    ·exact h.elim
   ·exact h
  ·split at h
   ·rename_i AV cu;simp only [bN] at h;split at h
    ·obtain ⟨r,ad,af⟩:=ni cu h;exact ⟨r,H,fun C=>by simp only [a6,aC,dF,ad,Option.map_some],af⟩
    ·exact h.elim
   ·exact h
  ·exact h
  ·rename_i hm o5 yf yg;split at h
   ·rename_i e hu;simp only [bN] at h;split at h
    ·obtain ⟨r,H',ad,af⟩:=DU (P:=P) (lo:=lo) (mode:=mode) (fun e=>hm e) (fun e=>o5 e) (fun e=>yf e) (fun e=>yg e) hu h;exact ⟨r,H',fun C=>by simp only [a6,aC];exact ad,af⟩
    ·exact h.elim
   ·exact h
 case store t a x =>
  split at h
  ·rename_i s ai;simp only [bN] at h;split at h
   ·obtain ⟨r,H',ad,af⟩:=DS (P:=P) (lo:=lo) ai h;exact ⟨r,H',fun C=>by simp only [a6,aC];exact ad,af⟩
   ·exact h.elim
  ·rename_i m ai;simp only [bN] at h;split at h
   ·obtain ⟨r,H',ad,af⟩:=DR (P:=P) (lo:=lo) (mode:=m+1) (by omega) ai h;exact ⟨r,H',fun C=>by simp only [a6,aC];exact ad,af⟩
   ·exact h.elim
  ·exact h
 case box e x =>
  split at h
  ·simp only [bN] at h;split at h
   ·obtain ⟨r,H',ad,af⟩:=DO h;exact ⟨r,H',fun C=>by simp only [a6,aC];exact ad,af⟩
   ·exact h.elim
  ·rename_i hm;simp only [bN] at h;split at h
   ·obtain ⟨r,H',ad,af⟩:=DN (mode:=mode) (fun e=>hm e) h;exact ⟨r,H',fun C=>by simp only [a6,aC];exact ad,af⟩
   ·exact h.elim
 case alloc t =>
  split at h
  ·split at h
   ·rename_i z bn;exact ⟨_,_,fun C=>by simp only [a6,aC,kA,bn,Option.map_some],h⟩
   ·exact h
  ·rename_i hm;split at h
   ·rename_i e bn hu;split at h
    ·rename_i s ai;refine ⟨_,_,fun C=>?_,h⟩;simp only [a6,aC];unfold kA;split
     ·exact absurd rfl hm
     ·simp only [bn,hu,ai,Option.map_some]
    ·exact h
   ·exact h
 case makeSlice t a b =>
  split at h
  ·rename_i Dk e hu;split at h
   ·rename_i s z bytes ai bn ag;split at h
    ·rename_i ak;simp only [Bool.and_eq_true,Nat.beq_eq,Nat.blt_eq,Nat.ble_eq] at ak;obtain ⟨⟨a',bm⟩,bt⟩:=ak;simp only [bN] at h;split at h
     ·unfold zR at h;split at h
      ·obtain ⟨d1,d2,d3,h⟩:=h;refine ⟨_,_,fun C=>?_,h⟩;simp only [a6,aC,jI];rw [if_pos ⟨d1,d2⟩];simp only [iX,hu,ai,bn,ag];rw [if_pos ⟨a',bm,fZ d3 bt⟩];rfl
      ·exact h.elim
     ·exact h.elim
    ·exact h
   ·exact h
  ·rename_i Dk m e hu;split at h
   ·rename_i s z bytes ai bn ag;split at h
    ·rename_i ak;simp only [Bool.and_eq_true,Nat.beq_eq,Nat.blt_eq,Nat.ble_eq] at ak;obtain ⟨⟨a',bm⟩,bt⟩:=ak;simp only [bN] at h;split at h
     ·unfold zQ at h;split at h
      ·obtain ⟨d1,d2,d3,h⟩:=h;refine ⟨_,_,fun C=>?_,h⟩;simp only [a6,aC,jI];rw [if_pos ⟨by omega,by omega⟩,if_pos ⟨d1,d2⟩];simp only [iX,hu,ai,bn,ag];rw [if_pos ⟨a',bm,fZ d3 bt⟩];rfl
      ·exact h.elim
     ·exact h.elim
    ·exact h
   ·exact h
  ·exact h
 case call c =>
  split at h
  ·rename_i b ag;split at h
   ·split at h
    ·rename_i ai;simp only [bN] at h;split at h
     ·unfold zM at h;split at h
      ·exact ⟨_,_,fun C=>by simp only [a6,aC,ag,en,g8,ai],h⟩
      ·exact ⟨_,_,fun C=>by simp only [a6,aC,ag,en,g8,ai],h⟩
      ·exact h.elim
     ·exact h.elim
    ·split at h
     ·rename_i n e hu;simp only [bN] at h;split at h
      ·exact h.elim
      ·exact h.elim
      ·exact h.elim
      ·rename_i x b9 cj Df;refine ⟨_,_,fun C=>?_,h⟩;simp only [a6,aC,ag,en,g8,hu]
       try (cases x <;> first | rfl | exact absurd rfl (b9 _ _ _) | exact absurd rfl (cj _ _ _ _ _) | exact absurd rfl (Df _))
      ·exact h.elim
     ·rename_i _ _ hu;simp only [bN] at h;split at h
      ·unfold zL at h;split at h
       ·obtain ⟨es,clock,ad,h⟩:=h;exact ⟨_,_,fun C=>by simp only [a6,aC,ag,en,g8,hu,ad],h⟩
       ·exact h.elim
      ·exact h.elim
     ·exact h
   ·split at h
    ·rename_i x al;simp only [Option.bind_eq_some_iff] at al;obtain ⟨t,aw,al⟩:=al;obtain ⟨dW,hm,ho⟩:=pw al;simp only [bN] at h;split at h
     ·unfold zN at h;split at h
      ·split at h
       ·rename_i bF;have bF:=Nat.le_of_ble_eq_true bF;obtain ⟨ad,es,clock,af,r,aH,h⟩:=h;split at h
        ·exact ⟨_,_,fun C=>by simp only [a6,aC,ag,en,hr,aw,Option.bind_some,hm,ho _ ad,bF,if_true,af,aH],h⟩
        ·exact ⟨_,_,fun C=>by simp only [a6,aC,ag,en,hr,aw,Option.bind_some,hm,ho _ ad,bF,if_true,af,aH],h⟩
       ·exact h.elim
      ·exact h.elim
     ·exact h.elim
    ·exact h
   ·simp only [bN] at h;split at h
    ·obtain ⟨n,ad,af⟩:=y5 _ _ h;exact ⟨_,_,fun C=>by simp only [a6,aC,ag,en,nq,ad,Option.map_some],af⟩
    ·exact h.elim
   ·simp only [bN] at h;split at h
    ·obtain ⟨n,ad,af⟩:=y4 _ _ h;exact ⟨_,_,fun C=>by simp only [a6,aC,ag,en,np,ad,Option.map_some],af⟩
    ·exact h.elim
   ·split at h
    ·rename_i t de g0;split at h
     ·rename_i e mQ hu;split at h
      ·rename_i s z bytes ai bn x8;split at h
       ·rename_i ak;simp only [Bool.and_eq_true,Nat.beq_eq,Nat.blt_eq,Nat.ble_eq] at ak;obtain ⟨⟨a',bm⟩,bt⟩:=ak;obtain rfl:t=de:=Nat.eq_of_beq_eq_true mQ;(have oI:c.argTypes=#[t,t]:=by rw [←Array.toArray_toList (xs:=c.argTypes),g0]);simp only [bN] at h;split at h
        ·obtain ⟨r,H',ad,af⟩:=DM hu ai bn x8 a' bm bt h;exact ⟨r,H',fun C=>by simp only [a6,aC,ag,en,oI];exact ad,af⟩
        ·exact h.elim
       ·rename_i ak hm;simp only [Bool.and_eq_true,Nat.beq_eq,Nat.blt_eq,Nat.ble_eq] at ak;obtain ⟨⟨a',bm⟩,bt⟩:=ak;obtain rfl:t=de:=Nat.eq_of_beq_eq_true mQ;(have oI:c.argTypes=#[t,t]:=by rw [←Array.toArray_toList (xs:=c.argTypes),g0]);simp only [bN] at h;split at h
        ·obtain ⟨r,H',ad,af⟩:=DL (lo:=lo) hu ai bn x8 a' bm bt h;refine ⟨r,H',fun C=>?_,af⟩;simp only [a6,aC,ag,oI]
         first
         | exact ad
         | (split
            ·exact absurd rfl hm
            ·exact ad)
        ·exact h.elim
       ·exact h
      ·exact h
     ·exact h
    ·exact h
   ·exact h
  ·exact h.elim
  ·exact h
 case makeMap t r =>
  split at h
  ·rename_i _ _ hu;simp only [bN] at h;exact ⟨_,_,fun C=>by simp only [a6,aC,kD,hu],h⟩
  ·exact h
 case mapUpdate t m k v =>
  split at h
  ·rename_i x al;obtain ⟨dW,hm,ho⟩:=pw al;simp only [bN] at h;split at h
   ·unfold zP at h;split at h
    ·split at h
     ·rename_i bF;have bF:=Nat.le_of_ble_eq_true bF;obtain ⟨ad,es,clock,af,r,aH,h⟩:=h;split at h
      ·exact ⟨_,_,fun C=>by simp only [a6,aC,iN,hm,ho _ ad,bF,if_true,af,aH],h⟩
      ·exact ⟨_,_,fun C=>by simp only [a6,aC,iN,hm,ho _ ad,bF,if_true,af,aH],h⟩
     ·exact h.elim
    ·exact h.elim
   ·exact h.elim
  ·exact h
 case lookup t m k ok =>
  split at h
  ·rename_i x al;obtain ⟨dW,hm,ho⟩:=pw al;simp only [bN] at h;split at h
   ·unfold zO at h;split at h
    ·obtain ⟨ad,es,clock,af,r,aH,h⟩:=h;split at h
     ·obtain ⟨e,he,h⟩:=h;cases ok
      ·exact ⟨_,_,fun C=>by simp only [a6,aC,h0,hm,ho _ ad,af,aH,Option.bind_some,he,Option.map_some];rfl,h⟩
      ·exact ⟨_,_,fun C=>by simp only [a6,aC,h0,hm,ho _ ad,af,aH,Option.bind_some,he,Option.map_some];rfl,h⟩
     ·obtain ⟨z,bn,h⟩:=h;cases ok
      ·exact ⟨_,_,fun C=>by simp only [a6,aC,h0,hm,ho _ ad,af,aH,Option.bind_none,bn,Option.map_some];rfl,h⟩
      ·exact ⟨_,_,fun C=>by simp only [a6,aC,h0,hm,ho _ ad,af,aH,Option.bind_none,bn,Option.map_some];rfl,h⟩
    ·exact h.elim
   ·exact h.elim
  ·exact h
 case range t m =>
  split at h
  ·rename_i _ _ hu;simp only [bN] at h;split at h
   ·unfold zS at h;split at h
    ·obtain ⟨es,clock,ad,h⟩:=h;exact ⟨_,_,fun C=>by simp only [a6,aC,kE,hu,ad],h⟩
    ·exact h.elim
   ·exact h.elim
  ·exact h
 case entry m =>
  simp only [bN] at h;split at h
  ·unfold zH at h;split at h
   ·obtain ⟨m,since,seen,clock,ga,es,e,ad,af,aH,bh,h⟩:=h;exact ⟨_,_,fun C=>by simp only [a6,aC,kC,ad,af,aH,bh,if_true],h⟩
   ·exact h.elim
  ·exact h.elim
 case pick c a b =>
  simp only [bN] at h;split at h
  ·rename_i c a b;refine pure (fun C=>by simp only [a6,aC]) (r:=match c with | true=>a | false=>b) (by cases c <;> simp [cv,aC,pJ]) ?_;cases c <;> exact h
  ·exact h.elim
 case build t parts =>
  have ar:∀ C,a6 P C lo o mode vs H=(cv P o vs).map (·,H):=fun C=>by simp only [a6,aC]
  split at h
  ·rename_i z fs bn hu;split at h
   ·rename_i bk dJ Ch;simp only [bN] at h;obtain ⟨c3,aW,aX⟩:=j8 h (y2 Ch);refine pure ar (r:=.agg c3) ?_ aX;simp only [cv,aC,kY,bn,hu,dJ,fq,aW,Option.map_some]
   ·exact h
  ·rename_i z len e bn hu;split at h
   ·rename_i s ai;simp only [bN] at h;obtain ⟨c3,aW,aX⟩:=j8 (place:=fun i=>some (i*s,s)) (ix:=parts.toList.map (·.1)) h (by simp);refine pure ar (r:=.agg c3) ?_ aX;simp only [cv,aC,kY,bn,hu,ai,fq,Option.bind_some,aW,Option.map_some]
   ·exact h
  ·exact h
 case buildSlice t len parts =>
  split at h
  ·rename_i e hu;split at h
   ·rename_i s z ai bn;split at h
    ·rename_i ak;simp only [Bool.and_eq_true,Nat.beq_eq,Nat.blt_eq,Nat.ble_eq] at ak;obtain ⟨⟨a',bm⟩,bt⟩:=ak;simp only [bN] at h;obtain ⟨c3,aW,aX⟩:=j8 (place:=fun i=>some (i*s,s)) (ix:=parts.toList.map (·.1)) h (by simp);refine pure (fun C=>by simp only [a6,aC]) (r:=.ax c3 len (.uniq s)) ?_ aX;simp only [cv,aC,ic,hu,ai,bn,fq];rw [if_pos ⟨bm,a',bt⟩,aW];rfl
    ·rename_i ak hm;simp only [Bool.and_eq_true,Nat.beq_eq,Nat.blt_eq,Nat.ble_eq] at ak;obtain ⟨⟨a',bm⟩,bt⟩:=ak;simp only [bN] at h;obtain ⟨c3,aW,aX⟩:=j8 (place:=fun i=>some (i*s,s)) (ix:=parts.toList.map (·.1)) h (by simp);refine ⟨_,_,fun C=>?_,aX⟩;have q:ic P t len (fq parts.toList vs)=some (c3,s):=by
      simp only [ic,hu,ai,bn,fq];rw [if_pos ⟨bm,a',bt⟩,aW];rfl
     simp only [a6,aC]
     first
     | (rw [q];rfl)
     | (split
        ·exact absurd rfl hm
        ·rw [q];rfl)
    ·exact h
   ·exact h
  ·exact h
 case nilCheck x =>
  simp only [bN] at h;split at h
  ·exact pure (fun C=>by simp only [a6,aC]) (by simp only [cv,aC,nv]) h
  ·exact pure (fun C=>by simp only [a6,aC]) (by simp only [cv,aC,nv]) h
  ·exact h.elim
 case binOp op t x y h8 =>
  have ar:∀ C,a6 P C lo o mode vs H=(cv P o vs).map (·,H):=fun C=>by simp only [a6,aC]
  split at h
  ·rename_i aP hu;simp only [bN] at h;split at h
   ·split at h
    ·rename_i av;obtain ⟨v,ad,af⟩:=A2 (P:=P) (t:=t) (Ek av) h;exact pure ar (by simp only [cv,aC,aP,fW,ad]) af
    ·exact h.elim
   ·exact h.elim
  ·rename_i aP hu;split at h
   ·simp only [bN] at h;split at h
    ·exact pure ar (by simp only [cv,aC,aP,fW,fe,hu]) h
    ·exact h.elim
   ·simp only [bN] at h;split at h
    ·exact pure ar (by simp only [cv,aC,aP,fW,fe,hu]) h
    ·exact h.elim
   ·exact h
  ·exact h
 case unOp op t x =>
  have ar:∀ C,a6 P C lo o mode vs H=(cv P o vs).map (·,H):=fun C=>by simp only [a6,aC]
  simp only [bN] at h;split at h
  ·split at h
   ·exact pure ar (by simp only [cv,aC,eT,j2]) h
   ·exact h.elim
  ·split at h
   ·exact pure ar (by simp only [cv,aC,eT,j2]) h
   ·exact h.elim
  ·exact h.elim
 case convert s d x =>
  have ar:∀ C,a6 P C lo o mode vs H=(cv P o vs).map (·,H):=fun C=>by simp only [a6,aC]
  split at h
  ·rename_i ad af;simp only [bN] at h;split at h
   ·exact pure ar (by simp only [cv,aC,eT,kZ,ad,af]) h
   ·exact h.elim
  ·exact h
 case makeFunc fn first captured =>
  have ar:∀ C,a6 P C lo o mode vs H=(cv P o vs).map (·,H):=fun C=>by simp only [a6,aC]
  split at h
  ·simp only [bN] at h;split at h
   ·rename_i ad;exact pure ar (by simp only [cv,aC,l8];rw [if_pos (Nat.eq_of_beq_eq_true ad)]) h
   ·exact h.elim
  ·exact h
 case slice t x l bJ m =>
  have ar:∀ C,a6 P C lo o mode vs H=(cv P o vs).map (·,H):=fun C=>by simp only [a6,aC]
  split at h
  ·rename_i e hu;split at h
   ·rename_i s ai;simp only [bN] at h;split at h
    ·obtain ⟨r,ad,af⟩:=DQ hu ai h;exact pure ar (by simp only [cv,aC,ad]) af
    ·exact h.elim
   ·exact h
  ·exact h
 case fieldAddr t x f =>
  have ar:∀ C,a6 P C lo o mode vs H=(cv P o vs).map (·,H):=fun C=>by simp only [a6,aC]
  split at h
  ·rename_i fs hu;split at h
   ·rename_i s off aN;simp only [Option.bind_eq_some_iff,Option.map_eq_some_iff,Prod.mk.injEq] at aN;obtain ⟨g,aK,aI,ai,rfl,rfl⟩:=aN;simp only [bN] at h;split at h
    ·unfold zI at h;split at h
     ·exact pure ar (by simp [cv,aC,eT,jf,hu,aK,ai]) h
     ·exact pure ar (by simp [cv,aC,eT,jf,hu,aK,ai]) h
     ·exact h.elim
    ·exact h.elim
   ·exact h
  ·exact h
 case field t x f =>
  have ar:∀ C,a6 P C lo o mode vs H=(cv P o vs).map (·,H):=fun C=>by simp only [a6,aC]
  split at h
  ·rename_i fs hu;split at h
   ·rename_i a off aN;simp only [Option.bind_eq_some_iff,Option.map_eq_some_iff,Prod.mk.injEq] at aN;obtain ⟨g,aK,aO,cu,rfl,rfl⟩:=aN;simp only [bN] at h;split at h
    ·obtain ⟨v,ad,af⟩:=Dz cu h;exact pure ar (by simp only [cv,aC,eT,mA,hu,aK,Option.bind_some,ad,Option.map_some]) af
    ·exact h.elim
   ·exact h
  ·exact h
 case indexAddr t x i =>
  have ar:∀ C,a6 P C lo o mode vs H=(cv P o vs).map (·,H):=fun C=>by simp only [a6,aC]
  split at h
  ·rename_i e hu;split at h
   ·rename_i s ai;simp only [bN] at h;split at h
    ·unfold zJ at h;split at h
     ·split at h
      ·exact pure ar (by simp [cv,aC,fW,hK,hu,ai,gQ,h.1]) h.2
      ·exact pure ar (by simp [cv,aC,fW,hK,hu,ai,gQ,h.1]) h.2
      ·exact h.elim
     ·exact h.elim
    ·exact h.elim
   ·exact h
  ·rename_i len e hu;split at h
   ·rename_i s ai;simp only [bN] at h;split at h
    ·unfold zK at h;split at h
     ·split at h
      ·exact pure ar (by simp [cv,aC,fW,hK,hu,ai,gQ,h.1]) h.2
      ·exact pure ar (by simp [cv,aC,fW,hK,hu,ai,gQ,h.1]) h.2
      ·exact h.elim
     ·exact h.elim
    ·exact h.elim
   ·exact h
  ·exact h
 case extract x i =>
  have ar:∀ C,a6 P C lo o mode vs H=(cv P o vs).map (·,H):=fun C=>by simp only [a6,aC]
  simp only [bN] at h;split at h
  ·obtain ⟨v,ae,h⟩:=e' h;rw [jY] at h;exact pure ar (by simp only [cv,aC,eT,mz,ae,Option.map_some]) h
  ·exact h.elim
end
end Go.Proofs.YtfakoboiahbhaaaGreat.Ab


namespace Go.Proofs.YtfakoboiahbhaaaGreat.Ab
open Go
noncomputable section
def n2 (P:Program) (mode lo:Nat) (b1:eZ) (args:List I) (H:List au) (v:I) (H':List au):Prop:=∃ C,dn P C∧eP C lo mode b1 args H=some (v,H')
def k5:List I→List I→(List I→Prop)→Prop
 | [],l,K=>K l
 | h::t,l,K=>k5 t l fun r=>K (h::r)
theorem k6:∀ (a b:List I) (K:List I→Prop),k5 a b K=K (a++b)
 | [],b,K=>rfl
 | h::t,b,K=>by rw [k5,k6 t b];rfl
def xO (v:I) (K:I→Prop):Prop:=match v with
 | .ax c n .full=>K (.ax c n .shared)
 | .agg cs=>K (.agg (cs.map I.gS))
 | .tuple cs=>K (.tuple (cs.map I.gS))
 | v=>K v
theorem Bf (v:I) (K:I→Prop):xO v K=K v.cm:=by
 cases v with
 | ax c n k=>cases k <;> rfl
 | _=>rfl
def mH:List I→(List I→Prop)→Prop
 | [],K=>K []
 | h::t,K=>xO h fun a4=>mH t fun iT=>K (a4::iT)
theorem og:∀ (l:List I) (K:List I→Prop),mH l K=K (l.map I.cm)
 | [],K=>rfl
 | h::t,K=>by rw [mH,Bf,og t];rfl
def mE (P:Program) (lo:Nat) (draw:Bool) (mode:Nat) (acc:dM) (vs:List I) (H:List au) (K:dM→I→List au→Prop):Prop:=match vs with
 | f::args=>match f with
   | .func k first cap=>k5 args cap fun r=>k5 first r fun as=>match mode with
     | 3=>as.all (cl 8)=true∧mH as fun gn=>∃ v,kW P k gn v∧(match draw with
       | true=>(∀ p∈acc,p.1=k→p.2.1=gn→p.2.2=v)∧K ((k,gn,v)::acc) v.cm H
       | false=>K acc v.cm H)
     | 6=>match draw with
       | true=>(as.map (h6 H)).all (cl 8)=true∧∃ gn,(as.map (h6 H)).map I.cm=gn∧∃ v,f' v=true∧kW P k gn v∧(∀ p∈acc,p.1=k→p.2.1=gn→p.2.2=v)∧K ((k,gn,v)::acc) v.cm H
       | false=>∃ v H',n2 P 6 lo (.fn k) as H v H'∧K acc v H'
     | mode=>match draw with
       | true=>False
       | false=>∃ v H',n2 P mode lo (.fn k) as H v H'∧K acc v H'
   | .yield l=>match draw with
     | true=>False
     | false=>∃ v H',n2 P mode lo (.yield l) args H v H'∧K acc v H'
   | _=>False
 | []=>False
def nF (P:Program) (lo:Nat) (draw:Bool) (k:hI) (acc:dM) (vs:List I) (H:List au) (K:dM→I→List au→Prop):Prop:=match k with
 | .call mode=>mE P lo draw mode acc vs H K
 | k=>bN P lo k vs H (K acc)
def nh (ip:Option Nat) (T:List I) (v:I) (K:List I→Prop):Prop:=match ip with
 | none=>K T
 | some t=>jX v fun v=>iQ T t v K
def oz (g:Option (Nat×Bool)) (T:List I) (skip run:Prop):Prop:=match g with
 | none=>run
 | some (t,want)=>hh T t fun v=>match v with
   | .bool b=>(match want with
     | true=>(match b with | true=>run | false=>skip)
     | false=>(match b with | true=>skip | false=>run))
   | .tuple []=>skip
   | _=>False
def kS (P:Program) (lo:Nat) (draw:Bool) (dZ:df) (acc:dM) (T:List I) (H:List au) (K:dM→List I→List au→Prop):Prop :=
 oz dZ.guard T (mb T dZ.dst (.tuple []) fun bb=>K acc bb H) (f_ dZ.EW T fun vs gk=>nF P lo draw dZ.k acc vs H fun e2 v H'=>lr v fun v=>nh dZ.ip gk v fun eN=>mb eN dZ.dst v fun dH=>K e2 dH H')
def kJ (P:Program) (lo:Nat) (draw:Bool):List df→dM→List I→List au→(List I→List au→Prop)→Prop
 | [],_,T,H,K=>K T H
 | dZ::r,acc,T,H,K=>kS P lo draw dZ acc T H fun e2 bb H'=>match draw with
   | true=>kJ P lo draw r e2 bb H' K
   | false=>kJ P lo draw r [] bb H' K
def zc (it:Nat) (dst:Option Nat) (T:List I) (H:List au) (K:List I→List au→Prop):Prop:=hh T it fun v=>match v with
 | .ptr r 0=>∃ m since seen clock es,H[r]?=some (.iter m since seen clock)∧H[m]?=some (.map es clock)∧since≤clock∧(∀ e∈es,e.1<since) ∧
   ((∀ e∈es,e.1∈seen)→mb T dst (.tuple [.bool false]) fun bb=>K bb H) ∧
   ∀ e∈es,e.1 ∉ seen→mb T dst (.tuple [.bool true,e.2.1,e.2.2]) fun bb=>K bb (H.set r (.iter m since (seen++[e.1]) clock))
 | _=>False
inductive AL (f:List I→List au→(cC→List I→List au→Prop)→Prop) (T:List I) (H:List au) (Q:cC→List I→List au→Prop):Prop where
 | intro (hG:Nat→List I→List au→Prop) (m:Nat) (aT:hG m T H) (step:∀ m T H,hG m T H→f T H fun e bb H'=>match e with
   | .normal=>∃ g3,g3<m∧hG g3 bb H'
   | e=>Q e bb H')
def pv (k:Option (List Bool)) (T:List I) (K:List I→Prop):Prop:=match k with
 | some k=>kn k T K
 | none=>K T
theorem CJ (k:Option (List Bool)) (T:List I) (K:List I→Prop):pv k T K=K (match k with | some k=>eL k T | none=>T):=by
 cases k with
 | none=>rfl
 | some k=>exact yI k T K
def nt:List I→(List I→Prop)→Prop
 | [],K=>K []
 | h::t,K=>nt t fun iT=>K (h::iT)
theorem y':∀ (T:List I) (K:List I→Prop),nt T K=K T
 | [],K=>rfl
 | h::t,K=>by rw [nt,y' t]
def nH (P:Program) (A:c') (fn:FuncId) (lo:Nat) (rl:Option Nat) (f:I) (bk:List Nat) (as bX:Code) (T:List I) (H:List au) (Q:cC→List I→List au→Prop):Prop:=match f with
 | .func k first cap=>inLoop H rl=true∧∃ r H' st cB fn' bb zl gn xC ih,Sem P (.fn k) (first++[.yield H.length]++cap) (H++[.loop .ready none fn (T.map I.view) bk as bX A]) lo r H' ∧
   H'[H.length]?=some (.loop st cB fn' bb zl gn xC ih)∧st≠.busy∧(match cB with
    | none=>Q .normal (T.map I.settle) (H'.set H.length .dead)
    | some .ret=>Q .ret (T.map I.settle) (H'.set H.length .dead)
    | some (.exit id)=>Q (.exit id) (T.map I.settle) (H'.set H.length .dead)
    | _=>False)
 | _=>False
def dB (P:Program) (A:c') (fn:FuncId) (lo:Nat) (rl:Option Nat):eM→List I→List au→(cC→List I→List au→Prop)→Prop
 | .skip,T,H,Q=>Q .normal T H
 | .jO draw l,T,H,Q=>kJ P lo draw l [] T H (Q .normal)
 | .seq a b,T,H,Q=>dB P A fn lo rl a T H fun e bb H'=>match e with
   | .normal=>dB P A fn lo rl b bb H' Q
   | e=>Q e bb H'
 | .cond c a b,T,H,Q=>match c with
   | .sl t=>hh T t fun v=>(match v with
     | .bool x=>(match x with | true=>dB P A fn lo rl a T H Q | false=>dB P A fn lo rl b T H Q)
     | .dg=>dB P A fn lo rl a T H Q∧dB P A fn lo rl b T H Q
     | _=>False)
   | .ij v=>(match v with
     | .bool x=>(match x with | true=>dB P A fn lo rl a T H Q | false=>dB P A fn lo rl b T H Q)
     | .dg=>dB P A fn lo rl a T H Q∧dB P A fn lo rl b T H Q
     | _=>False)
   | _=>False
 | .block id c,T,H,Q=>dB P A fn lo rl c T H fun e bb H'=>match e with
   | .exit bA=>(match Nat.beq bA id with | true=>Q .normal bb H' | false=>Q (.exit bA) bb H')
   | e=>Q e bb H'
 | .loop cG c,T,H,Q=>pv cG T fun T=>AL (fun T H Q=>nt T fun T=>dB P A fn lo rl c T H fun e bb H'=>match e with
   | .normal=>pv cG bb fun bb=>Q .normal bb H'
   | e=>Q e bb H') T H Q
 | .exit id,T,H,Q=>Q (.exit id) T H
 | .ret,T,H,Q=>Q .ret T H
 | .zT f bk as bX,T,H,Q=>match f with
   | .sl t=>hh T t fun v=>nH P A fn lo rl v bk as bX T H Q
   | .ij v=>nH P A fn lo rl v bk as bX T H Q
   | _=>False
 | .zb it dst l,T,H,Q=>zc it dst T H fun bb H'=>kJ P lo false l [] bb H' (Q .normal)
def lS (o:Oper) (mode:Nat):Option Nat:=match mode with
 | 0=>none
 | 4=>none
 | _=>match o.op with
   | .move (.tmp t) | .assign (.tmp t)=>some t
   | _=>none
def me (P:Program) (ops:Array Oper) (o:Oper) (an:cq):Option df:=match o.guard with
 | none=>some ⟨o.dst,hv (dE o) an.cx (opsOf o),none,lS o an.mode,g' P o an.mode⟩
 | some (j,want)=>match (ops[j]?).bind (·.dst) with
   | some d=>some ⟨o.dst,hv (dE o) an.cx (opsOf o),some (d,want),lS o an.mode,g' P o an.mode⟩
   | none=>none
def g2 (P:Program) (ops:Array Oper):List Oper→List cq→Option (List df)
 | [],_=>some []
 | o::r,as=>match me P ops o (as.headD {}),g2 P ops r as.tail with
   | some dZ,some l=>some (dZ::l)
   | _,_=>none
def pA (P:Program) (ops:Array Oper) (draw:Bool) (as:List cq):Option eM:=match draw,ops.toList with
 | false,o::rest=>(match o.op,o.guard with
   | .next (.tmp it) false,none=>(g2 P ops rest as.tail).map (.zb it o.dst)
   | _,_=>(g2 P ops (o::rest) as).map (.jO false))
 | d,l=>(g2 P ops l as).map (.jO d)
def nC (x:Operand):ia:=match x with
 | .tmp t=>.sl t
 | x=>.ij (aA [] x)
def dK (P:Program) (A:c'):Code→Nat→Option eM
 | .skip,_=>some .skip
 | .region id ops draw,_=>match A.iG with
   | []=>pA P ops draw (A.ops.getD id [])
   | _=>none
 | .seq a b,a1=>match dK P A a a1,dK P A b a1 with
   | some x,some y=>some (.seq x y)
   | _,_=>none
 | .cond c a b,a1=>match dK P A a a1,dK P A b a1 with
   | some x,some y=>some (.cond (nC c) x y)
   | _,_=>none
 | .block id c,_=>(dK P A c id).map (.block id)
 | .loop c,a1=>(dK P A c a1).map (.loop (ld a1 A.hW))
 | .exit id,_=>some (.exit id)
 | .ret,_=>some .ret
 | .scope c,a1=>dK P A c a1
 | .label _,_=>some .skip
 | .rangeFunc f bk as bX,_=>some (.zT (nC f) bk.toList as bX)
 | _,_=>none
end
section
variable {P:Program}
theorem yE (o:Oper) (mode:Nat) (T:List I) (v:I) (K:List I→Prop):nh (lS o mode) T v K=K (inPlace o mode T v):=by
 by_cases aT:mode=0
 ·subst aT;rfl
 by_cases bh:mode=4
 ·subst bh;rfl
 have e1:lS o mode=(match o.op with | .move (.tmp t) | .assign (.tmp t)=>some t | _=>none):=by
  unfold lS;split
  ·exact absurd rfl aT
  ·exact absurd rfl bh
  ·rfl
 have cd:inPlace o mode T v=(match o.op with | .move (.tmp t) | .assign (.tmp t)=>gK T t v.view | _=>T):=by
  unfold inPlace;split
  ·exact absurd rfl aT
  ·exact absurd rfl bh
  ·rfl
 rw [e1,cd];cases o.op <;> try rfl
 case move x=>cases x <;> first | rfl | (simp only [nh,jY,jS])
 case assign x=>cases x <;> first | rfl | (simp only [nh,jY,jS])
theorem AD {lo:Nat} {draw:Bool} {ops:Array Oper} {o:Oper} {an:cq} {dZ:df} (aj:me P ops o an=some dZ) {acc:dM} {T:List I} {H:List au} {K:dM→List I→List au→Prop}
  (h:kS P lo draw dZ acc T H K) :
  (eo ops o T=some false∧K acc (put T o.dst (.tuple [])) H) ∨
  (eo ops o T=some true∧nF P lo draw (g' P o an.mode) acc (fm (dE o) (rd T an.cx (opsOf o)).1) H fun e2 v H'=>K e2 (put (inPlace o an.mode (rd T an.cx (opsOf o)).2 v) o.dst v) H'):=by
 unfold me at aj;split at aj
 ·rename_i aK;cases aj;simp only [kS,oz,iO,mT,yE,pM] at h;exact .inr ⟨by simp [eo,aK],h⟩
 ·rename_i j want aK;split at aj
  ·rename_i d a2;cases aj;simp only [kS,oz,iO,mT,yE,pM,im] at h;(have hw:∀ b,c1 T d=.bool b→eo ops o T=some (b == want):=fun b ag=>by simp [eo,aK,a2,ag]);split at h
   ·rename_i b ag;have hw:=hw b ag;cases want <;> cases b <;> simp only at h
    ·exact .inr ⟨hw,h⟩
    ·exact .inl ⟨hw,h⟩
    ·exact .inl ⟨hw,h⟩
    ·exact .inr ⟨hw,h⟩
   ·rename_i ag;exact .inl ⟨by simp [eo,aK,a2,ag],h⟩
   ·exact h.elim
  ·cases aj
theorem iS {C:cc} {lo:Nat} {ops:Array Oper} {o:Oper} {an:cq} {T:List I} {H:List au} {v:I} {H':List au} (hw:eo ops o T=some true)
  (h:a6 P C lo o an.mode (fm (dE o) (rd T an.cx (opsOf o)).1) H=some (v,H')):dL P C lo ops o an ⟨T,H⟩=some ⟨put (inPlace o an.mode (rd T an.cx (opsOf o)).2 v) o.dst v,H'⟩:=by
 simp only [dL,hw,Ab.execOp];unfold fm at h;cases aq:dE o <;> rw [aq] at h <;> simp only at h ⊢ <;> rw [h] <;> rfl
theorem As {C:cc} {lo:Nat} {ops:Array Oper} {o:Oper} {an:cq} {T:List I} {H:List au} (hw:eo ops o T=some false):dL P C lo ops o an ⟨T,H⟩=some ⟨put T o.dst (.tuple []),H⟩:=by
 simp only [dL,hw]
theorem zD {o:Oper} {mode y_:Nat} (h:g' P o mode=.call y_):y_=mode∧∃ c f,o.op=.call c∧c.callee=.value f:=by
 cases aC:o.op
 case call c =>
  simp only [g',aC] at h;cases ak:c.callee with
  | value f=>simp only [ak] at h;cases h;exact ⟨rfl,c,f,rfl,ak⟩
  | invoke x n=>simp only [ak] at h;cases h
  | builtin b =>
    simp only [ak] at h;repeat' (first | contradiction | split at h)
 all_goals simp only [g',aC] at h
 all_goals (try unfold nD at h)
 all_goals (repeat' (first | contradiction | split at h))
theorem zF {lo:Nat} {draw:Bool} {k:hI} {acc:dM} {vs:List I} {H:List au} {K:dM→I→List au→Prop} (h:nF P lo draw k acc vs H K) :
  (∃ mode,k=.call mode∧mE P lo draw mode acc vs H K)∨bN P lo k vs H (K acc):=by
 unfold nF at h;split at h
 ·exact .inl ⟨_,rfl,h⟩
 ·exact .inr h
theorem l7 {C:cc} {lo mode:Nat} {k:FuncId} {first cap args:List I} {H:List au}:hq C lo mode H (.func k first cap::args)=eP C lo mode (.fn k) (first++args++cap) H:=rfl
theorem zn {C:cc} {acc:dM} (cI:j0 C acc) {lo:Nat} {k:FuncId} {as:List I} {v:I} (aD:as.all (cl 8)=true) (hm:(k,as.map I.cm,v)∈acc) (H:List au) :
  eP C lo 3 (.fn k) as H=some (v.cm,H):=by
 obtain ⟨r,a3,ad,af⟩:=cI _ hm;simp only [eP,aD,ad,Option.bind_some,af,Option.map_some]
theorem DA {C:cc} {acc:dM} (cI:j0 C acc) {lo:Nat} {k:FuncId} {as:List I} {v:I} (H:List au) (aD:(as.map (h6 H)).all (cl 8)=true) (ai:f' v=true) (hm:(k,(as.map (h6 H)).map I.cm,v)∈acc) :
  eP C lo 6 (.fn k) as H=some (v.cm,H):=by
 obtain ⟨r,a3,ad,af⟩:=cI _ hm;simp only [eP,aD,ad,Option.bind_some,af,ai]
theorem Fb {lo:Nat} {ops:Array Oper} {o:Oper} {an:cq} {dZ:df} (aj:me P ops o an=some dZ) {acc:dM} (iq:j1 P acc) {T:List I} {H:List au} {K:dM→List I→List au→Prop}
  (h:kS P lo true dZ acc T H K):∃ e2 bb H',j1 P e2∧(∀ p∈acc,p∈e2)∧(∀ C,j0 C e2→dL P C lo ops o an ⟨T,H⟩=some ⟨bb,H'⟩)∧K e2 bb H':=by
 rcases AD aj h with ⟨hw,av⟩ | ⟨hw,av⟩
 ·exact ⟨acc,_,_,iq,fun _ h=>h,fun C _=>As hw,av⟩
 ·rcases zF av with ⟨mode,hm,av⟩ | av
  ·obtain ⟨rfl,c,f,aC,ak⟩:=zD hm;generalize hV:fm (dE o) (rd T an.cx (opsOf o)).1=vs at av;(have ar:∀ C,a6 P C lo o an.mode vs H=hq C lo an.mode H vs:=fun C=>by simp only [a6,aC,ak]);unfold mE at av;split at av
   ·split at av
    ·(rename_i args _ k first cap);rw [k6,k6] at av;split at av
     ·rename_i ju;obtain ⟨aD,av⟩:=av;rw [og] at av;obtain ⟨v,lH,lq,av⟩:=av;refine ⟨_,_,_,⟨fun p aD=>?_,fun p aD q bl ad af=>?_⟩,fun p aD=>List.mem_cons_of_mem _ aD,fun C cI=>iS hw ?_,av⟩
      ·rcases List.mem_cons.1 aD with rfl | aD
       ·exact lH
       ·exact iq.1 p aD
      ·rcases List.mem_cons.1 aD with rfl | aD <;> rcases List.mem_cons.1 bl with rfl | bl
       ·rfl
       ·exact (lq q bl ad.symm af.symm).symm
       ·exact lq p aD ad af
       ·exact iq.2 p aD q bl ad af
      ·rw [hV,ar C,ju,l7,List.append_assoc];exact zn cI aD (List.mem_cons_self) H
     ·rename_i ju;obtain ⟨aD,gn,rfl,v,ai,lH,lq,av⟩:=av;refine ⟨_,_,_,⟨fun p aD=>?_,fun p aD q bl ad af=>?_⟩,fun p aD=>List.mem_cons_of_mem _ aD,fun C cI=>iS hw ?_,av⟩
      ·rcases List.mem_cons.1 aD with rfl | aD
       ·exact lH
       ·exact iq.1 p aD
      ·rcases List.mem_cons.1 aD with rfl | aD <;> rcases List.mem_cons.1 bl with rfl | bl
       ·rfl
       ·exact (lq q bl ad.symm af.symm).symm
       ·exact lq p aD ad af
       ·exact iq.2 p aD q bl ad af
      ·rw [hV,ar C,ju,l7,List.append_assoc];exact DA cI H aD ai (List.mem_cons_self)
     ·exact av.elim
    ·exact av.elim
    ·exact av.elim
   ·exact av.elim
  ·obtain ⟨v,H',ad,af⟩:=zE av;exact ⟨acc,_,_,iq,fun _ h=>h,fun C _=>iS hw (ad C),af⟩
theorem Fc {lo:Nat} {ops:Array Oper} {o:Oper} {an:cq} {dZ:df} (aj:me P ops o an=some dZ) {acc:dM} {T:List I} {H:List au} {K:dM→List I→List au→Prop}
  (h:kS P lo false dZ acc T H K):ib P lo ops o an ⟨T,H⟩ fun aI=>K acc aI.T aI.H:=by
 rcases AD aj h with ⟨hw,av⟩ | ⟨hw,av⟩
 ·exact .inl ⟨_,_,xM,As hw,av⟩
 ·rcases zF av with ⟨mode,hm,av⟩ | av
  ·obtain ⟨rfl,c,f,aC,ak⟩:=zD hm;generalize hV:fm (dE o) (rd T an.cx (opsOf o)).1=vs at av;(have ar:∀ C,a6 P C lo o an.mode vs H=hq C lo an.mode H vs:=fun C=>by simp only [a6,aC,ak]);unfold mE at av;split at av
   ·split at av
    ·(rename_i args _ k first cap);rw [k6,k6] at av;split at av
     ·rename_i ju;obtain ⟨aD,av⟩:=av;rw [og] at av;obtain ⟨v,lH,av⟩:=av
      obtain ⟨C,bD,cI⟩:=xw (acc:=[(k,(first++(args++cap)).map I.cm,v)]) (P:=P) ⟨fun p aD=>by simp only [List.mem_singleton] at aD;subst aD;exact lH,fun p aD q bl _ _=>by
       simp only [List.mem_singleton] at aD bl;subst aD;subst bl;rfl⟩
      refine .inl ⟨C,_,bD,iS hw (v:=v.cm) (H':=H) ?_,av⟩;rw [hV,ar C,ju,l7,List.append_assoc];exact zn cI aD (List.mem_cons_self) H
     ·rename_i ju;obtain ⟨v,H',⟨C,bD,e4⟩,av⟩:=av;refine .inl ⟨C,_,bD,iS hw (v:=v) (H':=H') ?_,av⟩;rw [hV,ar C,ju,l7,List.append_assoc];exact e4
     ·obtain ⟨v,H',⟨C,bD,e4⟩,av⟩:=av;refine .inl ⟨C,_,bD,iS hw (v:=v) (H':=H') ?_,av⟩;rw [hV,ar C,l7,List.append_assoc];exact e4
    ·obtain ⟨v,H',⟨C,bD,e4⟩,av⟩:=av;refine .inl ⟨C,_,bD,iS hw (v:=v) (H':=H') ?_,av⟩;rw [hV,ar C];exact e4
    ·exact av.elim
   ·exact av.elim
  ·obtain ⟨v,H',ad,af⟩:=zE av;exact .inl ⟨_,_,xM,iS hw (ad _),af⟩
end
end Go.Proofs.YtfakoboiahbhaaaGreat.Ab


namespace Go.Proofs.YtfakoboiahbhaaaGreat.Ab
open Go
section
variable {P:Program}
theorem ib.mono {lo:Nat} {ops:Array Oper} {o:Oper} {an:cq} {s:a8} {K fc:a8→Prop} (h:ib P lo ops o an s K) (av:∀ s,K s→fc s):ib P lo ops o an s fc:=by
 rcases h with ⟨C,aI,ad,af,aH⟩ | ⟨it,r,m,since,seen,es,clock,aB,aF,aS,bp,bf,bg,cY,c4,dv⟩
 ·exact .inl ⟨C,aI,ad,af,av _ aH⟩
 ·exact .inr ⟨it,r,m,since,seen,es,clock,aB,aF,aS,bp,bf,bg,cY,fun h=>av _ (c4 h),fun e ad af=>av _ (dv e ad af)⟩
theorem zY {lo:Nat} {ops:Array Oper} {K fc:a8→Prop} (av:∀ s,K s→fc s):∀ {l:List Oper} {as:List cq} {s:a8},runN P lo ops l as s K→runN P lo ops l as s fc
 | [],_,s,h=>av s h
 | _::_,_,_,h=>ib.mono h fun _ a4=>zY av a4
theorem yS {f g:a8→(cC→a8→Prop)→Prop} (kc:∀ s Q cD,(∀ e s,Q e s→cD e s)→f s Q→g s cD) {Q cD:cC→a8→Prop} (bl:∀ e s,Q e s→cD e s):∀ {n:Nat} {s:a8},ft f n s Q→ft g n s cD
 | 0,s,h=>h
 | n+1,s,h=>kc s _ _ (fun e aI a4=>by
   cases e with
   | normal=>exact yS kc bl a4
   | ret=>exact bl _ _ a4
   | exit id=>exact bl _ _ a4) h
theorem kR {A:c'} {fn:FuncId} {lo:Nat} {rl:Option Nat}:∀ {c:Code} {a1:Nat} {s:a8} {Q cD:cC→a8→Prop},(∀ e s,Q e s→cD e s)→du P A fn lo rl c a1 s Q→du P A fn lo rl c a1 s cD:=by
 intro c
 induction c with
 | skip=>intro a1 s Q cD bl h;exact bl _ _ h
 | label l=>intro a1 s Q cD bl h;exact bl _ _ h
 | ret=>intro a1 s Q cD bl h;exact bl _ _ h
 | exit id=>intro a1 s Q cD bl h;exact bl _ _ h
 | goto l=>intro a1 s Q cD bl h;exact h
 | refuse y=>intro a1 s Q cD bl h;exact h
 | region id ops draw =>
   intro a1 s Q cD bl h;cases draw with
   | true=>obtain ⟨acc,aI,ad,af,aH⟩:=h;exact ⟨acc,aI,ad,af,bl _ _ aH⟩
   | false=>exact zY (fun s h=>bl _ _ h) h
 | seq a b e8 fl =>
   intro a1 s Q cD bl h;refine e8 (fun e aI a4=>?_) h;cases e with
   | normal=>exact fl bl a4
   | ret=>exact bl _ _ a4
   | exit id=>exact bl _ _ a4
 | cond c a b e8 fl =>
   intro a1 s Q cD bl h;rcases h with ⟨t,aw,h⟩ | ⟨aw,ad,af⟩
   ·refine .inl ⟨t,aw,?_⟩;cases t with
    | true=>exact e8 bl h
    | false=>exact fl bl h
   ·exact .inr ⟨aw,e8 bl ad,fl bl af⟩
 | block id c a9 =>
   intro a1 s Q cD bl h;refine a9 (fun e aI a4=>?_) h;cases e with
   | normal=>exact bl _ _ a4
   | ret=>exact bl _ _ a4
   | exit bA =>
     simp only at a4 ⊢;by_cases aE:bA=id
     ·simp only [aE,if_true] at a4 ⊢;exact bl _ _ a4
     ·simp only [aE,if_false] at a4 ⊢;exact bl _ _ a4
 | loop c a9 =>
   intro a1 s Q cD bl h;obtain ⟨n,h⟩:=h;refine ⟨n,?_⟩;refine yS ?_ bl h;intro s Q cD bl h;exact a9 bl h
 | scope c a9=>intro a1 s Q cD bl h;exact a9 bl h
 | rangeFunc f bk as bX _ _ =>
   intro a1 s Q cD bl h;obtain ⟨C,e,aI,ad,af,aH⟩:=h;exact ⟨C,e,aI,ad,af,bl _ _ aH⟩
theorem nB {lo:Nat} {ops:Array Oper}:∀ {l:List Oper} {as:List cq} {rl:List df} {acc:dM} {T:List I} {H:List au} {K:List I→List au→Prop},g2 P ops l as=some rl→kJ P lo false rl acc T H K →
  runN P lo ops l as ⟨T,H⟩ fun aI=>K aI.T aI.H
 | [],as,rl,acc,T,H,K,aq,h=>by simp only [g2,Option.some.injEq] at aq;subst aq;exact h
 | o::r,as,rl,acc,T,H,K,aq,h=>by
   simp only [g2] at aq;split at aq
   ·rename_i dZ l' ad af;simp only [Option.some.injEq] at aq;subst aq;exact ib.mono (Fc ad h) fun aI a4=>nB af a4
   ·cases aq
theorem Bk {C:cc} {lo:Nat} {ops:Array Oper} {o:Oper} {r:List Oper} {as:List cq} {s:a8}:eC P C lo ops (o::r) as s=(dL P C lo ops o (as.headD {}) s).bind (eC P C lo ops r as.tail):=by
 rw [eC];unfold dL;cases hw:eo ops o s.T with
 | none=>rfl
 | some b=>cases b <;> rfl
theorem zw {lo:Nat} {ops:Array Oper}:∀ {l:List Oper} {as:List cq} {rl:List df} {acc:dM} {T:List I} {H:List au} {K:List I→List au→Prop},g2 P ops l as=some rl→j1 P acc→kJ P lo true rl acc T H K →
  ∃ e2 bb H',j1 P e2∧(∀ p∈acc,p∈e2)∧(∀ C,j0 C e2→eC P C lo ops l as ⟨T,H⟩=some ⟨bb,H'⟩)∧K bb H'
 | [],as,rl,acc,T,H,K,aq,cu,h=>by simp only [g2,Option.some.injEq] at aq;subst aq;exact ⟨acc,T,H,cu,fun _ h=>h,fun _ _=>rfl,h⟩
 | o::r,as,rl,acc,T,H,K,aq,cu,h=>by
   simp only [g2] at aq;split at aq
   ·rename_i dZ l' ad af;simp only [Option.some.injEq] at aq;subst aq;obtain ⟨Fl,gk,H1,aB,aF,aS,bp⟩:=Fb ad cu h;obtain ⟨AU,eN,a3,br,cU,ff,n'⟩:=zw af aB bp;refine ⟨AU,eN,a3,br,fun p aD=>cU p (aF p aD),fun C cI=>?_,n'⟩;rw [Bk,aS C (fun p aD=>cI p (cU p aD)),Option.bind_some];exact ff C cI
   ·cases aq
theorem CN {A:c'} {fn:FuncId} {lo:Nat} {rl:Option Nat} {id:Nat} {ops:Array Oper} {draw:Bool} {a1:Nat} {rc:eM} (aM:A.iG=[]) (aq:pA P ops draw (A.ops.getD id [])=some rc)
  {T:List I} {H:List au} {Q:cC→List I→List au→Prop} (h:dB P A fn lo rl rc T H Q):du P A fn lo rl (.region id ops draw) a1 ⟨T,H⟩ fun e s=>Q e s.T s.H:=by
 have av:eS A.iG id ⟨T,H⟩=⟨T,H⟩:=by rw [aM];rfl
 have gen:∀ {d:Bool} {l:List Oper},ops.toList=l→draw=d→(g2 P ops l (A.ops.getD id [])).map (.jO d)=some rc→du P A fn lo rl (.region id ops draw) a1 ⟨T,H⟩ fun e s=>Q e s.T s.H:=fun {d l} lG a2 e7=>by
  clear aq;simp only [Option.map_eq_some_iff] at e7;obtain ⟨DW,e7,rfl⟩:=e7;subst a2;cases draw with
  | true =>
    obtain ⟨e2,bb,H',aB,_,aS,bp⟩:=zw e7 ⟨fun p aD=>by simp at aD,fun p aD=>by simp at aD⟩ h;exact ⟨e2,⟨bb,H'⟩,aB,fun C _ cI=>by rw [av,lG];exact aS C cI,bp⟩
  | false =>
    show runN P lo ops ops.toList _ (eS A.iG id ⟨T,H⟩) _;rw [av,lG];exact nB e7 h
 unfold pA at aq;split at aq
 ·rename_i o rest lG;split at aq
  ·rename_i it aC aK;simp only [Option.map_eq_some_iff] at aq;obtain ⟨DW,aq,rfl⟩:=aq;show runN P lo ops ops.toList _ (eS A.iG id ⟨T,H⟩) _;rw [av,lG];refine .inr ?_;simp only [dB,zc,im] at h;split at h
   ·rename_i r aj;obtain ⟨m,since,seen,clock,es,aB,aF,aS,bp,bf,bg⟩:=h;simp only [pM] at bf bg;exact ⟨.tmp it,r,m,since,seen,es,clock,aC,aK,aj,aB,aF,aS,bp,fun h=>nB aq (bf h),fun e ad af=>nB aq (bg e ad af)⟩
   ·exact h.elim
  ·exact gen lG rfl aq
 ·exact gen rfl rfl aq
theorem ft.more {f:a8→(cC→a8→Prop)→Prop} {Q:cC→a8→Prop} (aN:∀ s Q cD,(∀ e s,Q e s→cD e s)→f s Q→f s cD):∀ {n:Nat} {s:a8},ft f n s Q→ft f (n+1) s Q
 | 0,s,h=>h.elim
 | n+1,s,h=>aN _ _ _ (fun e aI a4=>by
    cases e with
    | normal=>exact ft.more aN a4
    | ret=>exact a4
    | exit id=>exact a4) h
theorem CQ {f:a8→(cC→a8→Prop)→Prop} {Q:cC→a8→Prop} (hG:Nat→a8→Prop) (step:∀ m s,hG m s→f s fun e aI=>match e with | .normal=>∃ g3,g3<m∧hG g3 aI | e=>Q e aI)
  (aN:∀ s Q cD,(∀ e s,Q e s→cD e s)→f s Q→f s cD):∀ (m:Nat) (s:a8),hG m s→ft f (m+1) s Q:=by
 intro m
 induction m using Nat.strongRecOn with
 | _ m a9 =>
   intro s h;refine aN _ _ _ (fun e aI a4=>?_) (step m s h);cases e with
   | normal =>
     obtain ⟨g3,hm,a4⟩:=a4
     have:∀ k,ft f (g3+1+k) aI Q:=fun k=>by
      induction k with
      | zero=>exact a9 g3 hm aI a4
      | succ k CD=>exact ft.more aN CD
     (have e:m=g3+1+(m-(g3+1)):=by omega);rw [e];exact this _
   | ret=>exact a4
   | exit id=>exact a4
theorem pB {A:c'} {fn:FuncId} {lo:Nat} {rl:Option Nat}:∀ {c:Code} {a1:Nat} {rc:eM} {T:List I} {H:List au} {Q:cC→List I→List au→Prop},dK P A c a1=some rc→dB P A fn lo rl rc T H Q →
  du P A fn lo rl c a1 ⟨T,H⟩ fun e s=>Q e s.T s.H:=by
 intro c
 induction c with
 | skip=>intro a1 rc T H Q aq h;simp only [dK,Option.some.injEq] at aq;subst aq;exact h
 | label l=>intro a1 rc T H Q aq h;simp only [dK,Option.some.injEq] at aq;subst aq;exact h
 | ret=>intro a1 rc T H Q aq h;simp only [dK,Option.some.injEq] at aq;subst aq;exact h
 | exit id=>intro a1 rc T H Q aq h;simp only [dK,Option.some.injEq] at aq;subst aq;exact h
 | goto l=>intro a1 rc T H Q aq h;simp [dK] at aq
 | refuse y=>intro a1 rc T H Q aq h;simp [dK] at aq
 | region id ops draw =>
   intro a1 rc T H Q aq h;simp only [dK] at aq;split at aq
   ·rename_i aM;exact CN aM aq h
   ·cases aq
 | seq a b e8 fl =>
   intro a1 rc T H Q aq h;simp only [dK] at aq;split at aq
   ·rename_i x y al aZ;simp only [Option.some.injEq] at aq;subst aq;show du P A fn lo rl a a1 ⟨T,H⟩ _;refine kR (fun e s a4=>?_) (e8 al h);cases e with
    | normal=>exact fl aZ a4
    | ret=>exact a4
    | exit id=>exact a4
   ·cases aq
 | cond c a b e8 fl =>
   intro a1 rc T H Q aq h;simp only [dK] at aq;split at aq
   ·rename_i x y al aZ;simp only [Option.some.injEq] at aq;subst aq
    have key:∀ v,aA T c=v→(match v with
      | .bool t=>(match t with | true=>dB P A fn lo rl x T H Q | false=>dB P A fn lo rl y T H Q)
      | .dg=>dB P A fn lo rl x T H Q∧dB P A fn lo rl y T H Q
      | _=>False)→du P A fn lo rl (.cond c a b) a1 ⟨T,H⟩ fun e s=>Q e s.T s.H:=fun v ae h=>by
     cases v with
     | bool t =>
       refine .inl ⟨t,ae,?_⟩;cases t with
       | true=>exact e8 al h
       | false=>exact fl aZ h
     | dg=>exact .inr ⟨ae,e8 al h.1,fl aZ h.2⟩
     | _=>exact h.elim
    cases c with
    | tmp t=>simp only [nC,dB,im] at h;exact key _ rfl h
    | const v=>exact key (aA [] (.const v)) rfl h
    | func f=>exact key (aA [] (.func f)) rfl h
    | global g=>exact key (aA [] (.global g)) rfl h
   ·cases aq
 | block id c a9 =>
   intro a1 rc T H Q aq h;simp only [dK,Option.map_eq_some_iff] at aq;obtain ⟨x,al,rfl⟩:=aq;show du P A fn lo rl c id ⟨T,H⟩ _;refine kR (fun e s a4=>?_) (a9 al h);cases e with
   | normal=>exact a4
   | ret=>exact a4
   | exit bA =>
     simp only at a4 ⊢;by_cases aE:bA=id
     ·subst aE;simp only [if_true];rw [Nat.beq_refl] at a4;exact a4
     ·simp only [aE,if_false]
      have:Nat.beq bA id=false:=by
       cases ag:Nat.beq bA id with
       | false=>rfl
       | true=>exact absurd (Nat.eq_of_beq_eq_true ag) aE
      rw [this] at a4;exact a4
 | loop c a9 =>
   intro a1 rc T H Q aq h;simp only [dK,Option.map_eq_some_iff] at aq;obtain ⟨x,al,rfl⟩:=aq;simp only [dB,CJ,y'] at h;obtain ⟨hG,m,hm,Cz⟩:=h;have lC:∀ s:a8,eS A.hW a1 s=⟨match ld a1 A.hW with | some k=>eL k s.T | none=>s.T,s.H⟩:=fun s=>by
    unfold eS;cases ld a1 A.hW <;> rfl
   refine ⟨m+1,CQ (f:=fun aI=>du P A fn lo rl c a1 (eS A.hW a1 aI)) (fun m s=>hG m (eS A.hW a1 s).T s.H) ?_ (fun s Q cD bl h=>kR bl h) m ⟨T,H⟩ (by rw [lC];exact hm)⟩;intro m s j_;rw [lC] at j_;have h:=a9 al (Cz m _ s.H j_);show du P A fn lo rl c a1 (eS A.hW a1 s) _;rw [lC];refine kR (fun e aI a4=>?_) h;cases e with
   | normal=>simp only at a4 ⊢;rw [lC];exact a4
   | ret=>exact a4
   | exit id=>exact a4
 | scope c a9=>intro a1 rc T H Q aq h;exact a9 aq h
 | rangeFunc f bk as bX _ _ =>
   intro a1 rc T H Q aq h;simp only [dK,Option.some.injEq] at aq;subst aq;have key:∀ v,aA T f=v→nH P A fn lo rl v bk.toList as bX T H Q→du P A fn lo rl (.rangeFunc f bk as bX) a1 ⟨T,H⟩ fun e s=>Q e s.T s.H:=fun v ae h=>by
    unfold nH at h;split at h
    ·(rename_i k first cap);obtain ⟨gY,r,H',st,cB,fn',bb,zl,gn,xC,ih,ai,aq,cF,bl⟩:=h;have fin:∀ (e:cC) (a3:List au),exec P A (kz (.fn k) (first++[.yield H.length]++cap) (H++[.loop .ready none fn (T.map I.view) bk.toList as bX A]) lo r H') fn lo 0 rl (.rangeFunc f bk as bX) a1 ⟨T,H⟩=some (e,⟨T.map I.settle,a3⟩)→Q e (T.map I.settle) a3 →
       du P A fn lo rl (.rangeFunc f bk as bX) a1 ⟨T,H⟩ fun e s=>Q e s.T s.H:=fun e a3 he bl=>⟨_,e,_,Dp ai,he,bl⟩
     have hex:∀ (e:cC),(match cB with | none=>some cC.normal | some .ret=>some .ret | some (.exit id)=>some (.exit id) | _=>none)=some e →
       exec P A (kz (.fn k) (first++[.yield H.length]++cap) (H++[.loop .ready none fn (T.map I.view) bk.toList as bX A]) lo r H') fn lo 0 rl (.rangeFunc f bk as bX) a1 ⟨T,H⟩=some (e,⟨T.map I.settle,H'.set H.length .dead⟩):=fun e he=>by
      simp only [exec,ae,gY,Dn,aq,cF,if_false];split at he <;> simp_all
     split at bl
     ·exact fin _ _ (hex .normal rfl) bl
     ·exact fin _ _ (hex .ret rfl) bl
     ·exact fin _ _ (hex (.exit _) rfl) bl
     ·exact bl.elim
    ·exact h.elim
   cases f with
   | tmp t=>simp only [nC,dB,im] at h;exact key _ rfl h
   | const v=>exact key (aA [] (.const v)) rfl h
   | func g=>exact key (aA [] (.func g)) rfl h
   | global g=>exact key (aA [] (.global g)) rfl h
end
end Go.Proofs.YtfakoboiahbhaaaGreat.Ab


namespace Go.Proofs.YtfakoboiahbhaaaGreat.Ab
open Go
inductive ja where
 | tmp (t:Nat) | cell (a:Nat) (g:eX)
def kr (g:eX) (cs:List I) (off:Nat):Option I:=match g with
 | .one=>(cs[off]?).map I.view
 | .str s=>if off+s≤cs.length then some (.agg (((cs.drop off).take s).map I.view)) else none
 | .arr s=>if off+s≤cs.length then some (.agg (((cs.drop off).take s).map I.view)) else none
theorem CM {P:Program} {t:TypeId} {g:eX} (h:gP P t=some g) (cs:List I) (off:Nat):ek P t cs off=kr g cs off:=by
 rcases n8 h with ⟨rfl,ad,d,af⟩ | ⟨s,af,ad⟩
 ·simp [ek,kr,ad,af]
 ·rcases af with ⟨rfl,af⟩ | ⟨rfl,af⟩ <;> simp [ek,kr,ad,af]
def n_ (H:List au) (g:eX):I→Option I
 | .ptr id off=>match H[id]? with
   | some (.cells l)=>kr g l off
   | some (.grow l _ _)=>kr g l off
   | _=>none
 | .bT cells=>kr g cells 0
 | _=>none
theorem A3 {P:Program} {t:TypeId} {g:eX} (h:gP P t=some g) (H:List au) (a:I):dI P H t a=n_ H g a:=by
 cases a <;> simp only [dI,n_,CM h] <;> rfl
noncomputable def jN (H:List au) (T:List I):List ja→Option (List I)
 | []=>some []
 | .tmp t::r=>(jN H T r).map (c1 T t::·)
 | .cell a g::r=>match n_ H g (c1 T a),jN H T r with
   | some v,some vs=>some (v::vs)
   | _,_=>none
def jP (P:Program):List ResultVar→Option (List ja)
 | []=>some []
 | .tmp t::r=>(jP P r).map (.tmp t::·)
 | .cell a t::r=>match gP P t,jP P r with
   | some g,some l=>some (.cell a g::l)
   | _,_=>none
theorem pO {P:Program} (H:List au) (T:List I):∀ {rs:List ResultVar} {l:List ja},jP P rs=some l→fb P H T rs=jN H T l
 | [],l,h=>by simp [jP] at h;subst h;rfl
 | .tmp t::r,l,h=>by
   simp only [jP,Option.map_eq_some_iff] at h;obtain ⟨l,h,rfl⟩:=h;simp only [fb,jN,pO H T h]
 | .cell a t::r,l,h=>by
   simp only [jP] at h;split at h
   ·rename_i g l' ad af;simp only [Option.some.injEq] at h;subst h;simp only [fb,jN,pO H T af,A3 ad];rfl
   ·cases h
inductive n5 (rs:List ja) (v:I) (e:cC) (T:List I) (H:List au):Prop where
 | mk (he:e=.normal∨e=.ret) (vs:List I) (aj:jN H T rs=some vs) (r:I) (aN:bK H 0 H.length 0 8 (g9 vs)=some r) (ae:r=v∨r.settle=v)
theorem FV {rs:List ja} {v:I} {e:cC} {T:List I} {H:List au} (he:e=.normal∨e=.ret) (aD:cl 8 v=true) (h:(jN H T rs).map g9=some v):n5 rs v e T H:=by
 simp only [Option.map_eq_some_iff] at h;obtain ⟨vs,ad,af⟩:=h;exact ⟨he,vs,ad,v,by rw [af];exact ox aD,.inl rfl⟩
noncomputable def yQ (P:Program) (A:c') (k:Nat):Option (eM×Nat×List ja):=match P.funcs[k]? with
 | some f=>match f.body with
   | some c => match codeOk A c, f.name == "runtime.NumGoroutine", dK P A c 0, jP P f.results.toList with
     | true,false,some rc,some ts=>some (rc,f.ntmps,ts)
     | _,_,_,_=>none
   | none=>none
 | none=>none
theorem Fv {P:Program} (dD:P.follows .mixedOrders=true) {k:Nat} {A:c'} {rc:eM} {n:Nat} {ts:List ja} (aq:yQ P A k=some (rc,n,ts)) {args T:List I} (bW:args++List.replicate (n-args.length) .junk=T) {v:I} (aD:cl 8 v=true)
  (h:dB P A k 0 none rc T [] (n5 ts v)):kW P k args v:=by
 unfold yQ at aq;split at aq
 ·rename_i f aN;split at aq
  ·rename_i c ag;split at aq
   ·rename_i FU E2 ad af aH bh;simp only [Option.some.injEq,Prod.mk.injEq] at aq;obtain ⟨rfl,rfl,rfl⟩:=aq;subst bW;have bl:∀ e s,n5 E2 v e (a8.T s) (a8.H s)→(e=.normal∨e=.ret)∧∃ vs r,fb P s.H s.T f.results.toList=some vs∧bK s.H 0 s.H.length 0 8 (g9 vs)=some r∧(r=v∨r.settle=v):=fun e s ⟨cn,vs,Bo,r,cp,ed⟩=>by
     exact ⟨cn,vs,r,by rw [pO _ _ bh,Bo],cp,ed⟩
    exact DB dD aN ag (by simpa using af) ad aD (kR bl (pB aH h))
   ·cases aq
  ·cases aq
 ·cases aq
def nP:Nat→Nat→List (Nat×I)→List I
 | 0,_,_=>[]
 | n+1,i,[]=>.junk::nP n (i+1) []
 | n+1,i,(j,v)::r=>match Nat.beq i j with
   | true=>v::nP n (i+1) r
   | false=>.junk::nP n (i+1) ((j,v)::r)
abbrev F2 (n:Nat) (l:List (Nat×I)):List I:=nP n 0 l
abbrev gO (d:Nat) (s:List ia) (k:hI):df:=⟨some d,s,none,none,k⟩
noncomputable section
def ha:Code→List (Code×Code)
 | .rangeFunc _ _ a b=>(a,b)::(ha a++ha b)
 | .seq a b=>ha a++ha b
 | .cond _ a b=>ha a++ha b
 | .block _ c=>ha c
 | .loop c=>ha c
 | .scope c=>ha c
 | _=>[]
def xD (P:Program) (k:Nat):Code:=match P.funcs[k]? with
 | some f=>match f.body with
   | some c=>c
   | none=>.skip
 | none=>.skip
def FW (P:Program) (k i:Nat):Code:=match (ha (xD P k))[i]? with
 | some x=>x.1
 | none=>.skip
def FX (P:Program) (k i:Nat):Code:=match (ha (xD P k))[i]? with
 | some x=>x.2
 | none=>.skip
end
end Go.Proofs.YtfakoboiahbhaaaGreat.Ab


namespace Go.Proofs.YtfakoboiahbhaaaGreat.Ab
open Go
section
variable {P:Program} {B:Nat} {J:List Nat} {w:World} {H:List au} {U:Nat→Option aG} {S:Nat→Nat→Prop}
end
end Go.Proofs.YtfakoboiahbhaaaGreat.Ab


namespace Go.Proofs.YtfakoboiahbhaaaGreat.Ab
open Go
section
variable {P:Program} {B N:Nat} {J:List Nat} {w:World} {H:List au} {U:Nat→Option aG} {S:Nat→Nat→Prop}
theorem Fa (dD:P.follows .mixedOrders=true) {l lo:Nat} {fn:FuncId} {T bb:List I} {bk:List Nat} {as bX:Code} {an:c'} {args:List I} {H':List au}
  (aq:H[l]?=some (.loop .ready none fn T bk as bX an)) (eb:hc bk args T=some bb) (o4:a_ lo H H')
  (h:du P an fn lo (some l) as 0 ⟨bb,H⟩ fun e s1=>e=.normal∧s1.H[l]?=some (.loop .ready none fn T bk as bX an) ∧
   du P an fn lo (some l) bX 0 ⟨s1.T,s1.H.set l (.loop .busy none fn T bk as bX an)⟩ fun e s2=>e=.normal∧s2.H[l]?=some (.loop .busy none fn T bk as bX an)∧iZ (s2.H.set l (.loop .ready none fn T bk as bX an)) H') :
  Sem P (.yield l) args H lo (.bool true) H':=by
 refine ⟨o4,fun B U J S w xs b ah _ ae ag=>?_⟩;obtain ⟨a',bm,ao,L,aB,aF,aS,bp,bf,bg,cY,c4,dv,fu,n6⟩:=ah.obj l _ aq;rw [ag] at aB;cases aB;have cF:=xf bk args T bb xs L.tmps.toList eb ae.len (by simpa using cY.symm);obtain ⟨cn,cp,ed,il⟩:=cF;refine ⟨L,aS,by rw [←ae.len,←cn,←dv];simp,?_⟩;refine roundIn_of_wpIn trivial ?_;have lL:(hx L xs).toList=(bk.zip xs).foldl (fun (l:List Value) (p:Nat×Value)=>l.set p.1 p.2) L.tmps.toList:=by rw [zV,dv]
 obtain ⟨c5,fA⟩:=Ax bk ah;have aM:cz B w.heap.size (gM bk U) J S w ⟨bb,H⟩ { tmps:=hx L xs,defers:=[] }:=by
  refine ⟨?_,fA,Nat.le_refl _,fun d a2=>by simp at a2,List.Pairwise.nil⟩;simp only [lL];have key:∀ (i:Nat) (u:I) (x:Value),bb[i]?=some u→((bk.zip xs).foldl (fun (l:List Value) (p:Nat×Value)=>l.set p.1 p.2) L.tmps.toList)[i]?=some x →
    Rel J S w u x∧aV (gM bk U) J S w (.slot i) u x:=fun i u x hu al=>by
   rcases il i u x hu al with ⟨aL,aQ⟩ | ⟨j,aL,aQ,ch⟩
   ·obtain ⟨bP,b4⟩:=c4 i u x aL (by simpa using aQ);exact ⟨b4,aV.b3 bP⟩
   ·exact ⟨ae.rel j u x aQ ch,(ae.own j u x aQ ch).mono (Ext.refl J) (fun _ _ h=>⟨h,rfl⟩) fun b ag=>⟨by simp [gM,ag,aL],rfl,fun _ h=>h⟩⟩
  exact ⟨by rw [cp,ed,←cY];simp,fun i u x hu al=>(key i u x hu al).1,fun i u x hu al=>(key i u x hu al).2⟩
 rw [fu,n6];refine nW dD as 0 _ _ h a' _ _ B w.heap.size J w (gM bk U) S _ (.inr ⟨l,b,rfl,ag,rfl⟩) (fun l a w aK=>aK) aM fun e1 s1 av aB bE ai=>?_;obtain ⟨rfl,hp,af⟩:=av;obtain ⟨b5,cT,a5,aL,aQ,cb⟩:=ai;have eQ:cT[l]?=some b:=aL _ _ ag;obtain ⟨_,_,ao,i',d1,d2,d3,d4,d5,_⟩:=cb.H.obj l _ hp;rw [eQ] at d1;cases d1;obtain ⟨dR,oB⟩:=cb.loop hp eQ d3 .busy none;have oJ:(Instr.beginRound b).run P bE=.ok () (bE.putObj b (.loop { i' with state:=.busy,pending:=none })):=by
  rw [run_beginRound d3 d4]
  have:({ i' with state:=.busy,pending:=none }:Loop)={ i' with state:=.busy }:=by rw [←d5]
  rw [this]
 refine ⟨_,oJ,?_⟩;refine wpIn_mono (Q:=fun cL aO w'=>(∀ t,cL≠Exit.goto t)∧roundPost P b (fr B U J S w H' (.bool true)) cL aO w') ?_ (fun e a w h=>h.2);refine nW dD bX 0 _ _ af bm _ _ B w.heap.size cT _ b5 a5 _ (.inr ⟨l,b,rfl,eQ,rfl⟩) (fun l a w aK=>aK.1 l rfl) oB fun cd s2 av aF bS ai=>?_;obtain ⟨rfl,e7,kc⟩:=av;obtain ⟨bo,ca,bI,ch,lW,lg⟩:=ai;have fi:ca[l]?=some b:=ch _ _ eQ;obtain ⟨_,_,ao,h',f1,f2,f3,f4,f5,_⟩:=lg.H.obj l _ e7;rw [fi] at f1;cases f1;have jk:bj U S w bo bI bS:=((c5.trans aQ).trans dR).trans lW;refine ⟨fun t aw=>(by cases aw),?_⟩;refine ⟨_,_,run_endRound none f3,?_⟩;obtain ⟨oo,oC⟩:=lg.loop e7 fi f3 .ready none;exact a0.mN kc ⟨bo,ca,bI,aL.trans ch,jk.trans oo,oC.H,.bool _,aV.b3 rfl⟩
theorem F1 (dD:P.follows .mixedOrders=true) {l lo:Nat} {fn:FuncId} {T bb:List I} {bk:List Nat} {as bX:Code} {an:c'} {args:List I} {H':List au} {zq zs:eM}
  (cu:dK P an as 0=some zq) (ag:dK P an bX 0=some zs)
  (aq:H[l]?=some (.loop .ready none fn T bk as bX an)) (eb:hc bk args T=some bb) (o4:a_ lo H H')
  (h:dB P an fn lo (some l) zq bb H fun e gk H1=>e=.normal∧H1[l]?=some (.loop .ready none fn T bk as bX an) ∧
   dB P an fn lo (some l) zs gk (H1.set l (.loop .busy none fn T bk as bX an)) fun e eN a3=>e=.normal∧a3[l]?=some (.loop .busy none fn T bk as bX an)∧iZ (a3.set l (.loop .ready none fn T bk as bX an)) H') :
  Sem P (.yield l) args H lo (.bool true) H' :=
 Fa dD aq eb o4 (kR (fun e s bl=>⟨bl.1,bl.2.1,pB ag bl.2.2⟩) (pB cu h))
end
end Go.Proofs.YtfakoboiahbhaaaGreat.Ab


namespace Go.Proofs.YtfakoboiahbhaaaGreat.Ab
open Go
abbrev FN (d s:Nat):df:=gO d [.sl s] .iH
abbrev FO (d s:Nat):df:=gO d [.hA s] .iH
abbrev FM (d:Nat) (n:Int):df:=gO d [.ij (.int .i64 n)] .iH
abbrev Fk (d s:Nat) (n:Int):df:=gO d [.hD s,.ij (.int .i64 n)] (.bin .add)
abbrev Fo (d s t:Nat) (o:BinOp):df:=gO d [.hD s,.hD t] (.bin o)
abbrev Fm (d s:Nat) (n:Int) (o:BinOp):df:=gO d [.hD s,.ij (.int .i64 n)] (.bin o)
abbrev FK (d s:Nat):df:=gO d [.hA s] .pz
abbrev FL (d s:Nat):df:=gO d [.hD s] (.px .one)
abbrev Fu (d s k:Nat):df:=gO d [.hD s] (.ov k)
abbrev FH (d s t k:Nat):df:=gO d [.hD s,.hD t] (.pq k)
abbrev F5 (d s k:Nat):df:=gO d [.sl s] (.ext k)
abbrev dZ (d:Nat) (l:List ia) (g:Nat) (b:Bool) (k:hI):df:=⟨some d,l,some (g,b),none,k⟩
abbrev FR (l:List df):eM:=.jO false l
abbrev FT (l:List df):eM:=.jO true l
abbrev FY (l:List df) (c:eM):eM:=.seq (.jO false l) c
abbrev FI (n:Nat):eM:=.cond (.sl n) .skip .skip
def zX (b:Bool):Nat→List Bool→List Bool
 | 0,l=>l
 | n+1,l=>b::zX b n l
def DX:Bool→List Nat→List Bool
 | _,[]=>[]
 | b,n::r=>zX b n (DX (!b) r)
end Go.Proofs.YtfakoboiahbhaaaGreat.Ab
