
import Derived.Test.YtfakoboiahbhaaaGreatJo2
import Derived.Maps.RangeRun
set_option linter.unusedSimpArgs false
set_option linter.unusedVariables false
set_option linter.unusedSectionVars false

namespace Go.Proofs.YtfakoboiahbhaaaGreat.Ab
open Go
section
variable {P:Program} {B N:Nat} {κ:List Nat} {w:World} {H:List AObj} {ω:Nat→Option Lab} {S:Nat→Nat→Prop}
theorem vrel_plain {lab:Nat→Lab} {us:List AV} {xs:List Value} (hl:us.length=xs.length) (h:∀ (j:Nat) (u:AV) (v:Value),us[j]?=some u→xs[j]?=some v→Rel κ S w u v∧u.plain=true):VRel lab ω κ S w us xs :=
 ⟨hl,fun j u v hu hv=>(h j u v hu hv).1,fun j u v hu hv=>OwnAt.of_plain (h j u v hu hv).2⟩
def jumpTo (F:Fence) (P:Program) (Q:Exit→Act→World→Prop) (pend:Option Code) (a':Act) (w':World):Prop:=match pend with
 | none=>Q .normal a' w'
 | some c=>c.wpIn F 0 P Q a' w'
theorem range_call {F:Fence} (hF:Fen F) {C:CallFn} (hC:CSound P C) {T:List AV} {a:Act} (hA:ARel B N ω κ S w ⟨T,H⟩ a) (hview:VRel .slot ω κ S w (T.map AV.view) a.tmps.toList)
  {lo k:Nat} {first cap:List AV} {vs ws:Array Value} (hf:Rel κ S w (.func k first cap) (.func (.func k) vs ws))
  {as bd:Code} {an:FAnn} {fn fn':FuncId} {ps:Array Tmp} (c1:codeOk an as=true) (c2:codeOk an bd=true) {r:AV} {H':List AObj}
  (h:C (.fn k) (first++[.yield H.length]++cap) (H++[.loop .ready none fn (T.map AV.view) ps.toList as bd an]) lo=some (r,H'))
  {st:LoopState} {pend:Option Code} {fn2:FuncId} {T2:List AV} {ps2:List Nat} {as2 bd2:Code} {an2:FAnn} (hl:H'[H.length]?=some (.loop st pend fn2 T2 ps2 as2 bd2 an2)) (hst:st≠.busy)
  {w1:World} (ev1:Ev (hide ω) S w (hide ω) S w1) (hH1:HRel B (hide ω) κ S w1 H) {mark:List Deferred} {dfr:Nat} (hm:Marks N (hide ω) w1 mark) (hmw:∀ d∈mark,∀ r,d.target=.collected r→ω r=none∧w.heap.size≤r) {Q:Exit→Act→World→Prop}
  (hQ:∀ a' w',Step B N ω κ S w ⟨T,H'.set H.length .dead⟩ a' w'→jumpTo F P Q pend a' w') :
  CallsIn F 0 P k (vs++#[Value.func (.yield w1.heap.size) #[] #[]]++ws) (w1.alloc (.loop { state:=.ready,pending:=none,fn:=fn',tmps:=a.tmps,params:=ps,assign:=as,body:=bd,defers:=dfr }))
   (rangePost F 0 P w1.heap.size Q { a with defers:=mark++a.defers }):=by
 generalize hL:({ state:=.ready,pending:=none,fn:=fn',tmps:=a.tmps,params:=ps,assign:=as,body:=bd,defers:=dfr }:Loop)=L
 have evb:=ev_alloc hH1 (.loop L) (.obj H.length)
 have hrb:=hrel_alloc hH1 (.loop L) (.obj H.length)
 have hκb:Ext κ (κ++[w1.heap.size]):=Ext.append κ _
 have hS1:∀ b o,S b o→S b o∧(w1.alloc (.loop L)).cell? ⟨b,o,none⟩=w.cell? ⟨b,o,none⟩:=(ev1.trans evb).set
 have hHb:=hrb.push w1.heap.size (o:=.loop .ready none fn (T.map AV.view) ps.toList as bd an)
  ⟨c1,c2,w1.heap.size,L,Ext.last hH1 _,by simp [lay],World.alloc_heap_new w1 _,by rw [←hL],by rw [←hL],trivial,by rw [←hL];simpa using hview.len.symm,
   fun i u v hu hv=>by
    rw [←hL] at hv
    refine ⟨?_,((hview.rel i u v hu (by simpa using hv)).mono hκb hS1)⟩
    simp only [List.getElem?_map,Option.map_eq_some_iff] at hu
    obtain ⟨x,_,rfl⟩:=hu
    exact AV.view_plain x,by rw [←hL],by rw [←hL],by rw [←hL]⟩
 have hno:NoSlot (lay (hide ω) w1.heap.size (.obj H.length)):=fun b i hb=>by
  unfold lay at hb
  split at hb
  ·simp at hb
  ·exact hide_noslot b i hb
 have hargs:VRel (fun i=>.arg i) (lay (hide ω) w1.heap.size (.obj H.length)) (κ++[w1.heap.size]) S (w1.alloc (.loop L)) (first++[.yield H.length]++cap) (vs.toList++[Value.func (.yield w1.heap.size) #[] #[]]++ws.toList):=by
  cases hf with
  | func _ _ _ _ _ k1 k2 p1 p2 r1 r2 =>
    refine vrel_plain (by simp [k1,k2]) fun j u v hu hv=>?_
    rcases Nat.lt_or_ge j first.length with h1 | h1
    ·rw [List.append_assoc,List.getElem?_append_left h1] at hu
     rw [List.append_assoc,List.getElem?_append_left (by simp;omega)] at hv
     exact ⟨(r1 j u v hu (by simpa using hv)).mono hκb hS1,p1 u (List.mem_of_getElem? hu)⟩
    ·rw [List.append_assoc,List.getElem?_append_right h1] at hu
     rw [List.append_assoc,List.getElem?_append_right (by simp;omega)] at hv
     have hsz:vs.toList.length=first.length:=by simp [k1]
     rw [hsz] at hv
     rcases Nat.lt_or_ge (j-first.length) 1 with h2 | h2
     ·have h0:j-first.length=0:=by omega
      rw [h0] at hu hv
      simp at hu hv
      subst hu hv
      exact ⟨.yield _ _ (Ext.last hH1 _),rfl⟩
     ·rw [List.getElem?_append_right (by simpa using h2)] at hu hv
      exact ⟨(r2 _ u v hu (by simpa using hv)).mono hκb hS1,p2 u (List.mem_of_getElem? hu)⟩
 have hcall:=(hC.ok h).2 B _ _ S _ _ hHb hno hargs
 have harr:(vs.toList++[Value.func (.yield w1.heap.size) #[] #[]]++ws.toList).toArray=vs++#[Value.func (.yield w1.heap.size) #[] #[]]++ws:=by
  apply Array.ext';simp
 rw [harr] at hcall
 refine hF.calls (CallsIn.mono hcall fun e w2 he=>?_)
 cases e with
 | panicked c=>exact he.elim
 | outgrown=>exact he.elim
 | returned x =>
   obtain ⟨ω2,κ2,S2,hκ2,ev2,hH2,_,_⟩:=he
   obtain ⟨_,_,b',L2,a1,a2,a3,a4,a5,_⟩:=hH2.obj _ _ hl
   have hbb:κ2[H.length]?=some w1.heap.size:=hκ2 _ _ (Ext.last hH1 _)
   rw [hbb] at a1;cases a1
   obtain ⟨ev3,hH3,_⟩:=loop_put hH2 a2 a3 { L2 with state:=.exhausted }
   have evA:Ev (hide ω) S w1 ω2 S2 (w2.putObj w1.heap.size (.loop { L2 with state:=.exhausted })):=(evb.trans ev2).trans ev3
   obtain ⟨q1,q2⟩:=op_done_at none hA (hκb.trans hκ2) (ev1.trans evA) hH3 (.junk undef) (OwnAt.of_plain rfl)
   refine ⟨L2.pending,_,run_endLoop a3 (by rw [a4];exact hst),?_⟩
   rw [←a5] at hQ
   refine hQ _ _ ⟨_,κ2,S2,hκb.trans hκ2,q1,⟨q2.T,q2.H,q2.M.1,fun d hd=>?_,List.pairwise_append.2 ⟨hm.2.2,q2.M.2.2,fun d hd d' hd' e=>?_⟩⟩⟩
   rotate_left
   ·obtain ⟨r0,m1,_⟩:=hm.2.1 d hd
    obtain ⟨r1,n1,_,_,n4⟩:=hA.M.2.1 d' hd'
    have:=(hmw d hd r0 m1).2
    have:=(Array.getElem?_eq_some_iff.1 n4).1
    rw [m1,n1] at e;cases e;omega
   rcases List.mem_append.1 hd with hd | hd
   ·obtain ⟨r0,m1,m2,m3,m4⟩:=hm.2.1 d hd
    have hr1:r0<w1.heap.size:=(Array.getElem?_eq_some_iff.1 m4).1
    refine ⟨r0,m1,m2,?_,(evA.keep r0 hr1 m3).trans m4⟩
    have h0:=(hmw d hd r0 m1).1
    have h2:ω2 r0=none:=by
     cases h5:ω2 r0 with
     | none=>rfl
     | some l =>
       rcases evA.own r0 (by simp [h5]) with h6 | h6
       ·exact absurd m3 h6
       ·omega
    simp [back,h0,h2]
   ·exact q2.M.2.1 d hd
end
end Go.Proofs.YtfakoboiahbhaaaGreat.Ab


namespace Go.Proofs.YtfakoboiahbhaaaGreat.Ab
open Go
def toExit:Ex→Exit
 | .normal=>.normal
 | .ret=>.ret
 | .exit id=>.exit id
def FenR (F:Fence) (rl:Option Nat) (κ:List Nat):Prop:=(rl=none∧F=Fence.wide)∨∃ l b,rl=some l∧κ[l]?=some b∧F=Fence.wide.inRound b
theorem FenR.fen {F:Fence} {rl:Option Nat} {κ:List Nat} (h:FenR F rl κ):Fen F:=by
 rcases h with ⟨_,rfl⟩ | ⟨l,b,_,_,rfl⟩
 ·exact .inl rfl
 ·exact .inr ⟨b,rfl⟩
theorem FenR.ext {F:Fence} {rl:Option Nat} {κ κ':List Nat} (h:FenR F rl κ) (hκ:Ext κ κ'):FenR F rl κ':=by
 rcases h with h | ⟨l,b,h1,h2,h3⟩
 ·exact .inl h
 ·exact .inr ⟨l,b,h1,hκ _ _ h2,h3⟩
theorem exists_least {p:Nat→Prop} (h:∃ n,p n):∃ n,p n∧∀ m,p m→n≤m:=by
 obtain ⟨n,hn⟩:=h
 induction n using Nat.strongRecOn with
 | _ n ih =>
   by_cases hl:∃ m,m<n∧p m
   ·obtain ⟨m,hm,hp⟩:=hl;exact ih m hm hp
   ·exact ⟨n,hn,fun m hm=>Nat.le_of_not_lt fun hlt=>hl ⟨m,hlt,hm⟩⟩
section
variable {P:Program}
theorem loop_sim {F:Fence} {c:Code} {f:St→Option (Ex×St)} {e:Ex} {s':St} {Q:Exit→Act→World→Prop} {B N:Nat} {κ:List Nat} {w:World} {ω:Nat→Option Lab} {S:Nat→Nat→Prop} {s:St} {a:Act} {n:Nat}
  (h:loopN f n s=some (e,s')) (hA:ARel B N ω κ S w s a) (hQ:∀ a' w',Step B N ω κ S w s' a' w'→Q (toExit e) a' w')
  (hbody:∀ (s1:St) (e1:Ex) (s2:St),f s1=some (e1,s2)→∀ (Q':Exit→Act→World→Prop) (a1:Act) (w1:World),(∀ l a w,Q' (.goto l) a w→Q (.goto l) a w)→Step B N ω κ S w s1 a1 w1 →
   (∀ a' w',Step B N ω κ S w s2 a' w'→Q' (toExit e1) a' w')→c.wpIn F 0 P Q' a1 w1):(Code.loop c).wpIn F 0 P Q a w:=by
 classical
 let Inv:Nat→Act→World→Prop:=fun n a' w'=>∃ s1,loopN f n s1=some (e,s')∧Step B N ω κ S w s1 a' w'
 let μ:Act→World→Nat:=fun a' w'=>if h:∃ n,Inv n a' w' then Classical.choose (exists_least h) else 0
 have hμ:∀ a' w',(∃ n,Inv n a' w')→Inv (μ a' w') a' w'∧∀ m,Inv m a' w'→μ a' w'≤m:=fun a' w' h=>by
  have:μ a' w'=Classical.choose (exists_least h):=by simp only [μ,dif_pos h]
  rw [this];exact Classical.choose_spec (exists_least h)
 refine wpIn_loop (fun a' w'=>∃ n,Inv n a' w') μ ⟨n,s,h,Step.here hA⟩ fun a1 w1 hI=>?_
 obtain ⟨⟨s1,h1,hs1⟩,_⟩:=hμ a1 w1 hI
 cases hn:μ a1 w1 with
 | zero=>rw [hn] at h1;simp [loopN] at h1
 | succ m =>
   rw [hn] at h1
   simp only [loopN] at h1
   split at h1
   ·rename_i s2 hf2
    refine hbody s1 .normal s2 hf2 _ a1 w1 (fun l a w h=>h) hs1 fun a' w' hs2=>?_
    have hinv:Inv m a' w':=⟨s2,h1,hs2⟩
    exact ⟨⟨m,hinv⟩,Nat.lt_succ_of_le ((hμ a' w' ⟨m,hinv⟩).2 m hinv)⟩
   ·rename_i hno
    refine hbody s1 e s' h1 _ a1 w1 (fun l a w h=>h) hs1 fun a' w' hs2=>?_
    cases e with
    | normal=>exact absurd h1 (hno s')
    | ret=>exact hQ a' w' hs2
    | exit id=>exact hQ a' w' hs2
theorem exec_sim {C:CallFn} (hC:CSound P C) (hmix:P.follows .mixedOrders=true) {A:FAnn} {fn:FuncId} {lo d:Nat} {rl:Option Nat} :
  ∀ (c:Code) (bid:Nat) (s:St) (e:Ex) (s':St),exec P A C fn lo d rl c bid s=some (e,s')→codeOk A c=true →
    ∀ (F:Fence) (Q:Exit→Act→World→Prop) (B N:Nat) (κ:List Nat) (w:World) (ω:Nat→Option Lab) (S:Nat→Nat→Prop) (a:Act),FenR F rl κ→(∀ l a w,¬ Q (.goto l) a w) →
      ARel B N ω κ S w s a→(∀ a' w',Step B N ω κ S w s' a' w'→Q (toExit e) a' w')→c.wpIn F 0 P Q a w:=by
 intro c
 induction c with
 | skip =>
   intro bid s e s' h _ F Q B N κ w ω S a hF hg hA hQ
   simp only [exec,Option.some.injEq,Prod.mk.injEq] at h;obtain ⟨rfl,rfl⟩:=h
   exact wpIn_skip (hQ a w (Step.here hA))
 | label l =>
   intro bid s e s' h _ F Q B N κ w ω S a hF hg hA hQ
   simp only [exec,Option.some.injEq,Prod.mk.injEq] at h;obtain ⟨rfl,rfl⟩:=h
   exact wpIn_label (hQ a w (Step.here hA))
 | ret =>
   intro bid s e s' h _ F Q B N κ w ω S a hF hg hA hQ
   simp only [exec,Option.some.injEq,Prod.mk.injEq] at h;obtain ⟨rfl,rfl⟩:=h
   exact wpIn_ret (hQ a w (Step.here hA))
 | exit id =>
   intro bid s e s' h _ F Q B N κ w ω S a hF hg hA hQ
   simp only [exec,Option.some.injEq,Prod.mk.injEq] at h;obtain ⟨rfl,rfl⟩:=h
   exact wpIn_exit (hQ a w (Step.here hA))
 | goto l=>intro bid s e s' h;simp [exec] at h
 | refuse y=>intro bid s e s' h;simp [exec] at h
 | region id ops draw =>
   intro bid s e s' h hok F Q B N κ w ω S a hF hg hA hQ
   simp only [exec,Option.map_eq_some_iff,Prod.mk.injEq] at h
   obtain ⟨s1,h,rfl,rfl⟩:=h
   refine region_sim hF.fen hmix hC (fun hd=>?_) h (hA.keep _ _) hQ
   simpa [codeOk,hd] using hok
 | seq x y ihx ihy =>
   intro bid s e s' h hok F Q B N κ w ω S a hF hg hA hQ
   simp only [codeOk,Bool.and_eq_true] at hok
   simp only [exec] at h
   split at h
   ·rename_i s1 h1
    refine wpIn_seq (ihx _ _ _ _ h1 hok.1 F _ B N κ w ω S a hF (fun l a w=>hg l a w) hA fun a' w' hs=>?_)
    obtain ⟨ω1,κ1,S1,k1,k2,hA1⟩:=hs
    exact ihy _ _ _ _ h hok.2 F Q B N κ1 w' ω1 S1 a' (hF.ext k1) hg hA1 fun a'' w'' hs2=>hQ a'' w'' (hs2.trans k1 k2)
   ·rename_i hno
    refine wpIn_seq (ihx _ _ _ _ h hok.1 F _ B N κ w ω S a hF (fun l a w=>hg l a w) hA fun a' w' hs=>?_)
    cases e with
    | normal=>exact absurd h (hno s')
    | ret=>exact hQ a' w' hs
    | exit id=>exact hQ a' w' hs
 | cond x t f iht ihf =>
   intro bid s e s' h hok F Q B N κ w ω S a hF hg hA hQ
   simp only [codeOk,Bool.and_eq_true] at hok
   simp only [exec] at h
   have hr:=hA.ev x
   split at h
   ·rename_i hb
    rw [hb] at hr
    exact wpIn_cond_true hr.bool_inv (iht _ _ _ _ h hok.1 F Q B N κ w ω S a hF hg hA hQ)
   ·rename_i hb
    rw [hb] at hr
    exact wpIn_cond_false hr.bool_inv (ihf _ _ _ _ h hok.2 F Q B N κ w ω S a hF hg hA hQ)
   ·simp at h
 | block id c ih =>
   intro bid s e s' h hok F Q B N κ w ω S a hF hg hA hQ
   simp only [exec] at h
   refine wpIn_block ?_
   split at h
   ·rename_i id' s1 h1
    refine ih _ _ _ _ h1 hok F _ B N κ w ω S a hF (fun l a w=>hg l a w) hA fun a' w' hs=>?_
    by_cases hid:id'=id
    ·simp only [hid,if_true,Option.some.injEq,Prod.mk.injEq] at h
     obtain ⟨rfl,rfl⟩:=h
     simp only [toExit,Exit.inBlock,hid,if_true]
     exact hQ a' w' hs
    ·simp only [hid,if_false,Option.some.injEq,Prod.mk.injEq] at h
     obtain ⟨rfl,rfl⟩:=h
     simp only [toExit,Exit.inBlock,hid,if_false]
     exact hQ a' w' hs
   ·rename_i hno
    refine ih _ _ _ _ h hok F _ B N κ w ω S a hF (fun l a w=>hg l a w) hA fun a' w' hs=>?_
    cases e with
    | normal=>exact hQ a' w' hs
    | ret=>exact hQ a' w' hs
    | exit id'=>exact absurd h (hno id' s')
 | scope c ih =>
   intro bid s e s' h hok F Q B N κ w ω S a hF hg hA hQ
   simp only [exec] at h
   exact wpIn_scope (ih _ _ _ _ h hok F Q B N κ w ω S a hF hg hA hQ) hg
 | loop c ih =>
   intro bid s e s' h hok F Q B N κ w ω S a hF hg hA hQ
   simp only [exec] at h
   refine loop_sim h hA hQ fun s1 e1 s2 h1 Q' a1 w1 hq' hs1 hQ'=>?_
   obtain ⟨ω1,κ1,S1,k1,k2,hA1⟩:=hs1
   exact ih _ _ _ _ h1 hok F Q' B N κ1 w1 ω1 S1 a1 (hF.ext k1) (fun l a w hq=>hg l a w (hq' l a w hq)) (hA1.keep _ _) fun a' w' hs2=>hQ' a' w' (hs2.trans k1 k2)
 | rangeFunc g ps as bd iha ihb =>
   intro bid s e s' h hok F Q B N κ w ω S a hF hg hA hQ
   simp only [codeOk,Bool.and_eq_true] at hok
   simp only [exec] at h
   split at h
   ·rename_i k first cap hin hev
    have hrg:=hA.ev g
    rw [hev] at hrg
    split at h
    ·rename_i r H' hc
     split at h
     ·rename_i st pend fn2 T2 ps2 as2 bd2 an2 hl
      split at h
      ·simp at h
      ·rename_i hst
       have hQ':∀ a' w',Step B N ω κ S w ⟨s.T.map AV.settle,H'.set s.H.length .dead⟩ a' w'→jumpTo F P Q pend a' w':=fun a' w' hs=>by
        split at h
        ·simp only [Option.some.injEq,Prod.mk.injEq] at h;obtain ⟨rfl,rfl⟩:=h;exact hQ a' w' hs
        ·simp only [Option.some.injEq,Prod.mk.injEq] at h;obtain ⟨rfl,rfl⟩:=h;exact wpIn_ret (hQ a' w' hs)
        ·simp only [Option.some.injEq,Prod.mk.injEq] at h;obtain ⟨rfl,rfl⟩:=h;exact wpIn_exit (hQ a' w' hs)
        ·simp at h
       obtain ⟨S1,j1,j2,hH1,hT1,hT2⟩:=settle_both s.T a.tmps.toList .slot S (fun i j h=>by cases h;rfl) (fun i id=>by simp) (fun i id j=>by simp) hA.T hA.H
       have ev0:Ev ω S w ω S1 w:=Ev.settle j1 fun b o h=>(j2 b o h).imp id fun ⟨i,h⟩=>⟨_,h⟩
       have hA1:ARel B N ω κ S1 w ⟨s.T.map AV.settle,s.H⟩ a:=⟨hT1,hH1,hA.M.ev ev0⟩
       have hvv:(s.T.map AV.settle).map AV.view=s.T.map AV.view:=by
        rw [List.map_map];apply List.map_congr_left;intro u _;exact view_settle u
       have hview:VRel .slot ω κ S1 w ((s.T.map AV.settle).map AV.view) a.tmps.toList:=by rw [hvv];exact hT2
       rw [←hvv] at hc
       have hQ1:∀ a' w',Step B N ω κ S1 w ⟨s.T.map AV.settle,H'.set s.H.length .dead⟩ a' w'→jumpTo F P Q pend a' w':=fun a' w' hs=>hQ' a' w' (Step.trans (Ext.refl κ) ev0 hs)
       have hr1:=hrg.mono (Ext.refl κ) (S':=S1) (w':=w) (fun b o h=>⟨j1 b o h,rfl⟩)
       obtain ⟨⟨f0,hf0,hb0,hn0⟩,_⟩:=hC.ok hc
       have hbase:ω w.heap.size=none:=by
        cases hx:ω w.heap.size with
        | none=>rfl
        | some l=>have:=(hA.H.base _ l hx).2;omega
       generalize hgv:a.eval g=gv at hr1
       cases hr1 with
       | func _ _ _ vs ws k1 k2 p1 p2 r1 r2 =>
         refine wpIn_rangeFunc fun fn' _=>?_
         have hres:∀ (l:Nat) (w0:World),(resolve a.eval (rangeCall g l) 0).run P w0=.ok { target:=.fn (.func k) ws,args:=vs++#[Value.func (.yield l) #[] #[]] } w0:=fun l w0=>by
          have:(#[Operand.const (Value.func (.yield l) #[] #[])]:Array Operand).map a.eval=#[Value.func (.yield l) #[] #[]]:=by simp [Act.eval]
          simp only [resolve,rangeCall,hgv,Deferred.ofValue,this,Sem.run_pure]
         have hinv:∀ (l:Nat) (w0:World),(invoke (.fn (.func k) ws) (vs++#[Value.func (.yield l) #[] #[]])).run P w0=.ok (.enter k (vs++#[Value.func (.yield l) #[] #[]]++ws)) w0:=fun l w0=>by
          simp only [invoke,run_callFunc hf0 hb0 hn0]
         have hfr:Rel κ S1 w (.func k first cap) (.func (.func k) vs ws):=.func k first cap vs ws k1 k2 p1 p2 r1 r2
         have hdep:F.depth.isSome=true→1≤0:=fun hdd=>by rw [hF.fen.depth] at hdd;cases hdd
         rcases hF with ⟨rfl,rfl⟩ | ⟨l0,b0,rfl,hb,rfl⟩
         ·have hH2:=hrel_hide hA1.H
          have hcall:=range_call (.inl rfl) hC hA1 hview hfr hok.1 hok.2 hc hl hst (ev_alloc0 hH2 (.deferred (some []))) (hrel_alloc0 hH2 (.deferred (some []))) (fn':=fn') (dfr:=w.heap.size)
           (mark:=[{ target:=.collected w.heap.size,args:=#[] }]) ⟨by have:=hA.M.1;simp;omega,fun d hd=>by
            simp only [List.mem_singleton] at hd;subst hd
            exact ⟨w.heap.size,rfl,hA.M.1,hide_none hbase,World.alloc_heap_new w _⟩,List.pairwise_singleton _ _⟩ (fun d hd r0 hr0=>by
            simp only [List.mem_singleton] at hd;subst hd
            cases hr0;exact ⟨hbase,Nat.le_refl _⟩) hQ1
          have hsz:(w.alloc (.deferred (some []))).heap.size=w.heap.size+1:=by simp
          rw [hsz] at hcall
          exact ⟨_,_,_,_,_,k,_,_,run_enterLoop_outer fn' a.tmps ps as bd,hres _ _,fun _ _=>trivial,hinv _ _,hdep,hcall⟩
         ·have hH2:=hrel_hide hA1.H
          simp only [inLoop] at hin
          split at hin
          ·rename_i hlo
           obtain ⟨_,_,b',L0,a1,a2,a3,_⟩:=hA.H.obj l0 _ hlo
           rw [hb] at a1;cases a1
           have hcall:=range_call (.inr ⟨b0,rfl⟩) hC hA1 hview hfr hok.1 hok.2 hc hl hst (Ev.refl _ _ _) hH2 (fn':=fn') (dfr:=L0.defers)
            (mark:=[]) ⟨hA.M.1,fun d hd=>by simp at hd,List.Pairwise.nil⟩ (fun d hd=>by simp at hd) hQ1
           exact ⟨_,_,_,_,_,k,_,_,run_enterLoop_inner a3 fn' a.tmps ps as bd,hres _ _,fun _ _=>trivial,hinv _ _,hdep,hcall⟩
          ·simp at hin
     ·simp at h
    ·simp at h
   ·simp at h
end
end Go.Proofs.YtfakoboiahbhaaaGreat.Ab


namespace Go.Proofs.YtfakoboiahbhaaaGreat.Ab
open Go
def toSlots (ω:Nat→Option Lab):Nat→Option Lab:=fun b=>match ω b with
 | some (.arg i)=>some (.slot i)
 | some (.obj id)=>some (.obj id)
 | some (.cell id j)=>some (.cell id j)
 | _=>none
def outLab (t:Nat) (ω:Nat→Option Lab):Nat→Option Lab:=fun b=>match ω b with
 | some (.slot i)=>if i=t then some .res else none
 | some (.obj id)=>some (.obj id)
 | some (.cell id j)=>some (.cell id j)
 | _=>none
section
variable {P:Program} {B N:Nat} {κ:List Nat} {w:World} {H:List AObj} {ω:Nat→Option Lab} {S:Nat→Nat→Prop}
theorem relabel {ω':Nat→Option Lab} (hH:HRel B ω κ S w H) (h1:∀ b,ω b=none→ω' b=none) (h2:∀ b l,ω b=some l→((∃ id,l=.obj id)∨∃ id j,l=.cell id j)→ω' b=some l) :
  Ev ω S w ω' S w∧HRel B ω' κ S w H:=by
 have hn:∀ b,ω' b≠none→ω b≠none:=fun b h h0=>h (h1 b h0)
 refine ⟨⟨rfl,rfl,rfl,Nat.le_refl _,fun _ _ _=>rfl,fun _ _ h=>⟨h,rfl⟩,fun _ _ h=>.inl h,fun b h=>.inl (hn b h)⟩,⟨hH.klen,fun id o ho=>?_,hH.swf,fun b l hb=>?_,hH.bsz⟩⟩
 ·refine (hH.obj id o ho).frame (Ext.refl κ) (fun _ _ h=>⟨h,rfl⟩) fun b l hb hl=>⟨h2 b l hb ?_,rfl,fun _ h=>h⟩
  rcases hl with rfl | ⟨j,rfl⟩
  ·exact .inl ⟨id,rfl⟩
  ·exact .inr ⟨id,j,rfl⟩
 ·cases h:ω b with
  | none=>rw [h1 b h] at hb;cases hb
  | some l'=>exact hH.base b l' h
theorem toSlots_rel (hH:HRel B ω κ S w H):Ev ω S w (toSlots ω) S w∧HRel B (toSlots ω) κ S w H :=
 relabel hH (fun b h=>by simp [toSlots,h]) fun b l h hl=>by
  rcases hl with ⟨id,rfl⟩ | ⟨id,j,rfl⟩ <;> simp [toSlots,h]
theorem outLab_rel (t:Nat) (hH:HRel B ω κ S w H):Ev ω S w (outLab t ω) S w∧HRel B (outLab t ω) κ S w H :=
 relabel hH (fun b h=>by simp [outLab,h]) fun b l h hl=>by
  rcases hl with ⟨id,rfl⟩ | ⟨id,j,rfl⟩ <;> simp [outLab,h]
theorem start_rel (hH:HRel B ω κ S w H) {args:List AV} {vs:List Value} (hv:VRel (fun i=>.arg i) ω κ S w args vs) (n:Nat) :
  ARel B w.heap.size (toSlots ω) κ S w ⟨args++List.replicate (n-args.length) .junk,H⟩ { tmps:=vs.toArray++Array.replicate (n-vs.toArray.size) undef,defers:=[] }:=by
 have hl:=hv.len
 refine ⟨?_,(toSlots_rel hH).2,Nat.le_refl _,fun d hd=>by simp at hd,List.Pairwise.nil⟩
 have htm:(vs.toArray++Array.replicate (n-vs.toArray.size) undef).toList=vs++List.replicate (n-vs.length) undef:=by simp
 simp only [htm]
 have key:∀ (i:Nat) (u:AV) (v:Value),(args++List.replicate (n-args.length) .junk)[i]?=some u→(vs++List.replicate (n-vs.length) undef)[i]?=some v →
   Rel κ S w u v∧OwnAt (toSlots ω) κ S w (.slot i) u v:=fun i u v hu hx=>by
  rcases Nat.lt_or_ge i args.length with h1 | h1
  ·rw [List.getElem?_append_left h1] at hu
   rw [List.getElem?_append_left (by omega)] at hx
   exact ⟨hv.rel i u v hu hx,(hv.own i u v hu hx).mono (Ext.refl κ) (fun _ _ h=>⟨h,rfl⟩) fun b hb=>⟨by simp [toSlots,hb],rfl,fun _ h=>h⟩⟩
  ·rw [List.getElem?_append_right h1] at hu
   rw [List.getElem?_replicate] at hu
   split at hu
   ·cases hu;exact ⟨.junk v,OwnAt.of_plain rfl⟩
   ·simp at hu
 exact ⟨by simp [hl],fun i u v hu hx=>(key i u v hu hx).1,fun i u v hu hx=>(key i u v hu hx).2⟩
theorem leaves_marks {fn:Func} {tmps:Array Value} {R:Ending→World→Prop} {ω0:Nat→Option Lab} {S0:Nat→Nat→Prop} {w0:World} :
  ∀ (ds:List Deferred) (w:World),(∀ d∈ds,∃ r,d.target=.collected r∧w0.heap.size≤r∧ω r=none∧w.heap[r]?=some (.deferred (some [])))→ds.Pairwise (fun a b=>a.target≠b.target)→Ev ω0 S0 w0 ω S w→HRel B ω κ S w H →
    (∀ w',(∀ b l,ω b=some l→w'.heap[b]?=w.heap[b]?)→(∀ b o,S b o→w'.cell? ⟨b,o,none⟩=w.cell? ⟨b,o,none⟩)→Ev ω0 S0 w0 ω S w'→HRel B ω κ S w' H→∃ v,(results fn tmps).run P w'=.ok v w'∧R (.returned v) w')→LeavesInM Fence.wide 0 P fn tmps R ds .returning w
 | [],w,_,_,ev,hH,hR=>hR w (fun _ _ _=>rfl) (fun _ _ _=>rfl) ev hH
 | d::ds,w,hd,hp,ev,hH,hR=>by
   obtain ⟨r,h1,h2,h3,h4⟩:=hd d (by simp)
   have hr:r<w.heap.size:=(Array.getElem?_eq_some_iff.1 h4).1
   have hsz:(w.putObj r (.deferred none)).heap.size=w.heap.size:=by simp [World.putObj]
   have hother:∀ b,b≠r→(w.putObj r (.deferred none)).heap[b]?=w.heap[b]?:=fun b h=>World.putObj_heap_other h
   have hne:∀ b o,S b o→b≠r:=fun b o hs e=>by
    subst e
    obtain ⟨v,hv⟩:=hH.swf b o hs
    simp [World.cell?,h4] at hv
   have hcell:∀ b o,b≠r→(w.putObj r (.deferred none)).cell? ⟨b,o,none⟩=w.cell? ⟨b,o,none⟩:=fun b o h=>by
    simp only [World.cell?,hother b h]
   have hlab:∀ b l,ω b=some l→b≠r:=fun b l h e=>by subst e;rw [h3] at h;cases h
   have ev0:Ev ω0 S0 w0 ω S (w.putObj r (.deferred none)):=by
    refine ⟨ev.os,ev.tape,ev.output,by rw [hsz];exact ev.size,fun b hb hn=>?_,fun b o hs=>?_,ev.fresh,ev.own⟩
    ·rw [hother b (by omega)];exact ev.keep b hb hn
    ·obtain ⟨k1,k2⟩:=ev.set b o hs
     exact ⟨k1,(hcell b o (hne b o k1)).trans k2⟩
   have hS:∀ b o,S b o→S b o∧(w.putObj r (.deferred none)).cell? ⟨b,o,none⟩=w.cell? ⟨b,o,none⟩:=fun b o hs=>⟨hs,hcell b o (hne b o hs)⟩
   have hH0:HRel B ω κ S (w.putObj r (.deferred none)) H :=
    ⟨hH.klen,fun id o ho=>(hH.obj id o ho).frame (Ext.refl κ) hS fun b l hb _=>⟨hb,hother b (hlab b l hb),fun _ h=>h⟩,fun b o hs=>by
     obtain ⟨v,hv⟩:=hH.swf b o hs
     exact ⟨v,(hcell b o (hne b o hs)).trans hv⟩,fun b l hb=>by rw [hsz];exact hH.base b l hb,by rw [hsz];exact hH.bsz⟩
   refine ⟨by simp,.inl ⟨r,_,h1,run_takeDeferred h4,?_⟩⟩
   have hpp:=List.pairwise_cons.1 hp
   refine leaves_marks ds _ (fun d' hd'=>?_) hpp.2 ev0 hH0 (fun w' k0 k1 k2 k3=>hR w' (fun b l h=>(k0 b l h).trans (hother b (hlab b l h))) (fun b o h=>(k1 b o h).trans (hcell b o (hne b o h))) k2 k3)
   ·obtain ⟨r',q1,q2,q3,q4⟩:=hd d' (by simp [hd'])
    have:r'≠r:=fun e=>hpp.1 d' hd' (by rw [h1,q1,e])
    exact ⟨r',q1,q2,q3,(hother r' this).trans q4⟩
end
end Go.Proofs.YtfakoboiahbhaaaGreat.Ab


namespace Go.Proofs.YtfakoboiahbhaaaGreat.Ab
open Go
section
variable {P:Program} {B N:Nat} {κ:List Nat} {w:World} {H:List AObj} {ω:Nat→Option Lab} {S:Nat→Nat→Prop}
theorem getT_rel {lab:Nat→Lab} {T:List AV} {tm:Array Value} (hT:VRel lab ω κ S w T tm.toList) (t:Nat):Rel κ S w (getT T t) (tm.getD t undef)∧OwnAt ω κ S w (lab t) (getT T t) (tm.getD t undef):=by
 rw [getT_eq,List.getD_eq_getElem?_getD]
 cases h:T[t]? with
 | none=>exact ⟨.junk _,OwnAt.of_plain rfl⟩
 | some u =>
   have hl:=hT.len
   have hlt:t<T.length:=(List.getElem?_eq_some_iff.1 h).1
   have hlt2:t<tm.size:=by rw [←Array.length_toList,←hl];exact hlt
   have hx:tm.toList[t]?=some (tm.getD t undef):=by simp [Array.getD_eq_getD_getElem?,hlt2]
   exact ⟨hT.rel t u _ h hx,hT.own t u _ h hx⟩
theorem results_list (hH:HRel B ω κ S w H) {T:List AV} {tm:Array Value} (hT:VRel .slot ω κ S w T tm.toList) {g:ResultVar→Sem Value} (g1:∀ t,g (.tmp t)=pure (tm.getD t undef))
  (g2:∀ a t,g (.cell a t)=do loadVar t (←asAddr (tm.getD a undef))):∀ (rs:List ResultVar) (vs:List AV),readResults P H T rs=some vs →
  ∃ xs,(rs.mapM g).run P w=.ok xs w∧vs.length=xs.length∧∀ (j:Nat) (u:AV) (x:Value),vs[j]?=some u→xs[j]?=some x→Rel κ S w u x∧((u.plain=true∧True)∨∃ t,(u=getT T t∧x=tm.getD t undef)∧OwnAt ω κ S w (.slot t) u x)
 | [],vs,h=>by
   simp only [readResults,Option.some.injEq] at h;subst h
   exact ⟨[],by simp,rfl,by simp⟩
 | .tmp t::r,vs,h=>by
   simp only [readResults,Option.map_eq_some_iff] at h
   obtain ⟨vs',h,rfl⟩:=h
   obtain ⟨xs,q1,q2,q3⟩:=results_list hH hT g1 g2 r vs' h
   obtain ⟨r1,r2⟩:=getT_rel hT t
   refine ⟨tm.getD t undef::xs,by rw [List.mapM_cons];simp [g1,q1],by simp [q2],fun j u x hu hx=>?_⟩
   cases j with
   | zero=>simp only [List.getElem?_cons_zero,Option.some.injEq] at hu hx;subst hu hx;exact ⟨r1,.inr ⟨t,⟨rfl,rfl⟩,r2⟩⟩
   | succ j=>exact q3 j u x (by simpa using hu) (by simpa using hx)
 | .cell a t::r,vs,h=>by
   simp only [readResults] at h
   split at h
   ·rename_i v vs' hv hvs
    simp only [Option.some.injEq] at h;subst h
    obtain ⟨xs,q1,q2,q3⟩:=results_list hH hT g1 g2 r vs' hvs
    have hr:=(getT_rel hT a).1
    obtain ⟨x,k1,k2,k3⟩:=run_loadAt hH hv hr
    have hp:∃ ad,tm.getD a undef=.pointer (some ad):=by
     unfold aLoad at hv
     generalize tm.getD a undef=va at hr ⊢
     split at hv
     ·rename_i heq;rw [heq] at hr;cases hr;exact ⟨_,rfl⟩
     ·rename_i heq;rw [heq] at hr;cases hr;exact ⟨_,rfl⟩
     ·simp at hv
    obtain ⟨ad,hp⟩:=hp
    rw [hp] at k1
    have k1':(loadVar t ad).run P w=.ok x w:=by simpa [Instr.loadAt,Instr.sureAddr] using k1
    refine ⟨x::xs,by rw [List.mapM_cons];simp [g2,hp,asAddr,k1',q1],by simp [q2],fun j u y hu hx=>?_⟩
    cases j with
    | zero=>simp only [List.getElem?_cons_zero,Option.some.injEq] at hu hx;subst hu hx;exact ⟨k2,.inl ⟨k3,trivial⟩⟩
    | succ j=>exact q3 j u y (by simpa using hu) (by simpa using hx)
   ·simp at h
theorem results_sim (hH:HRel B ω κ S w H) {T:List AV} {tm:Array Value} (hT:VRel .slot ω κ S w T tm.toList) {fn:Func} {vs:List AV} (h:readResults P H T fn.results.toList=some vs) :
  ∃ v,(results fn tm).run P w=.ok v w∧Post B ω κ S w H (packResults vs) v w:=by
 have run:∀ xs,(fn.results.toList.mapM (fun (x:ResultVar)=>match x with | .tmp t=>(pure (tm.getD t undef):Sem Value) | .cell a t=>do loadVar t (←asAddr (tm.getD a undef)))).run P w=.ok xs w →
   (results fn tm).run P w=.ok (if h:xs.toArray.size=1 then xs.toArray[0] else .tuple xs.toArray) w:=fun xs hx=>by
  have hg:results fn tm=(do
    let vs ←fn.results.mapM (fun (x:ResultVar)=>match x with | .tmp t=>(pure (tm.getD t undef):Sem Value) | .cell a t=>do loadVar t (←asAddr (tm.getD a undef)))
    pure (if h:vs.size=1 then vs[0] else .tuple vs)):=by
   unfold results
   congr 1
  rw [hg,Array.mapM_eq_mapM_toList]
  simp only [Sem.run_bind,Sem.run_map,hx,Result.andThen_ok,Sem.run_pure]
 match vs,h with
 | [u],h =>
   obtain ⟨xs,q1,q2,q3⟩:=results_list hH hT (g:=fun x=>match x with | .tmp t=>pure (tm.getD t undef) | .cell a t=>do loadVar t (←asAddr (tm.getD a undef))) (fun _=>rfl) (fun _ _=>rfl) _ _ h
   match xs,q2 with
   | [x],_ =>
     obtain ⟨r1,r2⟩:=q3 0 u x rfl rfl
     refine ⟨x,by rw [run _ q1];rfl,?_⟩
     rcases r2 with ⟨hp,_⟩ | ⟨t,_,ho⟩
     ·exact Post.same hH r1 hp
     ·obtain ⟨ev,hH'⟩:=outLab_rel t hH
      exact ⟨outLab t ω,κ,S,Ext.refl κ,ev,hH',r1,ho.mono (Ext.refl κ) (fun _ _ h=>⟨h,rfl⟩) fun b hb=>⟨by simp [outLab,hb],rfl,fun _ h=>h⟩⟩
 | [],h =>
   obtain ⟨xs,q1,q2,q3⟩:=results_list hH hT (g:=fun x=>match x with | .tmp t=>pure (tm.getD t undef) | .cell a t=>do loadVar t (←asAddr (tm.getD a undef))) (fun _=>rfl) (fun _ _=>rfl) _ _ h
   match xs,q2 with
   | [],_=>exact ⟨.tuple #[],by rw [run _ q1];rfl,Post.same hH (.tuple [] #[] rfl (by simp) (by simp)) rfl⟩
 | u1::u2::us,h =>
   obtain ⟨S1,j1,j2,hH1,hT1,hT2⟩:=settle_both T tm.toList .slot S (fun i j h=>by cases h;rfl) (fun i id=>by simp) (fun i id j=>by simp) hT hH
   have ev0:Ev ω S w ω S1 w:=Ev.settle j1 fun b o h=>(j2 b o h).imp id fun ⟨i,h⟩=>⟨_,h⟩
   obtain ⟨xs,q1,q2,q3⟩:=results_list hH hT (g:=fun x=>match x with | .tmp t=>pure (tm.getD t undef) | .cell a t=>do loadVar t (←asAddr (tm.getD a undef))) (fun _=>rfl) (fun _ _=>rfl) _ _ h
   refine ⟨.tuple xs.toArray,by
    rw [run _ q1]
    have:¬ xs.toArray.size=1:=by simp at q2 ⊢;omega
    rw [dif_neg this],Post.after (Ext.refl κ) ev0 (Post.same hH1 (.tuple _ _ (by simp at q2 ⊢;omega) ?_ ?_) rfl)⟩
   ·intro y hy
    obtain ⟨x,_,rfl⟩:=List.mem_map.1 hy
    exact AV.view_plain x
   ·intro j y x hy hx
    simp only [List.getElem?_map,Option.map_eq_some_iff] at hy
    obtain ⟨u,hu,rfl⟩:=hy
    obtain ⟨r1,r2⟩:=q3 j u x hu (by simpa using hx)
    rcases r2 with ⟨hp,_⟩ | ⟨t,⟨rfl,rfl⟩,_⟩
    ·rw [AV.view_of_plain hp];exact r1.mono (Ext.refl κ) fun b o h=>⟨j1 b o h,rfl⟩
    ·have:=(getT_rel hT2 t).1
     have hv:getT (T.map AV.view) t=(getT T t).view:=by
      rw [getT_eq,getT_eq,List.getD_eq_getElem?_getD,List.getD_eq_getElem?_getD,List.getElem?_map]
      cases T[t]? <;> rfl
     rw [hv] at this;exact this
end
end Go.Proofs.YtfakoboiahbhaaaGreat.Ab


namespace Go.Proofs.YtfakoboiahbhaaaGreat.Ab
open Go
def toPars (ps:List Nat) (ω:Nat→Option Lab):Nat→Option Lab:=fun b=>match ω b with
 | some (.arg i)=>(ps[i]?).map .slot
 | some (.obj id)=>some (.obj id)
 | some (.cell id j)=>some (.cell id j)
 | _=>none
section
variable {P:Program} {B N:Nat} {κ:List Nat} {w:World} {H:List AObj} {ω:Nat→Option Lab} {S:Nat→Nat→Prop}
theorem toPars_rel (ps:List Nat) (hH:HRel B ω κ S w H):Ev ω S w (toPars ps ω) S w∧HRel B (toPars ps ω) κ S w H :=
 relabel hH (fun b h=>by simp [toPars,h]) fun b l h hl=>by
  rcases hl with ⟨id,rfl⟩ | ⟨id,j,rfl⟩ <;> simp [toPars,h]
theorem setParams_get:∀ (ps:List Nat) (us:List AV) (T T':List AV) (xs tm:List Value),setParams ps us T=some T'→us.length=xs.length→T.length=tm.length →
  ps.length=us.length∧T'.length=T.length∧((ps.zip xs).foldl (fun (l:List Value) (p:Nat×Value)=>l.set p.1 p.2) tm).length=tm.length ∧
  ∀ (i:Nat) (u:AV) (x:Value),T'[i]?=some u→((ps.zip xs).foldl (fun (l:List Value) (p:Nat×Value)=>l.set p.1 p.2) tm)[i]?=some x →
    (T[i]?=some u∧tm[i]?=some x)∨∃ (j:Nat),ps[j]?=some i∧us[j]?=some u∧xs[j]?=some x
 | [],[],T,T',xs,tm,h,hl,ht=>by
   simp only [setParams,Option.some.injEq] at h;subst h
   exact ⟨rfl,rfl,by simp,fun i u x hu hx=>.inl ⟨hu,by simpa using hx⟩⟩
 | p::ps,u0::us,T,T',x0::xs,tm,h,hl,ht=>by
   simp only [setParams,setT_eq] at h
   obtain ⟨h1,h2,h3,h4⟩:=setParams_get ps us (T.set p u0) T' xs (tm.set p x0) h (by simpa using hl) (by simpa using ht)
   refine ⟨by simp [h1],by simpa using h2,by simpa using h3,fun i u x hu hx=>?_⟩
   rcases h4 i u x hu (by simpa using hx) with ⟨k1,k2⟩ | ⟨j,k1,k2,k3⟩
   ·by_cases hpi:p=i
    ·subst hpi
     have l1:p<T.length:=by have:=(List.getElem?_eq_some_iff.1 k1).1;simpa using this
     have l2:p<tm.length:=by omega
     rw [List.getElem?_set_self l1] at k1
     rw [List.getElem?_set_self l2] at k2
     exact .inr ⟨0,rfl,by simpa using k1,by simpa using k2⟩
    ·rw [List.getElem?_set_ne hpi] at k1 k2
     exact .inl ⟨k1,k2⟩
   ·exact .inr ⟨j+1,by simpa using k1,by simpa using k2,by simpa using k3⟩
 | [],_::_,T,T',xs,tm,h,hl,ht=>by simp [setParams] at h
 | _::_,[],T,T',xs,tm,h,hl,ht=>by simp [setParams] at h
 | _::_,_::_,T,T',[],tm,h,hl,ht=>by simp at hl
theorem roundTmps_toList (L:Loop) (vs:List Value):(roundTmps L vs).toList=(L.params.toList.zip vs).foldl (fun (l:List Value) (p:Nat×Value)=>l.set p.1 p.2) L.tmps.toList:=by
 unfold roundTmps
 rw [←Array.foldl_toList,Array.toList_zip]
 generalize L.params.toList.zip vs=zs
 generalize L.tmps=tm
 induction zs generalizing tm with
 | nil=>rfl
 | cons z zs ih=>simp only [List.foldl_cons];rw [ih];simp
theorem ARel.loop {s:St} {a:Act} (hA:ARel B N ω κ S w s a) {id b:Nat} {L:Loop} {st:LoopState} {pend:Option Code} {fn:FuncId} {T:List AV} {ps:List Nat} {as bd:Code} {an:FAnn}
  (hid:s.H[id]?=some (.loop st pend fn T ps as bd an)) (hb:κ[id]?=some b) (hL:w.heap[b]?=some (.loop L)) (st':LoopState) (pend':Option Code) :
  Ev ω S w ω S (w.putObj b (.loop { L with state:=st',pending:=pend' }))∧ARel B N ω κ S (w.putObj b (.loop { L with state:=st',pending:=pend' })) ⟨s.T,s.H.set id (.loop st' pend' fn T ps as bd an)⟩ a:=by
 obtain ⟨ev,hH,_⟩:=loop_state hA.H hid hb hL st' pend'
 obtain ⟨_,_,b',L0,a1,a2,_⟩:=hA.H.obj id _ hid
 rw [hb] at a1;cases a1
 refine ⟨ev,⟨⟨hA.T.len,fun i u v hu hv=>(hA.T.rel i u v hu hv).mono (Ext.refl κ) ev.set,fun i u v hu hv=>?_⟩,hH,hA.M.ev ev⟩⟩
 refine (hA.T.own i u v hu hv).mono (Ext.refl κ) ev.set fun b' hb'=>⟨hb',World.putObj_heap_other (fun e=>?_),fun _ h=>h⟩
 subst e;rw [a2] at hb';cases hb'
theorem callF_fn (hmix:P.follows .mixedOrders=true) {C:CallFn} (hC:CSound P C) {k:Nat} {f:Func} {c:Code} (hf:P.funcs[k]?=some f) (hb:f.body=some c) {A:FAnn} (hok:codeOk A c=true)
  {lo d:Nat} {args:List AV} {e:Ex} {s:St} (h:exec P A C k lo d none c 0 ⟨args++List.replicate (f.ntmps-args.length) .junk,H⟩=some (e,s)) (he:e=.normal∨e=.ret) {vs:List AV}
  (hr:readResults P s.H s.T f.results.toList=some vs) {xs:List Value} (hH:HRel B ω κ S w H) (hv:VRel (fun i=>.arg i) ω κ S w args xs) :
  CallsIn Fence.wide 0 P k xs.toArray w (FnPost B ω κ S w s.H (packResults vs)):=by
 refine callsIn_of_wp_marks hf hb trivial ?_
 have hA:=start_rel hH hv f.ntmps
 have ev0:=(toSlots_rel hH).1
 refine exec_sim hC hmix c 0 _ _ _ h hok Fence.wide _ B w.heap.size κ w (toSlots ω) S _ (.inl ⟨rfl,rfl⟩) (fun l a w hg=>hg.elim) hA fun a' w' hs=>?_
 obtain ⟨ω1,κ1,S1,k1,k2,hA1⟩:=hs
 have hleave:LeavesInM Fence.wide 0 P f a'.tmps (FnPost B ω κ S w s.H (packResults vs)) a'.defers .returning w':=by
  refine leaves_marks (ω:=ω1) (S:=S1) (κ:=κ1) (B:=B) (H:=s.H) (ω0:=ω) (S0:=S) (w0:=w) a'.defers w' hA1.M.2.1 hA1.M.2.2 (ev0.trans k2) hA1.H fun w2 j1 j2 j3 j4=>?_
  have hT:VRel .slot ω1 κ1 S1 w2 s.T a'.tmps.toList:=⟨hA1.T.len,fun i u v hu hv=>(hA1.T.rel i u v hu hv).mono (Ext.refl _) (fun b o h=>⟨h,j2 b o h⟩),fun i u v hu hv =>
   (hA1.T.own i u v hu hv).mono (Ext.refl _) (fun b o h=>⟨h,j2 b o h⟩) fun b hb=>⟨hb,j1 b _ hb,fun _ h=>h⟩⟩
  obtain ⟨v,q1,q2⟩:=results_sim j4 hT hr
  exact ⟨v,q1,Post.after k1 j3 q2⟩
 rcases he with rfl | rfl
 ·exact hleave
 ·exact hleave
end
end Go.Proofs.YtfakoboiahbhaaaGreat.Ab


namespace Go.Proofs.YtfakoboiahbhaaaGreat.Ab
open Go
section
variable {P:Program} {B N:Nat} {κ:List Nat} {w:World} {H:List AObj} {ω:Nat→Option Lab} {S:Nat→Nat→Prop}
def roundEnd (l:Nat) (H:List AObj) (fn:FuncId) (T:List AV) (ps:List Nat) (as bd:Code) (an:FAnn):Ex→AV×List AObj
 | .normal=>(.bool true,H.set l (.loop .ready none fn T ps as bd an))
 | .ret=>(.bool false,H.set l (.loop .done (some .ret) fn T ps as bd an))
 | .exit id=>(.bool false,H.set l (.loop .done (some (.exit id)) fn T ps as bd an))
theorem callF_round (hmix:P.follows .mixedOrders=true) {C:CallFn} (hC:CSound P C) {l lo d:Nat} {fn fn':FuncId} {pend0 pend:Option Code} {T T' T2 T3:List AV} {ps ps2 ps3:List Nat} {as bd as2 bd2 as3 bd3:Code} {an an2 an3:FAnn} {fn2 fn3:FuncId} {args:List AV}
  (hl:H[l]?=some (.loop .ready pend0 fn T ps as bd an)) (hset:setParams ps args T=some T') {s1 s2:St} {e:Ex} {pend2:Option Code}
  (h1:exec P an C fn lo d (some l) as 0 ⟨T',H⟩=some (.normal,s1)) (hl1:s1.H[l]?=some (.loop .ready pend fn2 T2 ps2 as2 bd2 an2))
  (h2:exec P an C fn' lo d (some l) bd 0 ⟨s1.T,s1.H.set l (.loop .busy pend fn2 T2 ps2 as2 bd2 an2)⟩=some (e,s2)) (hl2:s2.H[l]?=some (.loop .busy pend2 fn3 T3 ps3 as3 bd3 an3))
  {xs:List Value} {b:Nat} (hH:HRel B ω κ S w H) (hv:VRel (fun i=>.arg i) ω κ S w args xs) (hb:κ[l]?=some b) :
  ∃ L,w.heap[b]?=some (.loop L)∧xs.length=L.params.size ∧
    RoundIn Fence.wide 0 P b L.fn (roundTmps L xs) L.assign L.body w (FnPost B ω κ S w (roundEnd l s2.H fn3 T3 ps3 as3 bd3 an3 e).2 (roundEnd l s2.H fn3 T3 ps3 as3 bd3 an3 e).1):=by
 obtain ⟨c1,c2,b',L,a1,a2,a3,a4,a5,a6,a7,a8,a9,a10,a11⟩:=hH.obj l _ hl
 rw [hb] at a1;cases a1
 have hst:=setParams_get ps args T T' xs L.tmps.toList hset hv.len (by simpa using a7.symm)
 obtain ⟨g1,g2,g3,g4⟩:=hst
 refine ⟨L,a3,by rw [←hv.len,←g1,←a9];simp,?_⟩
 refine roundIn_of_wpIn trivial ?_
 have htm:(roundTmps L xs).toList=(ps.zip xs).foldl (fun (l:List Value) (p:Nat×Value)=>l.set p.1 p.2) L.tmps.toList:=by rw [roundTmps_toList,a9]
 obtain ⟨ev0,hH0⟩:=toPars_rel ps hH
 have hA:ARel B w.heap.size (toPars ps ω) κ S w ⟨T',H⟩ { tmps:=roundTmps L xs,defers:=[] }:=by
  refine ⟨?_,hH0,Nat.le_refl _,fun d hd=>by simp at hd,List.Pairwise.nil⟩
  simp only [htm]
  have key:∀ (i:Nat) (u:AV) (x:Value),T'[i]?=some u→((ps.zip xs).foldl (fun (l:List Value) (p:Nat×Value)=>l.set p.1 p.2) L.tmps.toList)[i]?=some x →
    Rel κ S w u x∧OwnAt (toPars ps ω) κ S w (.slot i) u x:=fun i u x hu hx=>by
   rcases g4 i u x hu hx with ⟨k1,k2⟩ | ⟨j,k1,k2,k3⟩
   ·obtain ⟨p1,p2⟩:=a8 i u x k1 (by simpa using k2)
    exact ⟨p2,OwnAt.of_plain p1⟩
   ·exact ⟨hv.rel j u x k2 k3,(hv.own j u x k2 k3).mono (Ext.refl κ) (fun _ _ h=>⟨h,rfl⟩) fun b hb=>⟨by simp [toPars,hb,k1],rfl,fun _ h=>h⟩⟩
  exact ⟨by rw [g2,g3,←a7];simp,fun i u x hu hx=>(key i u x hu hx).1,fun i u x hu hx=>(key i u x hu hx).2⟩
 rw [a10,a11]
 refine exec_sim hC hmix as 0 _ _ _ h1 c1 _ _ B w.heap.size κ w (toPars ps ω) S _ (.inr ⟨l,b,rfl,hb,rfl⟩) (fun l a w hg=>hg) hA fun a1 w1 hs=>?_
 obtain ⟨ω1,κ1,S1,k1,k2,hA1⟩:=hs
 have hb1:κ1[l]?=some b:=k1 _ _ hb
 obtain ⟨_,_,b',L1,d1,d2,d3,d4,d5,_⟩:=hA1.H.obj l _ hl1
 rw [hb1] at d1;cases d1
 obtain ⟨ev2,hA2⟩:=hA1.loop hl1 hb1 d3 .busy pend
 have hbr:(Instr.beginRound b).run P w1=.ok () (w1.putObj b (.loop { L1 with state:=.busy,pending:=pend })):=by
  rw [run_beginRound d3 d4]
  have:({ L1 with state:=.busy,pending:=pend }:Loop)={ L1 with state:=.busy }:=by rw [←d5]
  rw [this]
 refine ⟨_,hbr,?_⟩
 refine wpIn_mono (Q:=fun e' a' w'=>(∀ t,e'≠Exit.goto t)∧roundPost P b (FnPost B ω κ S w (roundEnd l s2.H fn3 T3 ps3 as3 bd3 an3 e).2 (roundEnd l s2.H fn3 T3 ps3 as3 bd3 an3 e).1) e' a' w') ?_ (fun e a w h=>h.2)
 refine exec_sim hC hmix bd 0 _ _ _ h2 c2 _ _ B w.heap.size κ1 _ ω1 S1 _ (.inr ⟨l,b,rfl,hb1,rfl⟩) (fun l a w hg=>hg.1 l rfl) hA2 fun a2 w2 hs=>?_
 obtain ⟨ω2,κ2,S2,k3,k4,hA3⟩:=hs
 have hb2:κ2[l]?=some b:=k3 _ _ hb1
 obtain ⟨_,_,b',L2,f1,f2,f3,f4,f5,_⟩:=hA3.H.obj l _ hl2
 rw [hb2] at f1;cases f1
 have evA:Ev ω S w ω2 S2 w2:=((ev0.trans k2).trans ev2).trans k4
 have fin:∀ (st:LoopState) (jump:Option Code),Post B ω κ S w (s2.H.set l (.loop st jump fn3 T3 ps3 as3 bd3 an3)) (.bool jump.isNone) (.bool jump.isNone) (w2.putObj b (.loop { L2 with state:=st,pending:=jump })):=fun st jump=>by
  obtain ⟨ev5,hA5⟩:=hA3.loop hl2 hb2 f3 st jump
  exact ⟨ω2,κ2,S2,k1.trans k3,evA.trans ev5,hA5.H,.bool _,OwnAt.of_plain rfl⟩
 refine ⟨fun t ht=>(by cases e <;> cases ht),?_⟩
 cases e with
 | normal=>exact ⟨_,_,run_endRound none f3,fin .ready none⟩
 | ret=>exact ⟨_,_,run_endRound (some .ret) f3,fin .done (some .ret)⟩
 | exit id=>exact ⟨_,_,run_endRound (some (.exit id)) f3,fin .done (some (.exit id))⟩
theorem callF_sound (hmix:P.follows .mixedOrders=true) (A:FuncId→FAnn) {tab:CallFn} (ht:CSound P tab)
  (hok : ∀ k f c, (A k).bad = false → P.funcs[k]? = some f → f.body = some c → codeOk (A k) c = true ∧ f.name ≠ "runtime.NumGoroutine") : ∀ d, CSound P (callF P A tab d)
 | 0=>⟨fun h=>by simp [callF] at h,fun h=>by simp [callF] at h⟩
 | d+1=>by
   have hC:=callF_sound hmix A ht hok d
   have fnc:∀ {k:FuncId} {args:List AV} {H:List AObj} {lo:Nat} {r:AV} {H':List AObj},callF P A tab (d+1) (.fn k) args H lo=some (r,H')→tab (.fn k) args H lo=some (r,H') ∨
     ∃ f c e s vs,(A k).bad=false∧P.funcs[k]?=some f∧f.body=some c∧exec P (A k) (callF P A tab d) k lo d none c 0 ⟨args++List.replicate (f.ntmps-args.length) .junk,H⟩=some (e,s)∧(e=.normal∨e=.ret) ∧
       readResults P s.H s.T f.results.toList=some vs∧r=packResults vs∧H'=s.H:=fun {k args H lo r H'} h=>by
    simp only [callF] at h
    split at h
    ·rename_i x hx
     cases h;exact .inl hx
    ·right
     split at h
     ·simp at h
     rename_i hbad
     split at h
     ·rename_i f hf
      split at h
      ·rename_i c hb
       split at h
       ·rename_i s hs
        simp only [Option.map_eq_some_iff,Prod.mk.injEq] at h
        obtain ⟨vs,hr,rfl,rfl⟩:=h
        exact ⟨f,c,_,s,vs,hbad,hf,hb,hs,.inl rfl,hr,rfl,rfl⟩
       ·rename_i s hs
        simp only [Option.map_eq_some_iff,Prod.mk.injEq] at h
        obtain ⟨vs,hr,rfl,rfl⟩:=h
        exact ⟨f,c,_,s,vs,hbad,hf,hb,hs,.inr rfl,hr,rfl,rfl⟩
       ·simp at h
      ·simp at h
     ·simp at h
   have yld:∀ {l:Nat} {args:List AV} {H:List AObj} {lo:Nat} {r:AV} {H':List AObj},callF P A tab (d+1) (.yield l) args H lo=some (r,H') →
     ∃ pend0 fn T ps as bd an T' s1 pend fn2 T2 ps2 as2 bd2 an2 e s2 pend2 fn3 T3 ps3 as3 bd3 an3,lo≤l∧H[l]?=some (.loop .ready pend0 fn T ps as bd an)∧setParams ps args T=some T' ∧
       exec P an (callF P A tab d) fn lo d (some l) as 0 ⟨T',H⟩=some (.normal,s1)∧s1.H[l]?=some (.loop .ready pend fn2 T2 ps2 as2 bd2 an2) ∧
       exec P an (callF P A tab d) fn2 lo d (some l) bd 0 ⟨s1.T,s1.H.set l (.loop .busy pend fn2 T2 ps2 as2 bd2 an2)⟩=some (e,s2)∧s2.H[l]?=some (.loop .busy pend2 fn3 T3 ps3 as3 bd3 an3) ∧
       (r,H')=roundEnd l s2.H fn3 T3 ps3 as3 bd3 an3 e:=fun {l args H lo r H'} h=>by
    simp only [callF] at h
    split at h
    ·simp at h
    ·rename_i hlo
     split at h
     ·rename_i pend0 fn T ps as bd an hl
      split at h
      ·rename_i T' hset
       split at h
       ·rename_i s1 h1
        split at h
        ·rename_i pend fn2 T2 ps2 as2 bd2 an2 hl1
         split at h
         ·rename_i e s2 h2
          split at h
          ·rename_i pend2 fn3 T3 ps3 as3 bd3 an3 hl2
           refine ⟨pend0,fn,T,ps,as,bd,an,T',s1,pend,fn2,T2,ps2,as2,bd2,an2,e,s2,pend2,fn3,T3,ps3,as3,bd3,an3,by omega,hl,hset,h1,hl1,h2,hl2,?_⟩
           cases e <;> simp only [Option.some.injEq] at h <;> exact h.symm
          ·simp at h
         ·simp at h
        ·simp at h
       ·simp at h
      ·simp at h
     ·simp at h
   refine ⟨fun {tgt args H lo r H'} h=>?_,fun {tgt args H lo r H'} h=>?_⟩
   ·cases tgt with
    | fn k =>
      rcases fnc h with h | ⟨f,c,e,s,vs,_,_,_,h3,_,_,_,rfl⟩
      ·exact ht.low h
      ·exact exec_low hC c 0 _ e s h3
    | yield l =>
      obtain ⟨pend0,fn,T,ps,as,bd,an,T',s1,pend,fn2,T2,ps2,as2,bd2,an2,e,s2,pend2,fn3,T3,ps3,as3,bd3,an3,hlo,hl,hset,h1,hl1,h2,hl2,hr⟩:=yld h
      have m1:=exec_low hC as 0 _ _ s1 h1
      have m2:=exec_low hC bd 0 _ e s2 h2
      have m3:Low lo s2.H (roundEnd l s2.H fn3 T3 ps3 as3 bd3 an3 e).2:=by cases e <;> exact Low.set _ _ hlo
      rw [←hr] at m3
      exact (m1.trans ((Low.set s1.H _ hlo).trans m2)).trans m3
   ·cases tgt with
    | fn k =>
      rcases fnc h with h | ⟨f,c,e,s,vs,hbad,hf,hb,h3,he,hr,rfl,rfl⟩
      ·exact ht.ok h
      obtain ⟨o1,o2⟩:=hok k f c hbad hf hb
      exact ⟨⟨f,hf,by simp [hb],o2⟩,fun B ω κ S w xs hH _ hv=>callF_fn hmix hC hf hb o1 h3 he hr hH hv⟩
    | yield l =>
      obtain ⟨pend0,fn,T,ps,as,bd,an,T',s1,pend,fn2,T2,ps2,as2,bd2,an2,e,s2,pend2,fn3,T3,ps3,as3,bd3,an3,hlo,hl,hset,h1,hl1,h2,hl2,hr⟩:=yld h
      intro B ω κ S w xs b hH _ hv hb
      have:=callF_round hmix hC hl hset h1 hl1 h2 hl2 hH hv hb
      rw [←hr] at this
      exact this
end
end Go.Proofs.YtfakoboiahbhaaaGreat.Ab


namespace Go.Proofs.YtfakoboiahbhaaaGreat.Ab
open Go
def Sem (P:Program) (tgt:Tgt) (args:List AV) (H:List AObj) (lo:Nat) (r:AV) (H':List AObj):Prop:=Low lo H H'∧TgtOk P tgt args H H' r
def PureOk (P:Program) (k:FuncId) (args:List AV) (v:AV):Prop:=Sem P (.fn k) args [] 0 v []∧pureD 8 v=true
abbrev PAcc:=List (FuncId×List AV×AV)
def PAccOk (P:Program) (acc:PAcc):Prop:=(∀ p∈acc,PureOk P p.1 p.2.1 p.2.2)∧∀ p∈acc,∀ q∈acc,p.1=q.1→p.2.1=q.2.1→p.2.2=q.2.2
def Agr (C:CallFn) (acc:PAcc):Prop:=∀ p∈acc,∃ r H2,C (.fn p.1) p.2.1 [] 0=some (r,H2)∧frz H2 0 H2.length 0 8 r=some p.2.2
section
variable {P:Program}
theorem csound_of {C:CallFn} (h:∀ tgt args H lo r H',C tgt args H lo=some (r,H')→Sem P tgt args H lo r H'):CSound P C :=
 ⟨fun hc=>(h _ _ _ _ _ _ hc).1,fun hc=>(h _ _ _ _ _ _ hc).2⟩
theorem CSound.sem {C:CallFn} (hC:CSound P C) {tgt:Tgt} {args:List AV} {H:List AObj} {lo:Nat} {r:AV} {H':List AObj} (h:C tgt args H lo=some (r,H')):Sem P tgt args H lo r H':=⟨hC.low h,hC.ok h⟩
theorem csound_none:CSound P (fun _ _ _ _=>none):=csound_of fun _ _ _ _ _ _ h=>by cases h
noncomputable def oneC (tgt:Tgt) (args:List AV) (H:List AObj) (lo:Nat) (r:AV) (H':List AObj):CallFn:=fun t a h l =>
 open Classical in if t=tgt∧a=args∧h=H∧l=lo then some (r,H') else none
theorem oneC_self (tgt:Tgt) (args:List AV) (H:List AObj) (lo:Nat) (r:AV) (H':List AObj):oneC tgt args H lo r H' tgt args H lo=some (r,H'):=by simp [oneC]
theorem oneC_sound {tgt:Tgt} {args:List AV} {H:List AObj} {lo:Nat} {r:AV} {H':List AObj} (h:Sem P tgt args H lo r H'):CSound P (oneC tgt args H lo r H') :=
 csound_of fun t a h' l r' H2 hc=>by
  unfold oneC at hc
  split at hc
  ·rename_i he
   obtain ⟨rfl,rfl,rfl,rfl⟩:=he
   cases hc;exact h
  ·cases hc
theorem mapO_id {f:AV→Option AV}:∀ {l:List AV},(∀ u∈l,f u=some u)→mapO f l=some l
 | [],_=>rfl
 | u::l,h=>by
   simp only [mapO,h u (by simp),mapO_id (l:=l) fun v hv=>h v (by simp [hv]),Option.map_some]
theorem frz_pure {H:List AObj} {lo id0 n:Nat}:∀ {d:Nat} {v:AV},pureD d v=true→frz H lo id0 n d v=some v
 | 0,v,h=>by simp [pureD] at h
 | d+1,v,h=>by
   have key:∀ {l:List AV},l.all (pureD d)=true→mapO (frz H lo id0 n d) l=some l:=fun h=>mapO_id fun u hu=>frz_pure (by rw [List.all_eq_true] at h;exact h u hu)
   cases v <;> simp only [pureD,Bool.false_eq_true] at h <;> try rfl
   case lst cells len c=>simp only [frz,key h,Option.map_some]
   case lptr cells=>simp only [frz,key h,Option.map_some]
   case agg cs=>simp only [frz,key h,Option.map_some]
   case tuple cs=>simp only [frz,key h,Option.map_some]
   case func f a b =>
    simp only [Bool.and_eq_true] at h
    simp only [frz,key h.1,key h.2]
theorem acc_table {acc:PAcc} (h:PAccOk P acc):∃ C,CSound P C∧Agr C acc:=by
 classical
 obtain ⟨h1,h2⟩:=h
 have key:∀ x:Tgt×List AV×List AObj×Nat,∃ o:Option (AV×List AObj),(∀ r H',o=some (r,H')→Sem P x.1 x.2.1 x.2.2.1 x.2.2.2 r H') ∧
   ∀ p∈acc,x=(.fn p.1,p.2.1,[],0)→∃ r H2,o=some (r,H2)∧frz H2 0 H2.length 0 8 r=some p.2.2:=fun x=>by
  by_cases hx:∃ p∈acc,x=(.fn p.1,p.2.1,[],0)
  ·obtain ⟨p,hp,rfl⟩:=hx
   obtain ⟨q1,q2⟩:=h1 p hp
   refine ⟨some (p.2.2,[]),fun r' H' e=>by cases e;exact q1,fun q hq e=>?_⟩
   simp only [Prod.mk.injEq,Tgt.fn.injEq] at e
   exact ⟨p.2.2,[],rfl,by rw [frz_pure q2,h2 p hp q hq e.1 e.2.1]⟩
  ·exact ⟨none,(fun r H' e=>nomatch e),fun p hp e=>absurd ⟨p,hp,e⟩ hx⟩
 let C:CallFn:=fun t a H l=>Classical.choose (key (t,a,H,l))
 have hC:∀ t a H l,_:=fun t a H l=>Classical.choose_spec (key (t,a,H,l))
 exact ⟨C,csound_of fun t a H l r H' hc=>(hC t a H l).1 r H' hc,fun p hp=>(hC _ _ _ _).2 p hp rfl⟩
def NextP (o:Oper) (s:St) (K:St→Prop):Prop :=
 ∃ it r m since seen es clock,o.op=.next it false∧o.guard=none∧Ab.ev s.T it=.ptr r 0∧s.H[r]?=some (.iter m since seen clock)∧s.H[m]?=some (.map es clock)∧since≤clock∧(∀ e∈es,e.1<since) ∧
   ((∀ e∈es,e.1∈seen)→K ⟨put s.T o.dst (.tuple [.bool false]),s.H⟩) ∧
   ∀ e∈es,e.1 ∉ seen→K ⟨put s.T o.dst (.tuple [.bool true,e.2.1,e.2.2]),s.H.set r (.iter m since (seen++[e.1]) clock)⟩
section
variable {B N:Nat} {κ:List Nat} {w:World} {H:List AObj} {ω:Nat→Option Lab} {S:Nat→Nat→Prop}
theorem iter_write (hH:HRel B ω κ S w H) {id m since since' stepped stepped':Nat} {seen seen':List Nat} (hid:H[id]?=some (.iter m since seen stepped)) {b bm:Nat}
  (a1:κ[id]?=some b) (a2:ω b=some (.obj id)) (a3:κ[m]?=some bm) (a5:∀ o,¬ S b o) :
  Ev ω S w ω S (w.putObj b (.mapIter (some bm) since' seen'.toArray stepped'))∧HRel B ω κ S (w.putObj b (.mapIter (some bm) since' seen'.toArray stepped')) (H.set id (.iter m since' seen' stepped')):=by
 have hSne:∀ b' o,S b' o→b'≠b:=fun b' o hs e=>a5 o (e ▸ hs)
 have hb:=(hH.base b _ a2).2
 have ev:Ev ω S w ω S (w.putObj b (.mapIter (some bm) since' seen'.toArray stepped')) :=
  ⟨rfl,rfl,rfl,by simp,fun b' _ hn=>World.putObj_heap_other (fun e=>by subst e;rw [a2] at hn;cases hn),fun b' o hs=>⟨hs,putObj_cell (hSne b' o hs)⟩,fun b' o hs=>.inl hs,fun b' h=>.inl h⟩
 refine ⟨ev,by simpa using hH.klen,fun id' o ho=>?_,fun b' o hs=>?_,fun b' l h=>by simpa using hH.base b' l h,by simpa using hH.bsz⟩
 ·by_cases hid':id'=id
  ·subst hid'
   rw [List.getElem?_set_self (List.getElem?_eq_some_iff.1 hid).1] at ho
   cases ho
   exact ⟨b,bm,a1,a2,a3,World.putObj_heap_same hb,a5⟩
  ·rw [List.getElem?_set_ne (fun e=>hid' e.symm)] at ho
   refine (hH.obj id' o ho).frame (Ext.refl κ) ev.set fun b' l0 hb' hl0=>?_
   have hne:b'≠b:=fun e=>by
    subst e;rw [a2] at hb';cases hb'
    rcases hl0 with h | ⟨j,h⟩
    ·cases h;exact hid' rfl
    ·cases h
   exact ⟨hb',World.putObj_heap_other hne,fun o hs=>hs⟩
 ·obtain ⟨v,hv⟩:=hH.swf b' o hs
  exact ⟨v,(putObj_cell (hSne b' o hs)).trans hv⟩
theorem next_sim {F:Fence} (hF:Fen F) {o:Oper} {s:St} {K':St→Prop} (h:NextP o s K') {a:Act} (hA:ARel B N ω κ S w s a)
  {K:Act→World→Prop} {Q:Exit→Act→World→Prop} (hK:∀ s',K' s'→∀ a' w',Step B N ω κ S w s' a' w'→K a' w'):o.wpIn F 0 P a w K Q:=by
 obtain ⟨it,r,m,since,seen,es,clock,hop,hg,hit,hr,hm,hsc,hold,k0,k1⟩:=h
 have hnd:∀ c,o.op≠.defer c:=fun c hc=>by rw [hop] at hc;cases hc
 refine ⟨fun f _=>hF.fn f,?_⟩
 rw [Oper.semAt_eq _ _ _ hnd]
 have hev:=hA.ev it
 rw [hit] at hev
 have hH0:=hrel_hide hA.H
 obtain ⟨b,bm,a1,a2,a3,a4,a5⟩:=hH0.obj r _ hr
 obtain ⟨bm',ents,c1,c2,c3,c4,c5,c6⟩:=hH0.obj m _ hm
 rw [a3] at c1;cases c1
 generalize hv:a.eval it=v at hev
 cases hev with
 | ptr _ _ b' kb =>
   rw [a1] at kb;cases kb
   have hborn:∀ x∈ents.toList,x.born<since:=fun x hx=>by
    obtain ⟨j,hj⟩:=List.mem_iff_getElem?.1 hx
    have hj':ents[j]?=some x:=by simpa using hj
    have hlt:j<es.length:=by have:=(Array.getElem?_eq_some_iff.1 hj').1;omega
    rcases hh:es[j] with ⟨i,k,v⟩
    have he:es[j]?=some (i,k,v):=by rw [List.getElem?_eq_getElem hlt,hh]
    rw [(c6 j i k v x he hj').1]
    exact hold (i,k,v) (List.mem_of_getElem? he)
   have done:∀ {r':AV} {H':List AObj} {v:Value} {w':World},Post B (hide ω) κ S w H' r' v w'→K' ⟨put s.T o.dst r',H'⟩→K (a.put o.dst v) w':=fun {r' H' v w'} hp hk=>by
    obtain ⟨ω',κ',S',q1,q2,hA',_⟩:=op_done o.dst hA hp .junk (fun _ _ _ _ _=>.junk _)
    exact hK _ hk _ _ ⟨ω',κ',S',q1,q2,hA'⟩
   rcases run_next_at (P:=P) w o.type b bm since clock seen.toArray ents clock a4 c3 hborn hsc with ⟨hn,hrun⟩ | ⟨x,hx,w1,hw1,hrun⟩
   ·have hrun':(Go.execOp a.eval o).run P w=.ok (.value (.tuple #[.bool false])) w:=by simp [Go.execOp,hop,hv,hrun]
    rw [hrun']
    refine done (Post.same hH0 (.tuple _ _ rfl (by simp [AV.plain]) fun j u v' hu hv'=>?_) rfl) (k0 fun e he=>?_)
    ·match j with
     | 0=>simp at hu hv';subst hu;subst hv';exact .bool _
     | j+1=>simp at hu
    ·obtain ⟨j,hj⟩:=List.mem_iff_getElem?.1 he
     have hlt:j<es.length:=(List.getElem?_eq_some_iff.1 hj).1
     have hx:ents[j]?=some ents[j]:=Array.getElem?_eq_getElem (by omega)
     have hb:=(c6 j e.1 e.2.1 e.2.2 _ hj hx).1
     have hempty:leftOf ents seen.toArray=#[]:=Array.eq_empty_of_size_eq_zero hn
     unfold leftOf at hempty
     rw [Array.filter_eq_empty_iff] at hempty
     have:=hempty ents[j] (by simp)
     simpa [hb] using this
   ·have hrun':(Go.execOp a.eval o).run P w=.ok (.value (.tuple #[.bool true,x.key,x.val])) (w1.putObj b (.mapIter (some bm) since (seen++[x.born]).toArray clock)):=by
     simp [Go.execOp,hop,hv,hrun,Go.ChangeMaps.setBlock,World.putObj]
    rw [hrun']
    have hx':x∈ents.toList∧x.born ∉ seen:=by
     unfold leftOf at hx
     simpa using hx
    obtain ⟨j,hj⟩:=List.mem_iff_getElem?.1 hx'.1
    have hj':ents[j]?=some x:=by simpa using hj
    have hlt:j<es.length:=by have:=(Array.getElem?_eq_some_iff.1 hj').1;omega
    rcases hh:es[j] with ⟨i,k,v⟩
    have he:es[j]?=some (i,k,v):=by rw [List.getElem?_eq_getElem hlt,hh]
    obtain ⟨d1,d2,d3,d4,d5⟩:=c6 j i k v x he hj'
    have hmem:(i,k,v)∈es:=List.mem_of_getElem? he
    refine done (r':=.tuple [.bool true,k,v]) (H':=s.H.set r (.iter m since (seen++[i]) clock)) ?_ (k1 _ hmem (by rw [←d1];exact hx'.2))
    have hw:HRel B (hide ω) κ S w1 s.H:=by rcases hw1 with rfl | rfl;exact hH0;exact hrel_drew hH0
    have hev1:Ev (hide ω) S w (hide ω) S w1:=by rcases hw1 with rfl | rfl;exact Ev.refl _ _ _;exact drew_ev _ _ _
    refine Post.after (Ext.refl κ) hev1 ?_
    obtain ⟨ev,hH'⟩:=iter_write hw (since':=since) (stepped':=clock) (seen':=seen++[i]) hr a1 a2 a3 a5
    rw [d1]
    refine ⟨hide ω,κ,S,Ext.refl κ,ev,hH',.tuple _ _ rfl (fun u hu=>?_) (fun j u v' hu hv'=>?_),OwnAt.of_plain rfl⟩
    ·simp only [List.mem_cons,List.not_mem_nil,or_false] at hu
     rcases hu with rfl | rfl | rfl
     ·rfl
     ·exact d2
     ·exact d4
    ·match j with
     | 0=>simp at hu hv';subst hu;subst hv';exact .bool _
     | 1=>simp at hu hv';subst hu;subst hv';exact (d3.mono (Ext.refl κ) hev1.set).mono (Ext.refl κ) ev.set
     | 2=>simp at hu hv';subst hu;subst hv';exact (d5.mono (Ext.refl κ) hev1.set).mono (Ext.refl κ) ev.set
     | j+3=>simp at hu
end
end
end Go.Proofs.YtfakoboiahbhaaaGreat.Ab


namespace Go.Proofs.YtfakoboiahbhaaaGreat.Ab
open Go
section
variable (P:Program)
def StepN (lo:Nat) (ops:Array Oper) (o:Oper) (an:OpAnn) (s:St) (K:St→Prop):Prop :=
 (∃ C s',CSound P C∧stepA P C lo ops o an s=some s'∧K s')∨NextP o s K
def runN (lo:Nat) (ops:Array Oper):List Oper→List OpAnn→St→(St→Prop)→Prop
 | [],_,s,K=>K s
 | o::r,as,s,K=>StepN P lo ops o (as.headD {}) s fun s'=>runN lo ops r as.tail s' K
def runD (lo:Nat) (ops:Array Oper) (as:List OpAnn) (s:St) (K:St→Prop):Prop :=
 ∃ acc s',PAccOk P acc∧(∀ C,CSound P C→Agr C acc→execOps P C lo ops ops.toList as s=some s')∧K s'
def LoopW (f:St→(Ex→St→Prop)→Prop):Nat→St→(Ex→St→Prop)→Prop
 | 0,_,_=>False
 | n+1,s,Q=>f s fun e s'=>match e with
   | .normal=>LoopW f n s' Q
   | e=>Q e s'
def wpA (A:FAnn) (fn:FuncId) (lo:Nat) (rl:Option Nat):Code→Nat→St→(Ex→St→Prop)→Prop
 | .skip,_,s,Q=>Q .normal s
 | .region id ops draw,_,s,Q=>match draw with
   | true=>runD P lo ops (A.ops.getD id []) (keepSt A.keepR id s) (Q .normal)
   | false=>runN P lo ops ops.toList (A.ops.getD id []) (keepSt A.keepR id s) (Q .normal)
 | .seq a b,bid,s,Q=>wpA A fn lo rl a bid s fun e s'=>match e with
   | .normal=>wpA A fn lo rl b bid s' Q
   | e=>Q e s'
 | .cond c a b,bid,s,Q=>∃ t,ev s.T c=.bool t∧match t with
   | true=>wpA A fn lo rl a bid s Q
   | false=>wpA A fn lo rl b bid s Q
 | .block id body,_,s,Q=>wpA A fn lo rl body id s fun e s'=>match e with
   | .exit id'=>if id'=id then Q .normal s' else Q (.exit id') s'
   | e=>Q e s'
 | .loop body,bid,s,Q=>∃ n,LoopW (fun s'=>wpA A fn lo rl body bid (keepSt A.keepL bid s')) n s Q
 | .exit id,_,s,Q=>Q (.exit id) s
 | .ret,_,s,Q=>Q .ret s
 | .scope body,bid,s,Q=>wpA A fn lo rl body bid s Q
 | .label _,_,s,Q=>Q .normal s
 | .rangeFunc f params assign body,bid,s,Q=>∃ C e s',CSound P C∧exec P A C fn lo 0 rl (.rangeFunc f params assign body) bid s=some (e,s')∧Q e s'
 | _,_,_,_=>False
end
section
variable {P:Program} {B N:Nat} {κ:List Nat} {w:World} {H:List AObj} {ω:Nat→Option Lab} {S:Nat→Nat→Prop}
theorem stepN_sim {F:Fence} (hF:Fen F) {lo:Nat} {ops:Array Oper} {o:Oper} {an:OpAnn} {s:St} {K':St→Prop} (h:StepN P lo ops o an s K') {a:Act} (hA:ARel B N ω κ S w s a)
  {rest:List Oper} {Q:Exit→Act→World→Prop} (hK:∀ s',K' s'→∀ a' w',Step B N ω κ S w s' a' w'→wpListIn F 0 P ops Q rest a' w'):wpListIn F 0 P ops Q (o::rest) a w:=by
 rcases h with ⟨C,s',hC,h,hk⟩ | h
 ·unfold stepA at h
  unfold wpListIn
  split at h
  ·rename_i hw
   rw [wantedA_sound hA hw]
   simp only [if_true]
   exact step_sim hF hC h hA fun a' w' hs=>hK s' hk a' w' hs
  ·rename_i hw
   rw [wantedA_sound hA hw]
   simp only [Bool.false_eq_true,if_false]
   simp only [Option.some.injEq] at h;subst h
   exact ⟨fun f _=>hF.fn f,hK _ hk _ _ (Step.here (hA.skip o.dst))⟩
  ·simp at h
 ·have hg:o.guard=none:=by obtain ⟨_,_,_,_,_,_,_,_,hg,_⟩:=h;exact hg
  unfold wpListIn
  have hw:Region.wanted o (yielded ops a.tmps)=true:=by unfold Region.wanted;rw [hg]
  rw [hw]
  simp only [if_true]
  exact next_sim hF h hA fun s' hk a' w' hs=>hK s' hk a' w' hs
theorem runN_sim {F:Fence} (hF:Fen F) {lo:Nat} {ops:Array Oper} {K':St→Prop} {Q:Exit→Act→World→Prop} :
  ∀ (rest:List Oper) (as:List OpAnn) (s:St) (a:Act) (w:World) (ω:Nat→Option Lab) (κ:List Nat) (S:Nat→Nat→Prop),runN P lo ops rest as s K'→ARel B N ω κ S w s a →
    (∀ s',K' s'→∀ a' w',Step B N ω κ S w s' a' w'→Q .normal a' w')→wpListIn F 0 P ops Q rest a w
 | [],as,s,a,w,ω,κ,S,h,hA,hQ=>hQ s h a w (Step.here hA)
 | o::rest,as,s,a,w,ω,κ,S,h,hA,hQ=>by
   refine stepN_sim hF h hA fun s' hk a' w' hs=>?_
   obtain ⟨ω1,κ1,S1,k1,k2,hA1⟩:=hs
   exact runN_sim hF rest as.tail s' a' w' ω1 κ1 S1 hk hA1 fun s'' hk'' a'' w'' hs2=>hQ s'' hk'' a'' w'' (hs2.trans k1 k2)
theorem loopW_sim {F:Fence} {c:Code} {f:St→(Ex→St→Prop)→Prop} {Q':Ex→St→Prop} {Q:Exit→Act→World→Prop} {s:St} {a:Act} {n:Nat}
  (h:LoopW f n s Q') (hA:ARel B N ω κ S w s a) (hQ:∀ e s',Q' e s'→∀ a' w',Step B N ω κ S w s' a' w'→Q (toExit e) a' w')
  (hbody:∀ (s1:St) (Q1:Ex→St→Prop),f s1 Q1→∀ (Q2:Exit→Act→World→Prop) (a1:Act) (w1:World),(∀ l a w,Q2 (.goto l) a w→Q (.goto l) a w)→Step B N ω κ S w s1 a1 w1 →
   (∀ e s2,Q1 e s2→∀ a' w',Step B N ω κ S w s2 a' w'→Q2 (toExit e) a' w')→c.wpIn F 0 P Q2 a1 w1):(Code.loop c).wpIn F 0 P Q a w:=by
 classical
 let Inv:Nat→Act→World→Prop:=fun n a' w'=>∃ s1,LoopW f n s1 Q'∧Step B N ω κ S w s1 a' w'
 let μ:Act→World→Nat:=fun a' w'=>if h:∃ n,Inv n a' w' then Classical.choose (exists_least h) else 0
 have hμ:∀ a' w',(∃ n,Inv n a' w')→Inv (μ a' w') a' w'∧∀ m,Inv m a' w'→μ a' w'≤m:=fun a' w' h=>by
  have:μ a' w'=Classical.choose (exists_least h):=by simp only [μ,dif_pos h]
  rw [this];exact Classical.choose_spec (exists_least h)
 refine wpIn_loop (fun a' w'=>∃ n,Inv n a' w') μ ⟨n,s,h,Step.here hA⟩ fun a1 w1 hI=>?_
 obtain ⟨⟨s1,h1,hs1⟩,_⟩:=hμ a1 w1 hI
 cases hn:μ a1 w1 with
 | zero=>rw [hn] at h1;exact h1.elim
 | succ m =>
   rw [hn] at h1
   simp only [LoopW] at h1
   refine hbody s1 _ h1 _ a1 w1 (fun l a w h=>h) hs1 fun e s2 hk a' w' hs2=>?_
   cases e with
   | normal =>
     have hinv:Inv m a' w':=⟨s2,hk,hs2⟩
     exact ⟨⟨m,hinv⟩,Nat.lt_succ_of_le ((hμ a' w' ⟨m,hinv⟩).2 m hinv)⟩
   | ret=>exact hQ .ret s2 hk a' w' hs2
   | exit id=>exact hQ (.exit id) s2 hk a' w' hs2
theorem wpA_sim (hmix:P.follows .mixedOrders=true) {A:FAnn} {fn:FuncId} {lo:Nat} {rl:Option Nat} :
  ∀ (c:Code) (bid:Nat) (s:St) (K:Ex→St→Prop),wpA P A fn lo rl c bid s K→codeOk A c=true →
    ∀ (F:Fence) (Q:Exit→Act→World→Prop) (B N:Nat) (κ:List Nat) (w:World) (ω:Nat→Option Lab) (S:Nat→Nat→Prop) (a:Act),FenR F rl κ→(∀ l a w,¬ Q (.goto l) a w) →
      ARel B N ω κ S w s a→(∀ e s',K e s'→∀ a' w',Step B N ω κ S w s' a' w'→Q (toExit e) a' w')→c.wpIn F 0 P Q a w:=by
 intro c
 induction c with
 | skip=>intro bid s K h _ F Q B N κ w ω S a hF hg hA hQ;exact wpIn_skip (hQ _ _ h a w (Step.here hA))
 | label l=>intro bid s K h _ F Q B N κ w ω S a hF hg hA hQ;exact wpIn_label (hQ _ _ h a w (Step.here hA))
 | ret=>intro bid s K h _ F Q B N κ w ω S a hF hg hA hQ;exact wpIn_ret (hQ _ _ h a w (Step.here hA))
 | exit id=>intro bid s K h _ F Q B N κ w ω S a hF hg hA hQ;exact wpIn_exit (hQ _ _ h a w (Step.here hA))
 | goto l=>intro bid s K h;exact h.elim
 | refuse y=>intro bid s K h;exact h.elim
 | region id ops draw =>
   intro bid s K h hok F Q B N κ w ω S a hF hg hA hQ
   cases draw with
   | true =>
     obtain ⟨acc,s',hacc,hx,hk⟩:=h
     obtain ⟨C,hC,hag⟩:=acc_table hacc
     exact region_sim hF.fen hmix hC (fun _=>by simpa [codeOk] using hok) (hx C hC hag) (hA.keep _ _) fun a' w' hs=>hQ _ _ hk a' w' hs
   | false=>exact wpIn_region_list (runN_sim hF.fen ops.toList _ _ a w ω κ S h (hA.keep _ _) fun s' hk a' w' hs=>hQ _ _ hk a' w' hs)
 | seq x y ihx ihy =>
   intro bid s K h hok F Q B N κ w ω S a hF hg hA hQ
   simp only [codeOk,Bool.and_eq_true] at hok
   refine wpIn_seq (ihx _ _ _ h hok.1 F _ B N κ w ω S a hF (fun l a w=>hg l a w) hA fun e s1 hk a' w' hs=>?_)
   cases e with
   | normal =>
     obtain ⟨ω1,κ1,S1,k1,k2,hA1⟩:=hs
     exact ihy _ _ _ hk hok.2 F Q B N κ1 w' ω1 S1 a' (hF.ext k1) hg hA1 fun e s2 hk2 a'' w'' hs2=>hQ e s2 hk2 a'' w'' (hs2.trans k1 k2)
   | ret=>exact hQ _ _ hk a' w' hs
   | exit id=>exact hQ _ _ hk a' w' hs
 | cond x t f iht ihf =>
   intro bid s K h hok F Q B N κ w ω S a hF hg hA hQ
   simp only [codeOk,Bool.and_eq_true] at hok
   obtain ⟨b,hb,h⟩:=h
   have hr:=hA.ev x
   rw [hb] at hr
   cases b with
   | true=>exact wpIn_cond_true hr.bool_inv (iht _ _ _ h hok.1 F Q B N κ w ω S a hF hg hA hQ)
   | false=>exact wpIn_cond_false hr.bool_inv (ihf _ _ _ h hok.2 F Q B N κ w ω S a hF hg hA hQ)
 | block id c ih =>
   intro bid s K h hok F Q B N κ w ω S a hF hg hA hQ
   refine wpIn_block ?_
   refine ih _ _ _ h hok F _ B N κ w ω S a hF (fun l a w=>hg l a w) hA fun e s1 hk a' w' hs=>?_
   cases e with
   | normal=>exact hQ _ _ hk a' w' hs
   | ret=>exact hQ _ _ hk a' w' hs
   | exit id' =>
     simp only at hk
     by_cases hid:id'=id
     ·simp only [hid,if_true] at hk
      simp only [toExit,Exit.inBlock,hid,if_true]
      exact hQ _ _ hk a' w' hs
     ·simp only [hid,if_false] at hk
      simp only [toExit,Exit.inBlock,hid,if_false]
      exact hQ _ _ hk a' w' hs
 | loop c ih =>
   intro bid s K h hok F Q B N κ w ω S a hF hg hA hQ
   obtain ⟨n,h⟩:=h
   refine loopW_sim h hA hQ fun s1 Q1 h1 Q2 a1 w1 hq2 hs hK=>?_
   obtain ⟨ω1,κ1,S1,k1,k2,hA1⟩:=hs
   exact ih _ _ _ h1 hok F Q2 B N κ1 w1 ω1 S1 a1 (hF.ext k1) (fun l a w h=>hg l a w (hq2 l a w h)) (hA1.keep _ _) fun e s2 hk a' w' hs2=>hK e s2 hk a' w' (hs2.trans k1 k2)
 | scope c ih =>
   intro bid s K h hok F Q B N κ w ω S a hF hg hA hQ
   exact wpIn_scope (ih _ _ _ h hok F Q B N κ w ω S a hF hg hA hQ) hg
 | rangeFunc f params assign body _ _ =>
   intro bid s K h hok F Q B N κ w ω S a hF hg hA hQ
   obtain ⟨C,e,s',hC,hx,hk⟩:=h
   exact exec_sim hC hmix _ _ _ _ _ hx hok F Q B N κ w ω S a hF hg hA fun a' w' hs=>hQ _ _ hk a' w' hs
def Fgt (H H':List AObj):Prop:=H'.length=H.length∧∀ (id:Nat) (o:AObj),H'[id]?=some o→o=.dead∨H[id]?=some o
theorem Fgt.refl (H:List AObj):Fgt H H:=⟨rfl,fun _ _ h=>.inr h⟩
theorem HRel.fgt {H':List AObj} (hH:HRel B ω κ S w H) (h:Fgt H H'):HRel B ω κ S w H' :=
 ⟨by rw [h.1];exact hH.klen,fun id o ho=>by
  rcases h.2 id o ho with rfl | h'
  ·trivial
  ·exact hH.obj id o h',hH.swf,hH.base,hH.bsz⟩
theorem Post.fgt {H1 H':List AObj} {r:AV} {v:Value} {w':World} (h:Fgt H1 H') (hp:Post B ω κ S w H1 r v w'):Post B ω κ S w H' r v w':=by
 obtain ⟨ω2,κ2,S2,a,b,c,d⟩:=hp
 exact ⟨ω2,κ2,S2,a,b,c.fgt h,d⟩
theorem sem_fn (hmix : P.follows .mixedOrders = true) {k : Nat} {f : Func} {c : Code} (hf : P.funcs[k]? = some f) (hb : f.body = some c) (hn : f.name ≠ "runtime.NumGoroutine") {A : FAnn} (hok : codeOk A c = true)
  {lo:Nat} {args:List AV} {H H':List AObj} {r:AV} (hl:Low lo H H')
  (h:wpA P A k lo none c 0 ⟨args++List.replicate (f.ntmps-args.length) .junk,H⟩ fun e s=>(e=.normal∨e=.ret)∧Fgt s.H H'∧∃ vs,readResults P s.H s.T f.results.toList=some vs∧packResults vs=r):Sem P (.fn k) args H lo r H':=by
 refine ⟨hl,⟨f,hf,by simp [hb],hn⟩,fun B ω κ S w xs hH _ hv=>?_⟩
 refine callsIn_of_wp_marks hf hb trivial ?_
 have hA:=start_rel hH hv f.ntmps
 have ev0:=(toSlots_rel hH).1
 refine wpA_sim hmix c 0 _ _ h hok Fence.wide _ B w.heap.size κ w (toSlots ω) S _ (.inl ⟨rfl,rfl⟩) (fun l a w hg=>hg.elim) hA fun e s hk a' w' hs=>?_
 obtain ⟨he,hfg,vs,hr,rfl⟩:=hk
 obtain ⟨ω1,κ1,S1,k1,k2,hA1⟩:=hs
 have hleave:LeavesInM Fence.wide 0 P f a'.tmps (FnPost B ω κ S w H' (packResults vs)) a'.defers .returning w':=by
  refine leaves_marks (ω:=ω1) (S:=S1) (κ:=κ1) (B:=B) (H:=s.H) (ω0:=ω) (S0:=S) (w0:=w) a'.defers w' hA1.M.2.1 hA1.M.2.2 (ev0.trans k2) hA1.H fun w2 j1 j2 j3 j4=>?_
  have hT:VRel .slot ω1 κ1 S1 w2 s.T a'.tmps.toList:=⟨hA1.T.len,fun i u v hu hv=>(hA1.T.rel i u v hu hv).mono (Ext.refl _) (fun b o h=>⟨h,j2 b o h⟩),fun i u v hu hv =>
   (hA1.T.own i u v hu hv).mono (Ext.refl _) (fun b o h=>⟨h,j2 b o h⟩) fun b hb=>⟨hb,j1 b _ hb,fun _ h=>h⟩⟩
  obtain ⟨v,q1,q2⟩:=results_sim j4 hT hr
  exact ⟨v,q1,(Post.after k1 j3 q2).fgt hfg⟩
 rcases he with rfl | rfl
 ·exact hleave
 ·exact hleave
end
end Go.Proofs.YtfakoboiahbhaaaGreat.Ab


namespace Go.Proofs.YtfakoboiahbhaaaGreat.Ab
open Go
inductive RS where
 | sl (t:Nat) | tk (t:Nat) | tv (t:Nat) | cv (v:AV)
inductive Ag where
 | one | str (s:Nat) | arr (s:Nat)
inductive KK where
 | int (k:IntKind) | str (n:Nat)
inductive RK where
 | mv | nil (z:Nat) | thaw
 | ld (a:Ag) | ldF (a:Ag) | take | takeT | stR | st (s:Nat) | box | boxF | alloc (z:List AV)
 | mkS (z:List AV) (s:Nat) (bytes:Nat)
 | mkO (z:List AV) (s:Nat) (bytes:Nat)
 | lenS | lenA (n:Nat) | min | max
 | app (s bytes:Nat)
 | appG (s bytes:Nat)
 | call (mode:Nat)
 | pick | build (z:List AV) (ps:List (Nat×Nat)) | buildS (len s:Nat) (z:List AV) (ix:List Nat) | buildF (len s:Nat) (z:List AV) (ix:List Nat)
 | nilc | bin (op:BinOp) | binB (neq:Bool) | un (op:UnOp) | conv (k:IntKind)
 | mkF (f:FuncId) (n m:Nat)
 | slS (s:Nat) (l h m:Bool)
 | mkM | mUp (kk:KK) | mLk (kk:KK) (ok:Bool) (zero:Option AV) | mDel (kk:KK) | rngM | ent | lenM
 | fa (off:Nat) | fld (off:Nat) (a:Ag) | ia (s:Nat) | iaA (len s:Nat) | ext (i:Nat)
 | other (o:Oper) (mode:Nat)
structure RI where
 dst:Option Nat
 srcs:List RS
 guard:Option (Nat×Bool)
 ip:Option Nat
 k:RK
inductive RC where
 | skip
 | reg (draw:Bool) (l:List RI)
 | seq (a b:RC)
 | cond (c:RS) (a b:RC)
 | block (id:Nat) (c:RC)
 | loop (keep:Option (List Bool)) (c:RC)
 | exit (id:Nat)
 | ret
 | rng (f:RS) (params:List Nat) (assign body:Code)
 | nxt (it:Nat) (dst:Option Nat) (l:List RI)
noncomputable section
def hdK (v:AV) (K:AV→Prop):Prop:=match v with
 | .int k n=>K (.int k n)
 | .bool b=>K (.bool b)
 | .lst c n .shared=>K (.lst c n .shared)
 | .lst c n .full=>K (.lst c n .full)
 | .lst c n (.own z)=>K (.lst c n (.own z))
 | .lst c n (.uniq z)=>K (.lst c n (.uniq z))
 | .agg cs=>K (.agg cs)
 | .ptr id off=>K (.ptr id off)
 | .lptr cs=>K (.lptr cs)
 | .ref id off n cap sz=>K (.ref id off n cap sz)
 | .func f a b=>K (.func f a b)
 | .yield id=>K (.yield id)
 | .map id=>K (.map id)
 | .tuple vs=>K (.tuple vs)
 | .junk=>K .junk
 | .nilp=>K .nilp
 | .str s=>K (.str s)
 | .raw c n z=>K (.raw c n z)
 | .gref i g n z=>K (.gref i g n z)
theorem hdK_eq (v:AV) (K:AV→Prop):hdK v K=K v:=by
 unfold hdK;split <;> rfl
def getK:List AV→Nat→(AV→Prop)→Prop
 | [],_,K=>K .junk
 | h::_,0,K=>K h
 | _::t,n+1,K=>getK t n K
theorem getK_eq:∀ (T:List AV) (t:Nat) (K:AV→Prop),getK T t K=K (getT T t)
 | [],t,K=>rfl
 | h::T,0,K=>rfl
 | h::T,n+1,K=>by rw [getK,getK_eq T n K];rfl
def setK:List AV→Nat→AV→(List AV→Prop)→Prop
 | [],_,_,K=>K []
 | _::t,0,v,K=>K (v::t)
 | h::t,n+1,v,K=>setK t n v fun t'=>K (h::t')
theorem setK_eq:∀ (T:List AV) (t:Nat) (v:AV) (K:List AV→Prop),setK T t v K=K (setT T t v)
 | [],t,v,K=>rfl
 | h::T,0,v,K=>rfl
 | h::T,n+1,v,K=>by rw [setK,setK_eq T n v];rfl
def putK (T:List AV) (d:Option Nat) (v:AV) (K:List AV→Prop):Prop:=match d with
 | some d=>setK T d v K
 | none=>K T
theorem putK_eq (T:List AV) (d:Option Nat) (v:AV) (K:List AV→Prop):putK T d v K=K (put T d v):=by
 cases d with
 | none=>rfl
 | some d=>exact setK_eq T d v K
def keepK:List Bool→List AV→(List AV→Prop)→Prop
 | b::bs,v::vs,K=>keepK bs vs fun vs'=>match b with
   | true=>K (v::vs')
   | false=>K (.junk::vs')
 | [],vs,K=>K vs
 | _::_,[],K=>K []
theorem keepK_eq:∀ (bs:List Bool) (vs:List AV) (K:List AV→Prop),keepK bs vs K=K (zipKeep bs vs)
 | [],vs,K=>by simp [keepK,zipKeep]
 | b::bs,[],K=>by simp [keepK,zipKeep]
 | b::bs,v::vs,K=>by rw [keepK,keepK_eq bs vs];cases b <;> simp [zipKeep]
def viewK (v:AV) (K:AV→Prop):Prop:=match v with
 | .lst c n (.own _)=>K (.lst c n .shared)
 | .lst c n (.uniq _)=>K (.lst c n .shared)
 | .raw _ _ _=>K .junk
 | .gref id _ n z=>K (.ref id 0 n none z)
 | v=>K v
theorem viewK_eq (v:AV) (K:AV→Prop):viewK v K=K v.view:=by
 cases v with
 | lst c n k=>cases k <;> rfl
 | _=>rfl
def slotK (T:List AV) (t:Nat) (v:AV) (K:AV→List AV→Prop):Prop:=match v with
 | .lst c n (.uniq z)=>setK T t (.lst c n (.own z)) fun T1=>K (.lst c n .shared) T1
 | .lst c n (.own _)=>K (.lst c n .shared) T
 | .raw _ _ _=>K .junk T
 | .gref id _ n z=>K (.ref id 0 n none z) T
 | v=>K v T
theorem slotK_eq (T:List AV) (t:Nat) (v:AV) (K:AV→List AV→Prop):slotK T t v K=K v.view (settleAt T t v):=by
 cases v with
 | lst c n k =>
   cases k with
   | uniq z=>exact setK_eq _ _ _ _
   | _=>rfl
 | _=>rfl
def rsK:List RS→List AV→(List AV→List AV→Prop)→Prop
 | [],T,K=>K [] T
 | .cv v::r,T,K=>rsK r T fun vs T'=>K (v::vs) T'
 | .tk t::r,T,K=>getK T t fun v=>setK T t .junk fun T1=>rsK r T1 fun vs T'=>K (v::vs) T'
 | .tv t::r,T,K=>getK T t fun v=>viewK v fun v=>setK T t .junk fun T1=>rsK r T1 fun vs T'=>K (v::vs) T'
 | .sl t::r,T,K=>getK T t fun v=>slotK T t v fun v T1=>rsK r T1 fun vs T'=>K (v::vs) T'
def resS (lin:Bool):List Bool→List Operand→List RS
 | _,[]=>[]
 | ts,.tmp t::rest=>(match ts.headD false,lin with | true,true=>.tk t | true,false=>.tv t | false,_=>.sl t)::resS lin ts.tail rest
 | ts,x::rest=>.cv (match lin with | true=>ev [] x | false=>(ev [] x).view)::resS lin ts.tail rest
theorem rsK_eq (lin:Bool):∀ (xs:List Operand) (ts:List Bool) (T:List AV) (K:List AV→List AV→Prop),rsK (resS lin ts xs) T K=K (linVals lin (rd T ts xs).1) (rd T ts xs).2
 | [],ts,T,K=>by cases lin <;> simp [resS,rsK,rd,linVals]
 | .tmp t::rest,ts,T,K=>by
   simp only [resS]
   cases hh:ts.headD false with
   | true =>
     cases lin with
     | true =>
       simp only [rsK,getK_eq,setK_eq,rd,hh,rsK_eq true rest]
       rfl
     | false =>
       simp only [rsK,getK_eq,setK_eq,viewK_eq,rd,hh,rsK_eq false rest]
       rfl
   | false =>
     simp only [rsK,getK_eq,slotK_eq,rd,hh,rsK_eq lin rest]
     cases lin
     ·simp only [linVals,List.map_cons,AV.view_of_plain (AV.view_plain _)]
     ·rfl
 | .const v::rest,ts,T,K=>by
   simp only [resS,rsK,rd,rsK_eq lin rest]
   cases lin <;> rfl
 | .func v::rest,ts,T,K=>by
   simp only [resS,rsK,rd,rsK_eq lin rest]
   cases lin <;> rfl
 | .global v::rest,ts,T,K=>by
   simp only [resS,rsK,rd,rsK_eq lin rest]
   cases lin <;> rfl
end
end Go.Proofs.YtfakoboiahbhaaaGreat.Ab


namespace Go.Proofs.YtfakoboiahbhaaaGreat.Ab
open Go
noncomputable section
def nthK {α:Type}:List α→Nat→(α→Prop)→Prop
 | [],_,_=>False
 | h::_,0,K=>K h
 | _::t,n+1,K=>nthK t n K
theorem nthK_ex {α:Type}:∀ {l:List α} {n:Nat} {K:α→Prop},nthK l n K→∃ x,l[n]?=some x∧K x
 | [],_,_,h=>h.elim
 | h::_,0,_,k=>⟨h,rfl,k⟩
 | _::t,n+1,K,k=>by simpa using nthK_ex (l:=t) (n:=n) (K:=K) k
theorem nthK_of {α:Type}:∀ {l:List α} {n:Nat} {x:α} {K:α→Prop},l[n]?=some x→K x→nthK l n K
 | [],_,_,_,h,_=>by simp at h
 | h::_,0,_,_,e,k=>by simp at e;subst e;exact k
 | _::t,n+1,_,K,e,k=>nthK_of (l:=t) (n:=n) (by simpa using e) k
def updK:List AV→Nat→AV→(List AV→Prop)→Prop
 | [],_,_,_=>False
 | _::t,0,v,K=>K (v::t)
 | h::t,n+1,v,K=>updK t n v fun t'=>K (h::t')
theorem updK_ok:∀ {l:List AV} {n:Nat} {v:AV} {K:List AV→Prop},updK l n v K→n<l.length∧K (l.set n v)
 | [],_,_,_,h=>h.elim
 | _::_,0,_,_,k=>⟨by simp,k⟩
 | h::t,n+1,v,K,k=>by
   obtain ⟨h1,h2⟩:=updK_ok (l:=t) (n:=n) k
   exact ⟨by simpa using h1,h2⟩
theorem updK_of:∀ {l:List AV} {n:Nat} {v:AV} {K:List AV→Prop},n<l.length→K (l.set n v)→updK l n v K
 | [],_,_,_,h,_=>by simp at h
 | _::_,0,_,_,_,k=>k
 | h::t,n+1,v,K,e,k=>updK_of (l:=t) (n:=n) (by simpa using e) k
def updsK:List AV→Nat→List AV→(List AV→Prop)→Prop
 | l,_,[],K=>K l
 | l,n,v::vs,K=>updK l n v fun l'=>updsK l' (n+1) vs K
theorem updsK_ok:∀ {vs l:List AV} {n:Nat} {K:List AV→Prop},updsK l n vs K→(n+vs.length≤l.length∨vs=[])∧K (setCells n vs l)
 | [],_,_,_,h=>⟨.inr rfl,h⟩
 | v::vs,l,n,K,h=>by
   obtain ⟨h1,h2⟩:=updK_ok h
   obtain ⟨h3,h4⟩:=updsK_ok h2
   refine ⟨.inl ?_,h4⟩
   rcases h3 with h3 | rfl
   ·simp only [List.length_set] at h3;simp only [List.length_cons];omega
   ·simp only [List.length_cons,List.length_nil];omega
theorem updsK_of:∀ {vs l:List AV} {n:Nat} {K:List AV→Prop},n+vs.length≤l.length→K (setCells n vs l)→updsK l n vs K
 | [],_,_,_,_,h=>h
 | v::vs,l,n,K,h1,h=>updK_of (by simp only [List.length_cons] at h1;omega) (updsK_of (by simp only [List.length_cons] at h1;simp only [List.length_set];omega) h)
def rdN:Nat→List AV→Nat→(List AV→Prop)→Prop
 | 0,_,_,K=>K []
 | s+1,l,off,K=>nthK l off fun v=>viewK v fun v=>hdK v fun v=>rdN s l (off+1) fun vs=>K (v::vs)
theorem rdN_ok:∀ {s:Nat} {l:List AV} {off:Nat} {K:List AV→Prop},rdN s l off K→(off+s≤l.length∨s=0)∧K (((l.drop off).take s).map AV.view)
 | 0,l,off,K,h=>⟨.inr rfl,by simpa [rdN] using h⟩
 | s+1,l,off,K,h=>by
   obtain ⟨v,hv,h⟩:=nthK_ex h
   rw [viewK_eq,hdK_eq] at h
   obtain ⟨h1,h2⟩:=rdN_ok h
   have hlt:=(List.getElem?_eq_some_iff.1 hv).1
   refine ⟨.inl (by rcases h1 with h1 | rfl <;> omega),?_⟩
   have hd:l.drop off=v::l.drop (off+1):=by
    rw [List.drop_eq_getElem_cons hlt,(List.getElem?_eq_some_iff.1 hv).2]
   rw [hd];simpa using h2
def rdR:Nat→List AV→Nat→(List AV→Prop)→Prop
 | 0,_,_,K=>K []
 | s+1,l,off,K=>nthK l off fun v=>hdK v fun v=>rdR s l (off+1) fun vs=>K (v::vs)
theorem rdR_ok:∀ {s:Nat} {l:List AV} {off:Nat} {K:List AV→Prop},rdR s l off K→(off+s≤l.length∨s=0)∧K ((l.drop off).take s)
 | 0,l,off,K,h=>⟨.inr rfl,by simpa [rdR] using h⟩
 | s+1,l,off,K,h=>by
   obtain ⟨v,hv,h⟩:=nthK_ex h
   rw [hdK_eq] at h
   obtain ⟨h1,h2⟩:=rdR_ok h
   have hlt:=(List.getElem?_eq_some_iff.1 hv).1
   refine ⟨.inl (by rcases h1 with h1 | rfl <;> omega),?_⟩
   have hd:l.drop off=v::l.drop (off+1):=by
    rw [List.drop_eq_getElem_cons hlt,(List.getElem?_eq_some_iff.1 hv).2]
   rw [hd];simpa using h2
def ldK (a:Ag) (l:List AV) (off:Nat) (K:AV→Prop):Prop:=match a with
 | .one=>nthK l off fun v=>viewK v K
 | .str s=>rdN s l off fun vs=>K (.agg vs)
 | .arr s=>off+s≤l.length∧K (.agg (((l.drop off).take s).map AV.view))
def ptK (a:Ag) (l:List AV) (off:Nat) (K:AV→Prop):Prop:=match a with
 | .one=>nthK l off fun v=>viewK v K
 | .str s=>rdR s l off fun vs=>K (.agg vs)
 | .arr s=>off+s≤l.length∧K (.agg ((l.drop off).take s))
def agOf (P:Program) (t:TypeId):Option Ag:=match isAggT P t,P.underlying t with
 | true,some (.struct _)=>(match szOf P t with | some (s+1)=>some (.str (s+1)) | _=>none)
 | true,_=>(szOf P t).map .arr
 | false,some _=>some .one
 | false,none=>none
section
variable {P:Program}
theorem agOf_cases {t:TypeId} {a:Ag} (h:agOf P t=some a):(a=.one∧isAggT P t=false∧∃ d,P.underlying t=some d)∨(∃ s,(a=.str (s+1)∧szOf P t=some (s+1)∨a=.arr s∧szOf P t=some s)∧isAggT P t=true):=by
 unfold agOf at h
 split at h
 ·rename_i h1 _
  split at h
  ·rename_i s hs;cases h;exact .inr ⟨_,.inl ⟨rfl,hs⟩,h1⟩
  ·cases h
 ·rename_i h1 _
  simp only [Option.map_eq_some_iff] at h
  obtain ⟨s,hs,rfl⟩:=h
  exact .inr ⟨s,.inr ⟨rfl,hs⟩,h1⟩
 ·rename_i d h1 h2;cases h;exact .inl ⟨rfl,h1,d,h2⟩
 ·cases h
theorem ldK_ok {t:TypeId} {a:Ag} (ha:agOf P t=some a) {l:List AV} {off:Nat} {K:AV→Prop} (h:ldK a l off K):∃ v,ldPart P t l off=some v∧K v:=by
 rcases agOf_cases ha with ⟨rfl,h1,d,h2⟩ | ⟨s,h2,h1⟩
 ·obtain ⟨v,hv,h⟩:=nthK_ex h
  rw [viewK_eq] at h
  exact ⟨v.view,by simp [ldPart,h1,h2,hv],h⟩
 ·rcases h2 with ⟨rfl,h2⟩ | ⟨rfl,h2⟩
  ·obtain ⟨k1,k2⟩:=rdN_ok h
   exact ⟨_,by simp only [ldPart,h1,h2,Option.bind_some];rw [if_pos (by omega)],k2⟩
  ·exact ⟨_,by simp only [ldPart,h1,h2,Option.bind_some];rw [if_pos h.1],h.2⟩
theorem ptK_ok {t:TypeId} {a:Ag} (ha:agOf P t=some a) {l:List AV} {off:Nat} {K:AV→Prop} (h:ptK a l off K):∃ v,aPart P t l off=some v∧K v.view:=by
 rcases agOf_cases ha with ⟨rfl,h1,d,h2⟩ | ⟨s,h2,h1⟩
 ·obtain ⟨v,hv,h⟩:=nthK_ex h
  rw [viewK_eq] at h
  exact ⟨v,by simp [aPart,h1,h2,hv],h⟩
 ·rcases h2 with ⟨rfl,h2⟩ | ⟨rfl,h2⟩
  ·obtain ⟨k1,k2⟩:=rdR_ok h
   exact ⟨_,by simp only [aPart,h1,h2,Option.bind_some];rw [if_pos (by omega)],show K (AV.view (.agg _)) from k2⟩
  ·exact ⟨_,by simp only [aPart,h1,h2,Option.bind_some];rw [if_pos h.1],show K (AV.view (.agg _)) from h.2⟩
end
def settleK (v:AV) (K:AV→Prop):Prop:=match v with
 | .lst c n (.uniq z)=>K (.lst c n (.own z))
 | v=>K v
theorem settleK_eq (v:AV) (K:AV→Prop):settleK v K=K v.settle:=by
 cases v with
 | lst c n k=>cases k <;> rfl
 | _=>rfl
def cellsK (v:AV) (K1:AV→Prop) (K2:List AV→Prop):Prop:=match v with
 | .agg vc=>K2 vc
 | .junk=>False
 | .tuple _=>False
 | .raw _ _ _=>False
 | v=>K1 v
theorem cellsK_ok {v:AV} {K1:AV→Prop} {K2:List AV→Prop} (h:cellsK v K1 K2):(v.cells=some [v]∧K1 v)∨∃ vc,v.cells=some vc∧v=.agg vc∧K2 vc:=by
 cases v <;> first | exact .inl ⟨rfl,h⟩ | exact h.elim | exact .inr ⟨_,rfl,rfl,h⟩
def fillK:List (Nat×Nat)→List AV→List AV→(List AV→Prop)→Prop
 | [],[],cs,K=>K cs
 | (off,size)::ps,v::vs,cs,K=>cellsK v (fun v=>match Nat.beq size 1 with | true=>updK cs off v fun cs=>fillK ps vs cs K | false=>False) (fun vc=>match Nat.beq vc.length size,Nat.blt 0 size with | true,true=>updsK cs off vc fun cs=>fillK ps vs cs K | _,_=>False)
 | _,_,_,_=>False
theorem fillK_ok {place:Nat→Option (Nat×Nat)}:∀ {ix:List Nat} {ps:List (Nat×Nat)} {vs cs:List AV} {K:List AV→Prop},fillK ps vs cs K→ix.map place=ps.map some →
  ∃ cs',aFill place cs (ix.zip vs)=some cs'∧K cs'
 | [],[],[],cs,K,h,_=>⟨cs,rfl,h⟩
 | i::ix,(off,size)::ps,v::vs,cs,K,h,hp=>by
   simp only [List.map_cons,List.cons.injEq] at hp
   obtain ⟨hp1,hp2⟩:=hp
   simp only [fillK] at h
   simp only [List.zip_cons_cons,aFill,hp1]
   rcases cellsK_ok h with ⟨h1,h⟩ | ⟨vc,h1,_,h⟩
   ·split at h
    ·rename_i h2
     have h2:=Nat.eq_of_beq_eq_true h2
     obtain ⟨h3,h⟩:=updK_ok h
     obtain ⟨cs',q1,q2⟩:=fillK_ok h hp2
     subst h2
     exact ⟨cs',by simp only [h1];rw [if_pos ⟨rfl,by omega⟩];exact q1,q2⟩
    ·exact h.elim
   ·split at h
    ·rename_i h2 h4
     have h2:=Nat.eq_of_beq_eq_true h2
     have h4:0<size:=by simpa [Nat.blt_eq] using h4
     obtain ⟨h3,h⟩:=updsK_ok h
     obtain ⟨cs',q1,q2⟩:=fillK_ok h hp2
     have h5:off+size≤cs.length:=by
      rcases h3 with h3 | h3
      ·omega
      ·rw [h3] at h2;simp only [List.length_nil] at h2;omega
     refine ⟨cs',?_,q2⟩
     simp only [h1]
     rw [if_pos ⟨h2,h5⟩];exact q1
    ·exact h.elim
 | [],_::_,_,_,_,_,hp=>by simp at hp
 | _::_,[],_,_,_,_,hp=>by simp at hp
 | [],[],_::_,_,_,h,_=>h.elim
 | _::_,_::_,[],_,_,h,_=>h.elim
def shB:BinOp→Bool
 | .shl=>true
 | .shr=>true
 | _=>false
theorem shB_ok {op:BinOp} {k k':IntKind} (h:(decide (k=k') || shB op)=true):k=k'∨op=.shl∨op=.shr:=by
 rw [Bool.or_eq_true] at h
 rcases h with h | h
 ·exact .inl (of_decide_eq_true h)
 ·cases op <;> first | exact .inr (.inl rfl) | exact .inr (.inr rfl) | cases h
def arK (op:BinOp) (k:IntKind) (a b:Int) (K:AV→Prop):Prop:=match op with
 | .add=>K (.int k (k.wrap (a+b)))
 | .sub=>K (.int k (k.wrap (a-b)))
 | .mul=>K (.int k (k.wrap (a*b)))
 | .quo=>b≠0∧K (.int k (k.wrap (a.tdiv b)))
 | .rem=>b≠0∧K (.int k (a.tmod b))
 | .eql=>K (.bool (decide (a=b)))
 | .neq=>K (.bool (decide (a≠b)))
 | .lss=>K (.bool (decide (a<b)))
 | .leq=>K (.bool (decide (a≤b)))
 | .gtr=>K (.bool (decide (b<a)))
 | .geq=>K (.bool (decide (b≤a)))
 | .and=>K (.int k (k.wrap (BitVec.ofInt k.bits a &&& BitVec.ofInt k.bits b).toNat))
 | .or=>K (.int k (k.wrap (BitVec.ofInt k.bits a ||| BitVec.ofInt k.bits b).toNat))
 | .xor=>K (.int k (k.wrap (BitVec.ofInt k.bits a ^^^ BitVec.ofInt k.bits b).toNat))
 | .shl=>0≤b∧K (.int k (k.wrap (a*2 ^ (Nat.min b.toNat k.bits))))
 | .shr=>0≤b∧K (.int k (a.fdiv (2 ^ (Nat.min b.toNat k.bits))))
 | _=>False
section
variable {P:Program}
theorem aBin_int (op:BinOp) (t:TypeId) (k k':IntKind) (a b:Int):aBin P op t (.int k a) (.int k' b)=match op with
  | .shl=>aShift .shl k a b
  | .shr=>aShift .shr k a b
  | op=>if k=k' then aArith op k a b else none:=by cases op <;> rfl
theorem arK_ok {op:BinOp} {t:TypeId} {k k':IntKind} {a b:Int} {K:AV→Prop} (hk:k=k'∨op=.shl∨op=.shr) (h:arK op k a b K):∃ v,aBin P op t (.int k a) (.int k' b)=some v∧K v:=by
 rw [aBin_int]
 cases op <;> simp only [arK] at h <;> try exact h.elim
 case shl=>exact ⟨_,by simp only [aShift];rw [if_neg (by omega)],h.2⟩
 case shr=>exact ⟨_,by simp only [aShift];rw [if_neg (by omega)],h.2⟩
 all_goals (obtain rfl:k=k':=by rcases hk with hk | hk | hk <;> first | exact hk | cases hk)
 all_goals simp only [if_true,aArith]
 case quo=>exact ⟨_,by rw [if_neg h.1],h.2⟩
 case rem=>exact ⟨_,by rw [if_neg h.1],h.2⟩
 case neq =>
  have e:(a != b)=decide (a≠b):=by by_cases hab:a=b <;> simp [hab]
  exact ⟨_,rfl,by rw [e];exact h⟩
 case eql=>exact ⟨_,rfl,h⟩
 all_goals exact ⟨_,rfl,h⟩
end
end
end Go.Proofs.YtfakoboiahbhaaaGreat.Ab


namespace Go.Proofs.YtfakoboiahbhaaaGreat.Ab
open Go
noncomputable section
def rkThaw (v:AV) (H:List AObj) (K:AV→List AObj→Prop):Prop:=match v with
 | .lst cells len (.uniq z)=>(len≠0∧K (.ref H.length 0 len none z) (H++[.cells cells]))∨(len=0∧K (.lst cells len (.uniq z)) H)
 | .lst [] 0 .full=>K (.lst [] 0 .full) H
 | .ref id off len cap sz=>K (.ref id off len cap sz) H
 | _=>False
def rkLd (a:Ag) (v:AV) (H:List AObj) (K:AV→List AObj→Prop):Prop:=match v with
 | .ptr id off=>nthK H id fun o=>match o with | .cells l=>ldK a l off fun v=>K v H | .grow l _ _=>ldK a l off fun v=>K v H | _=>False
 | .lptr cells=>ldK a cells 0 fun v=>K v H
 | _=>False
def rkTake (lo:Nat) (v:AV) (H:List AObj) (K:AV→List AObj→Prop):Prop:=match v with
 | .ptr id off=>match Nat.ble lo id with
   | true=>nthK H id fun o=>match o with
     | .cells l=>(nthK l off fun v=>match v with | .lst c n (.own z)=>K (.lst c n (.own z)) (H.set id (.cells (l.set off (.lst c n .shared)))) | .lst c n .full=>K (.lst c n .full) H | .raw c n z=>K (.lst c n (.uniq z)) (H.set id (.cells (l.set off .junk))) | _=>False)
     | .grow l g z'=>(nthK l off fun v=>match v with | .lst c n (.own z)=>K (.lst c n (.own z)) (H.set id (.grow (l.set off (.lst c n .shared)) g z')) | .lst c n .full=>K (.lst c n .full) H | _=>False)
     | _=>False
   | false=>False
 | _=>False
def rkTakeT (lo:Nat) (v:AV) (H:List AObj) (K:AV→List AObj→Prop):Prop:=match v with
 | .ptr id off=>match Nat.ble lo id with
   | true=>nthK H id fun o=>match o with | .cells l=>(nthK l off fun v=>match v with | .raw c n z=>n≠0∧K (.ref H.length 0 n none z) (H.set id (.cells (l.set off (.ref H.length 0 n none z)))++[.cells c]) | .lst c n .full=>K (.lst c n .full) H | _=>False) | _=>False
   | false=>False
 | _=>False
def rkStR (lo:Nat) (p v:AV) (H:List AObj) (K:AV→List AObj→Prop):Prop:=match p with
 | .ptr id off=>match Nat.ble lo id with
   | true=>nthK H id fun o=>match o with
     | .cells l=>(match v with | .lst c n (.uniq z)=>c.all scal0=true∧n≠0∧updK l off (.raw c n z) fun l'=>K .junk (H.set id (.cells l')) | _=>False)
     | _=>False
   | false=>False
 | _=>False
def rkSt (lo s:Nat) (p v:AV) (H:List AObj) (K:AV→List AObj→Prop):Prop:=match p with
 | .ptr id off=>match Nat.ble lo id with
   | true=>nthK H id fun o=>match o with
     | .cells l=>cellsK v (fun v=>match Nat.beq s 1 with | true=>settleK v fun v=>updK l off v fun l'=>K .junk (H.set id (.cells l')) | false=>False) (fun vc=>match Nat.beq vc.length s,Nat.blt 0 s with | true,true=>updsK l off (vc.map AV.settle) fun l'=>K .junk (H.set id (.cells l')) | _,_=>False)
     | .grow l g z=>cellsK v (fun v=>match Nat.beq s 1 with | true=>settleK v fun v=>updK l off v fun l'=>K .junk (H.set id (.grow l' g z)) | false=>False) (fun vc=>match Nat.beq vc.length s,Nat.blt 0 s with | true,true=>updsK l off (vc.map AV.settle) fun l'=>K .junk (H.set id (.grow l' g z)) | _,_=>False)
     | _=>False
   | false=>False
 | _=>False
def rkBox (v:AV) (H:List AObj) (K:AV→List AObj→Prop):Prop :=
 cellsK v (fun v=>settleK v fun v=>K (.ptr H.length 0) (H++[.cells [v]])) (fun vc=>K (.ptr H.length 0) (H++[.cells (vc.map AV.settle)]))
def rkBoxF (v:AV) (H:List AObj) (K:AV→List AObj→Prop):Prop :=
 cellsK v (fun v=>v.plain=true∧K (.lptr [v]) H) (fun vc=>vc.all AV.plain=true∧K (.lptr vc) H)
def minK:List AV→Int→(Int→Prop)→Prop
 | [],a,K=>K a
 | .int _ b::r,a,K=>minK r (min a b) K
 | _::_,_,_=>False
def maxK:List AV→Int→(Int→Prop)→Prop
 | [],a,K=>K a
 | .int _ b::r,a,K=>maxK r (max a b) K
 | _::_,_,_=>False
def rkAppG (lo s bytes:Nat) (x y:AV) (H:List AObj) (K:AV→List AObj→Prop):Prop:=match y with
 | .lst new m _=>(new.length=m*s∧m*bytes≤140737488355328)∧match x with
   | .lst cells n .full=>(m≠0∧(n+m)*bytes≤140737488355328∧cells.length=n*s)∧K (.gref H.length (H.length+1) (n+m) s) (H++[.grow (cells++new) (H.length+1) s,.dead])
   | .lst cells n (.uniq z)=>(z=s∧m≠0∧(n+m)*bytes≤140737488355328)∧K (.gref H.length (H.length+1) (n+m) z) (H++[.grow (cells++new) (H.length+1) z,.dead])
   | .gref id gid n z=>match Nat.ble lo id with
     | true=>nthK H id fun o=>match o with
       | .grow l g z'=>(g=gid∧z'=z∧z=s∧l.length=n*z∧0<m∧(n+m)*bytes≤140737488355328)∧K (.gref H.length (H.length+1) (n+m) z) (H.set id .dead++[.grow (l++new) (H.length+1) z,.dead])
       | _=>False
     | false=>False
   | _=>False
 | _=>False
def rkMkS (z:List AV) (s bytes:Nat) (a b:AV) (H:List AObj) (K:AV→List AObj→Prop):Prop:=match a,b with
 | .int _ n,.int _ c=>0≤n∧n≤c∧c.toNat*bytes≤140737488355328∧K (.ref H.length 0 n.toNat (some c.toNat) s) (H++[.cells (repl c.toNat z)])
 | _,_=>False
def rkMkO (z:List AV) (s bytes:Nat) (a b:AV) (H:List AObj) (K:AV→List AObj→Prop):Prop:=match a,b with
 | .int _ n,.int _ c=>n=c∧0≤n∧c.toNat*bytes≤140737488355328∧K (.lst (repl c.toNat z) n.toNat (.uniq s)) H
 | _,_=>False
def rkLenS (v:AV) (H:List AObj) (K:AV→List AObj→Prop):Prop:=match v with
 | .lst _ n _=>K (.int .i64 n) H
 | .ref _ _ n _ _=>K (.int .i64 n) H
 | _=>False
def rkApp (s bytes:Nat) (x y:AV) (H:List AObj) (K:AV→List AObj→Prop):Prop:=match y with
 | .lst new m _=>new.length=m*s∧m*bytes≤140737488355328∧match x with
   | .lst cells n .shared=>m=0∧K (.lst cells n .shared) H
   | .lst cells n .full=>m≠0∧(n+m)*bytes≤140737488355328∧cells.length=n*s∧K (.lst (cells++new) (n+m) (.uniq s)) H
   | .lst cells n (.own z)=>z=s∧(n+m)*bytes≤140737488355328∧K (.lst (cells++new) (n+m) (.own z)) H
   | .lst cells n (.uniq z)=>z=s∧(n+m)*bytes≤140737488355328∧K (.lst (cells++new) (n+m) (.uniq z)) H
   | _=>False
 | _=>False
def rkSl (s:Nat) (l h m:Bool) (x:AV) (vs:List AV) (H:List AObj) (K:AV→List AObj→Prop):Prop:=match x with
 | .lst cells n c=>match l,h,m,vs with
   | false,false,false,[]=>match c with
     | .uniq z=>K (.lst (cells.take (n*z)) n (.uniq z)) H
     | .shared=>K (.lst (cells.take (n*s)) n .shared) H
     | _=>False
   | true,false,false,[.int _ i]=>match c with
     | .own z=>(s=z∧0≤i∧i≤n)∧K (.lst (cells.drop (i.toNat*z)) (n-i.toNat) (.own z)) H
     | .shared | .uniq _=>(0≤i∧i≤n)∧K (.lst ((cells.drop (i.toNat*s)).take ((n-i.toNat)*s)) (n-i.toNat) .shared) H
     | _=>False
   | false,true,false,[.int _ j]=>match c with
     | .uniq z=>(0≤j∧j≤n)∧K (.lst (cells.take (j.toNat*z)) j.toNat (.uniq z)) H
     | .shared | .own _=>(0≤j∧j≤n)∧K (.lst (cells.take (j.toNat*s)) j.toNat .shared) H
     | _=>False
   | true,true,false,[.int _ i,.int _ j]=>match c with
     | .shared | .own _ | .uniq _=>(0≤i∧i≤j∧j≤n)∧K (.lst ((cells.drop (i.toNat*s)).take ((j.toNat-i.toNat)*s)) (j.toNat-i.toNat) .shared) H
     | _=>False
   | false,true,true,[.int _ j,.int _ k]=>(j=k∧0≤j∧j≤n)∧K (.lst (cells.take (j.toNat*s)) j.toNat .full) H
   | true,true,true,[.int _ i,.int _ j,.int _ k]=>(j=k∧0≤i∧i≤j∧j≤n)∧K (.lst ((cells.drop (i.toNat*s)).take ((j.toNat-i.toNat)*s)) (j.toNat-i.toNat) .full) H
   | _,_,_,_=>False
 | .ref id off n cap sz=>match l,h,m,vs with
   | true,false,false,[.int _ i]=>sz=s∧(0≤i∧i≤n)∧(i<n→K (.ref id (off+i.toNat*s) (n-i.toNat) (cap.map (·-i.toNat)) sz) H)∧(i=n→K (.lst [] 0 .shared) H)
   | false,true,false,[.int _ j]=>sz=s∧(0≤j∧j≤n∧0<n)∧K (.ref id off j.toNat cap sz) H
   | _,_,_,_=>False
 | .gref id gid n z=>match l,h,m,vs with
   | false,true,false,[.int _ j]=>(0≤j∧j≤n)∧K (.gref id gid j.toNat z) H
   | _,_,_,_=>False
 | _=>False
def rkFa (off:Nat) (v:AV) (H:List AObj) (K:AV→List AObj→Prop):Prop:=match v with
 | .ptr id o=>K (.ptr id (o+off)) H
 | .lptr cells=>K (.lptr (cells.drop off)) H
 | _=>False
def rkIa (s:Nat) (x i:AV) (H:List AObj) (K:AV→List AObj→Prop):Prop:=match i with
 | .int _ n=>match x with
   | .lst cells len _=>(0≤n∧n<len)∧K (.lptr (cells.drop (n.toNat*s))) H
   | .ref id off len _ _=>(0≤n∧n<len)∧K (.ptr id (off+n.toNat*s)) H
   | _=>False
 | _=>False
def rkIaA (len s:Nat) (x i:AV) (H:List AObj) (K:AV→List AObj→Prop):Prop:=match i with
 | .int _ n=>match x with
   | .ptr id off=>(0≤n∧n<len)∧K (.ptr id (off+n.toNat*s)) H
   | .lptr cells=>(0≤n∧n<len)∧K (.lptr (cells.drop (n.toNat*s))) H
   | _=>False
 | _=>False
def keyIs (kk:KK) (k:AV):Prop:=match kk,k with
 | .int q,.int q' _=>q=q'
 | .str n,.agg cs=>cs.length=n
 | _,_=>False
def rkMUp (lo:Nat) (kk:KK) (m k v:AV) (H:List AObj) (K:AV→List AObj→Prop):Prop:=match m with
 | .map id=>match Nat.ble lo id with
   | true=>keyIs kk k∧∃ es clock,H[id]?=some (.map es clock)∧∃ r,findK k es 0=some r∧(match r with
     | some i=>K .junk (H.set id (.map (es.modify i fun e=>(e.1,k,v)) clock))
     | none=>K .junk (H.set id (.map (es++[(clock,k,v)]) (clock+1))))
   | false=>False
 | _=>False
def rkMLk (kk:KK) (ok:Bool) (zero:Option AV) (m k:AV) (H:List AObj) (K:AV→List AObj→Prop):Prop:=match m with
 | .map id=>keyIs kk k∧∃ es clock,H[id]?=some (.map es clock)∧∃ r,findK k es 0=some r∧(match r with
   | some i=>∃ e,es[i]?=some e∧(match ok with | true=>K (.tuple [e.2.2,.bool true]) H | false=>K e.2.2 H)
   | none=>∃ z,zero=some z∧(match ok with | true=>K (.tuple [z,.bool false]) H | false=>K z H))
 | _=>False
def rkMDel (lo:Nat) (kk:KK) (m k:AV) (H:List AObj) (K:AV→List AObj→Prop):Prop:=match m with
 | .map id=>match Nat.ble lo id with
   | true=>keyIs kk k∧∃ es clock,H[id]?=some (.map es clock)∧∃ r,findK k es 0=some r∧(match r with
     | some i=>K (.tuple []) (H.set id (.map (es.eraseIdx i) clock))
     | none=>K (.tuple []) H)
   | false=>False
 | _=>False
def rkRng (m:AV) (H:List AObj) (K:AV→List AObj→Prop):Prop:=match m with
 | .map id=>∃ es clock,H[id]?=some (.map es clock)∧K (.ptr H.length 0) (H++[.iter id clock [] clock])
 | _=>False
def rkEnt (p:AV) (H:List AObj) (K:AV→List AObj→Prop):Prop:=match p with
 | .ptr r 0=>∃ m since seen clock stamp es e,H[r]?=some (.iter m since seen clock)∧seen.getLast?=some stamp∧H[m]?=some (.map es clock)∧es.find? (fun e=>e.1 == stamp)=some e∧K (.tuple [e.2.1,e.2.2]) H
 | _=>False
def rkLenM (m:AV) (H:List AObj) (K:AV→List AObj→Prop):Prop:=match m with
 | .map id=>∃ es clock,H[id]?=some (.map es clock)∧K (.int .i64 es.length) H
 | _=>False
def rk (P:Program) (lo:Nat) (k:RK) (vs:List AV) (H:List AObj) (K:AV→List AObj→Prop):Prop:=match k with
 | .mv=>match vs with | [v]=>K v H | _=>False
 | .nil z=>match vs with | [_]=>K (.lst [] 0 (.uniq z)) H | _=>False
 | .thaw=>match vs with | [v]=>rkThaw v H K | _=>False
 | .ld a=>match vs with | [v]=>rkLd a v H K | _=>False
 | .ldF a=>match vs with | [.lptr cells]=>ldK a cells 0 fun v=>K v H | _=>False
 | .take=>match vs with | [v]=>rkTake lo v H K | _=>False
 | .takeT=>match vs with | [v]=>rkTakeT lo v H K | _=>False
 | .stR=>match vs with | [p,v]=>rkStR lo p v H K | _=>False
 | .st s=>match vs with | [p,v]=>rkSt lo s p v H K | _=>False
 | .box=>match vs with | [v]=>rkBox v H K | _=>False
 | .boxF=>match vs with | [v]=>rkBoxF v H K | _=>False
 | .alloc z=>K (.ptr H.length 0) (H++[.cells z])
 | .mkS z s bytes=>match vs with | [a,b]=>rkMkS z s bytes a b H K | _=>False
 | .mkO z s bytes=>match vs with | [a,b]=>rkMkO z s bytes a b H K | _=>False
 | .lenS=>match vs with | [v]=>rkLenS v H K | _=>False
 | .lenA n=>match vs with | [.lst _ _ _] | [.ref _ _ _ _ _] | [.map _]=>False | [_]=>K (.int .i64 n) H | _=>False
 | .min=>match vs with | .int k a::r=>minK r a fun n=>K (.int k n) H | _=>False
 | .max=>match vs with | .int k a::r=>maxK r a fun n=>K (.int k n) H | _=>False
 | .app s bytes=>match vs with | [x,y]=>rkApp s bytes x y H K | _=>False
 | .appG s bytes=>match vs with | [x,y]=>rkAppG lo s bytes x y H K | _=>False
 | .call _=>False
 | .pick=>match vs with | [.bool c,a,b]=>(match c with | true=>K a H | false=>K b H) | _=>False
 | .build z ps=>fillK ps vs z fun cs=>K (.agg cs) H
 | .buildS len s z ix=>fillK (ix.map fun i=>(i*s,s)) vs (repl len z) fun cs=>K (.lst cs len (.uniq s)) H
 | .buildF len s z ix=>fillK (ix.map fun i=>(i*s,s)) vs (repl len z) fun cs=>K (.lst cs len .full) H
 | .nilc=>match vs with | [.ptr id off]=>K (.ptr id off) H | [.lptr cells]=>K (.lptr cells) H | _=>False
 | .bin op=>match vs with | [.int k a,.int k' b]=>(match decide (k=k') || shB op with | true=>arK op k a b fun v=>K v H | false=>False) | _=>False
 | .binB neq=>match vs with | [.bool a,.bool b]=>(match neq with | true=>K (.bool (!(a == b))) H | false=>K (.bool (a == b)) H) | _=>False
 | .un op=>match vs with
   | [.bool b]=>(match op with | .not=>K (.bool !b) H | _=>False)
   | [.int k n]=>(match op with | .neg=>K (.int k (k.wrap (-n))) H | _=>False)
   | _=>False
 | .conv k=>match vs with | [.int _ n]=>K (.int k (k.wrap n)) H | _=>False
 | .mkF f n m=>(match Nat.beq vs.length (n+m) with | true=>K (.func f (vs.take n) (vs.drop n)) H | false=>False)
 | .slS s l h m=>match vs with | x::vs=>rkSl s l h m x vs H K | _=>False
 | .mkM=>K (.map H.length) (H++[.map [] 0])
 | .mUp kk=>match vs with | [m,k,v]=>rkMUp lo kk m k v H K | _=>False
 | .mLk kk ok z=>match vs with | [m,k]=>rkMLk kk ok z m k H K | _=>False
 | .mDel kk=>match vs with | [m,k]=>rkMDel lo kk m k H K | _=>False
 | .rngM=>match vs with | [m]=>rkRng m H K | _=>False
 | .ent=>match vs with | [m]=>rkEnt m H K | _=>False
 | .lenM=>match vs with | [m]=>rkLenM m H K | _=>False
 | .fa off=>match vs with | [v]=>rkFa off v H K | _=>False
 | .fld off a=>match vs with | [.agg cs]=>ptK a cs off fun v=>K v H | _=>False
 | .ia s=>match vs with | [x,i]=>rkIa s x i H K | _=>False
 | .iaA len s=>match vs with | [x,i]=>rkIaA len s x i H K | _=>False
 | .ext i=>match vs with | [.tuple ws]=>(nthK ws i fun v=>viewK v fun v=>K v H) | _=>False
 | .other o mode=>∃ v H',(∀ C,opAll P C lo o mode vs H=some (v,H'))∧K v H'
def resMv (P:Program) (o:Oper) (mode:Nat) (x:Operand):RK:=match mode with
 | 0=>match isNilSlice x,P.underlying o.type with
   | true,some (.slice e)=>(match szOf P e with | some z=>.nil z | none=>.other o mode)
   | _,_=>.mv
 | 1=>.thaw
 | _=>.other o mode
def keyKind (P:Program) (t:TypeId):Option (KK×TypeId):=match mapTy P t with
 | some (k,e)=>(match P.underlying k with
   | some (.int q)=>some (.int q,e)
   | some (.struct fs)=>some (.str fs.size,e)
   | _=>none)
 | none=>none
def resK (P:Program) (o:Oper) (mode:Nat):RK:=match o.op with
 | .move x | .assign x=>resMv P o mode x
 | .load t _=>match mode with
   | 0=>(match agOf P t with | some a=>.ld a | none=>.other o mode)
   | 2=>(match P.underlying t with | some (.slice _)=>.takeT | _=>.other o mode)
   | 3=>(match agOf P t with | some a=>.ldF a | none=>.other o mode)
   | 5=>.other o mode
   | _=>match P.underlying t with | some (.slice _)=>.take | _=>.other o mode
 | .store t _ _=>match mode,szOf P t with | 0,some s=>.st s | _+1,some 1=>.stR | _,_=>.other o mode
 | .box _ _=>match mode with | 0=>.box | _=>.boxF
 | .alloc t=>match mode with
   | 0=>(match zeroCells P t with | some z=>.alloc z | none=>.other o mode)
   | _=>(match zeroCells P t,P.underlying t with
     | some [.lst [] 0 .full],some (.slice e)=>(match szOf P e with | some s=>.alloc [.lst [] 0 (.own s)] | none=>.other o mode)
     | _,_=>.other o mode)
 | .makeSlice t _ _=>match mode,P.underlying t with
   | 0,some (.slice e)=>(match szOf P e,zeroCells P e,(P.info? e).map (·.bytes) with
     | some s,some z,some bytes=>(match Nat.beq z.length s && Nat.blt 0 s && Nat.ble 1 bytes with | true=>.mkS z s bytes | false=>.other o mode)
     | _,_,_=>.other o mode)
   | _+1,some (.slice e)=>(match szOf P e,zeroCells P e,(P.info? e).map (·.bytes) with
     | some s,some z,some bytes=>(match Nat.beq z.length s && Nat.blt 0 s && Nat.ble 1 bytes with | true=>.mkO z s bytes | false=>.other o mode)
     | _,_,_=>.other o mode)
   | _,_=>.other o mode
 | .call c=>match c.callee with
   | .builtin b=>match b with
     | .len=>(match isSliceT P c.argTypes[0]? with
       | true=>.lenS
       | false=>match (c.argTypes[0]?).bind P.underlying with | some (.array n _)=>.lenA n | some (.map _ _)=>.lenM | _=>.other o mode)
     | .delete=>(match (c.argTypes[0]?).bind (keyKind P) with | some x=>.mDel x.1 | none=>.other o mode)
     | .min=>.min
     | .max=>.max
     | .append=>(match c.argTypes.toList with
       | [t,xt]=>(match Nat.beq t xt,P.underlying t with
         | true,some (.slice e)=>(match szOf P e,zeroCells P e,(P.info? e).map (·.bytes) with
           | some s,some z,some bytes=>(match Nat.beq z.length s && Nat.blt 0 s && Nat.ble 1 bytes,mode with | true,0=>.app s bytes | true,_=>.appG s bytes | false,_=>.other o mode)
           | _,_,_=>.other o mode)
         | _,_=>.other o mode)
       | _=>.other o mode)
     | _=>.other o mode
   | .value _=>.call mode
   | .invoke _ _=>.other o mode
 | .makeMap t r=>match r,P.underlying t with | none,some (.map _ _)=>.mkM | _,_=>.other o mode
 | .mapUpdate t _ _ _=>match keyKind P t with | some x=>.mUp x.1 | none=>.other o mode
 | .lookup t _ _ ok=>match keyKind P t with | some x=>.mLk x.1 ok (zeroAV P x.2) | none=>.other o mode
 | .range t _=>match P.underlying t with | some (.map _ _)=>.rngM | _=>.other o mode
 | .entry _=>.ent
 | .pick _ _ _=>.pick
 | .build t parts=>match zeroCells P t,P.underlying t with
   | some z,some (.struct fs)=>(match fs.toList.all (fun f=>(szOf P f.type).isSome),mapO2 (fun i=>(fs[i]?).bind fun f=>(szOf P f.type).map fun s=>(f.offset,s)) (parts.toList.map (·.1)) with
     | true,some ps=>.build z ps
     | _,_=>.other o mode)
   | some z,some (.array _ e)=>(match szOf P e with | some s=>.build z (parts.toList.map fun p=>(p.1*s,s)) | none=>.other o mode)
   | _,_=>.other o mode
 | .buildSlice t len parts=>match P.underlying t with
   | some (.slice e)=>(match szOf P e,zeroCells P e with
     | some s,some z=>(match Nat.beq z.length s && Nat.blt 0 s && Nat.ble (len*s) 16777216,mode with | true,0=>.buildS len s z (parts.toList.map (·.1)) | true,_=>.buildF len s z (parts.toList.map (·.1)) | false,_=>.other o mode)
     | _,_=>.other o mode)
   | _=>.other o mode
 | .nilCheck _=>.nilc
 | .binOp op t _ y _=>match isNilSlice y,P.underlying t with
   | false,some (.int _)=>.bin op
   | false,some .bool=>(match op with | .eql=>.binB false | .neq=>.binB true | _=>.other o mode)
   | _,_=>.other o mode
 | .unOp op _ _=>.un op
 | .convert src dst _=>match P.underlying src,P.underlying dst with
   | some _,some (.int k)=>.conv k
   | _,_=>.other o mode
 | .makeFunc fn first captured=>match fn with | .func f=>.mkF f first.size captured.size | _=>.other o mode
 | .slice t _ l h m=>match P.underlying t with
   | some (.slice e)=>(match szOf P e with | some s=>.slS s l.isSome h.isSome m.isSome | none=>.other o mode)
   | _=>.other o mode
 | .fieldAddr t _ f=>match P.underlying t with
   | some (.struct fs)=>(match (fs[f]?).bind fun g=>(szOf P g.type).map fun s=>(s,g.offset) with
     | some (s+1,off)=>.fa off
     | _=>.other o mode)
   | _=>.other o mode
 | .field t _ f=>match P.underlying t with
   | some (.struct fs)=>(match (fs[f]?).bind fun g=>(agOf P g.type).map fun a=>(a,g.offset) with
     | some (a,off)=>.fld off a
     | _=>.other o mode)
   | _=>.other o mode
 | .indexAddr t _ _=>match P.underlying t with
   | some (.slice e)=>(match szOf P e with | some s=>.ia s | none=>.other o mode)
   | some (.array len e)=>(match szOf P e with | some s=>.iaA len s | none=>.other o mode)
   | _=>.other o mode
 | .extract _ i=>.ext i
 | _=>.other o mode
where
 mapO2 {α β:Type} (f:α→Option β):List α→Option (List β)
  | []=>some []
  | x::xs=>match f x with | some y=>(mapO2 f xs).map (y::·) | none=>none
end
end Go.Proofs.YtfakoboiahbhaaaGreat.Ab


namespace Go.Proofs.YtfakoboiahbhaaaGreat.Ab
open Go
section
variable {P:Program} {H:List AObj}
theorem roomOk_of {n bytes:Nat} (h1:n*bytes≤140737488355328) (h2:1≤bytes):roomOk n bytes=true:=by
 simp only [roomOk,Bool.and_eq_true,Nat.ble_eq];exact ⟨h1,h2⟩
theorem rkLd_ok {lo:Nat} {t:TypeId} {a:Ag} (ha:agOf P t=some a) {v:AV} {K:AV→List AObj→Prop} (h:rkLd a v H K):∃ r H',opLoad P lo 0 t H [v]=some (r,H')∧K r H':=by
 unfold rkLd at h
 split at h
 ·obtain ⟨x,hl,h⟩:=nthK_ex h
  split at h
  ·obtain ⟨r,h1,h2⟩:=ldK_ok ha h
   exact ⟨r,H,by simp [opLoad,aLoad,hl,h1],h2⟩
  ·obtain ⟨r,h1,h2⟩:=ldK_ok ha h
   exact ⟨r,H,by simp [opLoad,aLoad,hl,h1],h2⟩
  ·exact h.elim
 ·obtain ⟨r,h1,h2⟩:=ldK_ok ha h
  exact ⟨r,H,by simp [opLoad,aLoad,h1],h2⟩
 ·exact h.elim
theorem rkTake_ok {lo mode:Nat} {t e:TypeId} (hm:mode≠0) (hm2:mode≠2) (hm3:mode≠3) (hm5:mode≠5) (ht:P.underlying t=some (.slice e)) {v:AV} {K:AV→List AObj→Prop} (h:rkTake lo v H K):∃ r H',opLoad P lo mode t H [v]=some (r,H')∧K r H':=by
 unfold rkTake at h
 split at h
 ·split at h
  ·rename_i hlo
   obtain ⟨x,hl,h⟩:=nthK_ex h
   have hlo:=Nat.le_of_ble_eq_true hlo
   split at h
   ·obtain ⟨v,hv,h⟩:=nthK_ex h
    split at h
    ·refine ⟨_,_,?_,h⟩
     cases mode with
     | zero=>exact absurd rfl hm
     | succ m=>simp only [opLoad,ht,hlo,if_true,hl,hv]
    ·refine ⟨_,_,?_,h⟩
     cases mode with
     | zero=>exact absurd rfl hm
     | succ m=>simp only [opLoad,ht,hlo,if_true,hl,hv];rfl
    ·refine ⟨_,_,?_,h⟩
     cases mode with
     | zero=>exact absurd rfl hm
     | succ m=>simp only [opLoad,ht,hlo,if_true,hl,hv];rw [if_neg hm2]
    ·exact h.elim
   ·obtain ⟨v,hv,h⟩:=nthK_ex h
    split at h
    ·refine ⟨_,_,?_,h⟩
     cases mode with
     | zero=>exact absurd rfl hm
     | succ m=>simp only [opLoad,ht,hlo,if_true,hl,hv]
    ·refine ⟨_,_,?_,h⟩
     cases mode with
     | zero=>exact absurd rfl hm
     | succ m=>simp only [opLoad,ht,hlo,if_true,hl,hv]
    ·exact h.elim
   ·exact h.elim
  ·exact h.elim
 ·exact h.elim
theorem rkTakeT_ok {lo:Nat} {t e:TypeId} (ht:P.underlying t=some (.slice e)) {v:AV} {K:AV→List AObj→Prop} (h:rkTakeT lo v H K):∃ r H',opLoad P lo 2 t H [v]=some (r,H')∧K r H':=by
 unfold rkTakeT at h
 split at h
 ·split at h
  ·rename_i hlo
   obtain ⟨x,hl,h⟩:=nthK_ex h
   have hlo:=Nat.le_of_ble_eq_true hlo
   split at h
   ·obtain ⟨v,hv,h⟩:=nthK_ex h
    split at h
    ·exact ⟨_,_,by simp only [opLoad,ht,hlo,if_true,hl,hv];rw [if_neg h.1],h.2⟩
    ·exact ⟨_,_,by simp only [opLoad,ht,hlo,if_true,hl,hv];rfl,h⟩
    ·exact h.elim
   ·exact h.elim
  ·exact h.elim
 ·exact h.elim
theorem rkStR_ok {lo mode:Nat} {t:TypeId} (hm:mode≠0) (hs:szOf P t=some 1) {p v:AV} {K:AV→List AObj→Prop} (h:rkStR lo p v H K):∃ r H',opStore P lo mode t H [p,v]=some (r,H')∧K r H':=by
 unfold rkStR at h
 split at h
 ·split at h
  ·rename_i hlo
   have hlo:=Nat.le_of_ble_eq_true hlo
   obtain ⟨x,hl,h⟩:=nthK_ex h
   split at h
   ·split at h
    ·obtain ⟨h1,h2,h⟩:=h
     obtain ⟨h3,h⟩:=updK_ok h
     refine ⟨.junk,_,?_,h⟩
     cases mode with
     | zero=>exact absurd rfl hm
     | succ m =>
       simp only [opStore,aStoreR,hs]
       rw [if_pos ⟨h1,h2⟩]
       simp only [mutObj,hlo,if_true,hl]
       rw [if_pos h3];rfl
    ·exact h.elim
   ·exact h.elim
  ·exact h.elim
 ·exact h.elim
theorem rkSt_ok {lo s:Nat} {t:TypeId} (hs:szOf P t=some s) {p v:AV} {K:AV→List AObj→Prop} (h:rkSt lo s p v H K):∃ r H',opStore P lo 0 t H [p,v]=some (r,H')∧K r H':=by
 unfold rkSt at h
 split at h
 ·split at h
  ·rename_i hlo
   have hlo:=Nat.le_of_ble_eq_true hlo
   obtain ⟨x,hl,h⟩:=nthK_ex h
   split at h
   ·rcases cellsK_ok h with ⟨h1,hk⟩ | ⟨vc,h1,_,hk⟩
    ·split at hk
     ·rename_i h2
      have h2:=Nat.eq_of_beq_eq_true h2
      rw [settleK_eq] at hk
      obtain ⟨h3,hk⟩:=updK_ok hk
      clear h
      subst h2
      exact ⟨.junk,_,by simp only [opStore,aStore,hs,h1,mutObjG,hlo,if_true,hl];rw [if_pos ⟨rfl,by omega⟩];rfl,hk⟩
     ·exact hk.elim
    ·split at hk
     ·rename_i h2 h4
      have h2:=Nat.eq_of_beq_eq_true h2
      have h4:0<s:=by simpa [Nat.blt_eq] using h4
      obtain ⟨h3,hk⟩:=updsK_ok hk
      have h5:=h3.resolve_right fun h3=>by simp only [List.map_eq_nil_iff] at h3;rw [h3] at h2;simp only [List.length_nil] at h2;omega
      simp only [List.length_map,h2] at h5
      exact ⟨.junk,_,by simp only [opStore,aStore,hs,h1,mutObjG,hlo,if_true,hl];rw [if_pos ⟨h2,h5⟩];rfl,hk⟩
     ·exact hk.elim
   ·rcases cellsK_ok h with ⟨h1,hk⟩ | ⟨vc,h1,_,hk⟩
    ·split at hk
     ·rename_i h2
      have h2:=Nat.eq_of_beq_eq_true h2
      rw [settleK_eq] at hk
      obtain ⟨h3,hk⟩:=updK_ok hk
      clear h
      subst h2
      exact ⟨.junk,_,by simp only [opStore,aStore,hs,h1,mutObjG,hlo,if_true,hl];rw [if_pos ⟨rfl,by omega⟩];rfl,hk⟩
     ·exact hk.elim
    ·split at hk
     ·rename_i h2 h4
      have h2:=Nat.eq_of_beq_eq_true h2
      have h4:0<s:=by simpa [Nat.blt_eq] using h4
      obtain ⟨h3,hk⟩:=updsK_ok hk
      have h5:=h3.resolve_right fun h3=>by simp only [List.map_eq_nil_iff] at h3;rw [h3] at h2;simp only [List.length_nil] at h2;omega
      simp only [List.length_map,h2] at h5
      exact ⟨.junk,_,by simp only [opStore,aStore,hs,h1,mutObjG,hlo,if_true,hl];rw [if_pos ⟨h2,h5⟩];rfl,hk⟩
     ·exact hk.elim
   ·exact h.elim
  ·exact h.elim
 ·exact h.elim
theorem rkBox_ok {v:AV} {K:AV→List AObj→Prop} (h:rkBox v H K):∃ r H',opBox 0 H [v]=some (r,H')∧K r H':=by
 unfold rkBox at h
 rcases cellsK_ok h with ⟨h1,h⟩ | ⟨vc,h1,_,h⟩
 ·rw [settleK_eq] at h
  exact ⟨_,_,by simp only [opBox,h1,Option.map_some,List.map_cons,List.map_nil],h⟩
 ·exact ⟨_,_,by simp only [opBox,h1,Option.map_some],h⟩
theorem rkBoxF_ok {mode:Nat} (hm:mode≠0) {v:AV} {K:AV→List AObj→Prop} (h:rkBoxF v H K):∃ r H',opBox mode H [v]=some (r,H')∧K r H':=by
 unfold rkBoxF at h
 cases mode with
 | zero=>exact absurd rfl hm
 | succ m =>
 rcases cellsK_ok h with ⟨h1,h2,h⟩ | ⟨vc,h1,_,h2,h⟩
 ·have h3:[v].all AV.plain=true:=by simp [h2]
  exact ⟨_,_,by simp only [opBox,h1,h3],h⟩
 ·exact ⟨_,_,by simp only [opBox,h1,h2],h⟩
theorem minK_ok:∀ (l:List AV) (a:Int) {K:Int→Prop},minK l a K→∃ n,minAcc l a=some n∧K n
 | [],a,K,h=>⟨a,rfl,h⟩
 | .int k b::r,a,K,h=>by
   obtain ⟨n,h1,h2⟩:=minK_ok r _ h
   have e:min a b=if b<a then b else a:=by split <;> omega
   rw [e] at h1
   exact ⟨n,h1,h2⟩
 | .junk::_,_,_,h | .bool _::_,_,_,h | .nilp::_,_,_,h | .ptr _ _::_,_,_,h | .lptr _::_,_,_,h | .lst _ _ _::_,_,_,h | .ref _ _ _ _ _::_,_,_,h | .func _ _ _::_,_,_,h | .yield _::_,_,_,h | .map _::_,_,_,h
 | .agg _::_,_,_,h | .tuple _::_,_,_,h | .str _::_,_,_,h | .raw _ _ _::_,_,_,h | .gref _ _ _ _::_,_,_,h=>h.elim
theorem maxK_ok:∀ (l:List AV) (a:Int) {K:Int→Prop},maxK l a K→∃ n,maxAcc l a=some n∧K n
 | [],a,K,h=>⟨a,rfl,h⟩
 | .int k b::r,a,K,h=>by
   obtain ⟨n,h1,h2⟩:=maxK_ok r _ h
   have e:max a b=if b > a then b else a:=by split <;> omega
   rw [e] at h1
   exact ⟨n,h1,h2⟩
 | .junk::_,_,_,h | .bool _::_,_,_,h | .nilp::_,_,_,h | .ptr _ _::_,_,_,h | .lptr _::_,_,_,h | .lst _ _ _::_,_,_,h | .ref _ _ _ _ _::_,_,_,h | .func _ _ _::_,_,_,h | .yield _::_,_,_,h | .map _::_,_,_,h
 | .agg _::_,_,_,h | .tuple _::_,_,_,h | .str _::_,_,_,h | .raw _ _ _::_,_,_,h | .gref _ _ _ _::_,_,_,h=>h.elim
theorem rkThaw_ok {lo:Nat} {t:TypeId} {x:Operand} {v:AV} {K:AV→List AObj→Prop} (h:rkThaw v H K):∃ r H',opMove P lo 1 t x H [v]=some (r,H')∧K r H':=by
 unfold rkThaw at h
 split at h
 ·rcases h with h | h
  ·exact ⟨_,_,by simp only [opMove];rw [if_neg h.1],h.2⟩
  ·exact ⟨_,_,by simp only [opMove];rw [if_pos h.1],h.2⟩
 ·exact ⟨_,_,rfl,h⟩
 ·exact ⟨_,_,rfl,h⟩
 ·exact h.elim
theorem rkApp_ok {t e:TypeId} {s bytes:Nat} (ht:P.underlying t=some (.slice e)) (hs:szOf P e=some s) {z:List AV} (hz:zeroCells P e=some z) (hb:(P.info? e).map (·.bytes)=some bytes)
  (hzl:z.length=s) (h0:0<s) (h1:1≤bytes) {x y:AV} {K:AV→List AObj→Prop} (h:rkApp s bytes x y H K):∃ r H',opAppend P #[t,t] H [x,y]=some (r,H')∧K r H':=by
 unfold rkApp at h
 split at h
 ·rename_i new m c
  obtain ⟨a1,a2,h⟩:=h
  have happ:appended H (.lst new m c)=some (m,new):=rfl
  have hc:new.length=m*s∧0<s∧z.length=s∧roomOk m bytes=true:=⟨a1,h0,hzl,roomOk_of a2 h1⟩
  have key:∀ {r:AV},aAppend P H t t x (.lst new m c)=some r→opAppend P #[t,t] H [x,.lst new m c]=some (r,H):=fun h=>by simp [opAppend,h]
  have beq:Nat.beq t t=true:=Nat.beq_refl t
  split at h
  ·obtain ⟨b1,h⟩:=h
   subst b1
   refine ⟨_,_,key ?_,h⟩
   simp only [aAppend,ht,hs,hb,hz,beq,happ];rw [if_pos hc];rfl
  ·obtain ⟨b1,b2,b3,h⟩:=h
   refine ⟨_,_,key ?_,h⟩
   simp only [aAppend,ht,hs,hb,hz,beq,happ];rw [if_pos hc];simp only [b1,if_false];rw [if_pos ⟨roomOk_of b2 h1,b3⟩]
  ·obtain ⟨b1,b2,h⟩:=h
   refine ⟨_,_,key ?_,h⟩
   simp only [aAppend,ht,hs,hb,hz,beq,happ];rw [if_pos hc];simp only [b1];rw [if_pos ⟨trivial,roomOk_of b2 h1⟩]
  ·obtain ⟨b1,b2,h⟩:=h
   refine ⟨_,_,key ?_,h⟩
   simp only [aAppend,ht,hs,hb,hz,beq,happ];rw [if_pos hc];simp only [b1];rw [if_pos ⟨trivial,roomOk_of b2 h1⟩]
  ·exact h.elim
 ·exact h.elim
theorem Nat.blt_false_of {a b:Nat} (h:b=a):Nat.blt a b=false:=by
 cases hb:Nat.blt a b with
 | false=>rfl
 | true=>have:=Nat.le_of_ble_eq_true hb;omega
theorem rkAppG_ok {lo:Nat} {t e:TypeId} {s bytes:Nat} (ht:P.underlying t=some (.slice e)) (hs:szOf P e=some s) {z:List AV} (hz:zeroCells P e=some z) (hb:(P.info? e).map (·.bytes)=some bytes)
  (hzl:z.length=s) (h0:0<s) (h1:1≤bytes) {x y:AV} {K:AV→List AObj→Prop} (h:rkAppG lo s bytes x y H K):∃ r H',opAppendO P lo #[t,t] H [x,y]=some (r,H')∧K r H':=by
 unfold rkAppG at h
 split at h
 ·rename_i new m c
  obtain ⟨⟨a1,a2⟩,h⟩:=h
  have happ:appended H (.lst new m c)=some (m,new):=rfl
  have hc:new.length=m*s∧0<s∧z.length=s∧roomOk m bytes=true:=⟨a1,h0,hzl,roomOk_of a2 h1⟩
  have beq:Nat.beq t t=true:=Nat.beq_refl t
  split at h
  ·rename_i cells n
   obtain ⟨⟨b1,b2,b3⟩,h⟩:=h
   refine ⟨_,_,?_,h⟩
   have q:aAppend P H t t (.lst cells n .full) (.lst new m c)=some (.lst (cells++new) (n+m) (.uniq s)):=by
    simp only [aAppend,ht,hs,hb,hz,beq,happ];rw [if_pos hc];simp only [b1,if_false];rw [if_pos ⟨roomOk_of b2 h1,b3⟩]
   simp only [opAppendO,shrinkO,opAppendO0,q]
   rw [if_neg (by omega)]
  ·rename_i cells n z'
   obtain ⟨⟨rfl,b1,b2⟩,h⟩:=h
   refine ⟨_,_,?_,h⟩
   have q:aAppend P H t t (.lst cells n (.uniq z')) (.lst new m c)=some (.lst (cells++new) (n+m) (.uniq z')):=by
    simp only [aAppend,ht,hs,hb,hz,beq,happ];rw [if_pos hc];rw [if_pos ⟨trivial,roomOk_of b2 h1⟩]
   simp only [opAppendO,shrinkO,opAppendO0,q]
   rw [if_neg (by omega)]
  ·split at h
   ·rename_i hlo
    have hlo:=Nat.le_of_ble_eq_true hlo
    obtain ⟨o,hid,h⟩:=nthK_ex h
    split at h
    ·obtain ⟨⟨g1,g2,g3,b1,b2,b3⟩,h5⟩:=h
     subst g1 g2 g3
     refine ⟨_,_,?_,h5⟩
     have hb0:=Nat.blt_false_of b1
     simp only [opAppendO,shrinkO,hid,hb0,Bool.false_and]
     simp only [opAppendO0,hlo,if_true,ht,hid,hs,hb,hz,happ]
     rw [if_pos ⟨trivial,trivial,trivial,trivial,b1,a1,h0,b2,hzl,roomOk_of a2 h1,roomOk_of b3 h1⟩]
    ·exact h.elim
   ·exact h.elim
  ·exact h.elim
 ·exact h.elim
theorem rkSl_ok {t e:TypeId} {s:Nat} (ht:P.underlying t=some (.slice e)) (hs:szOf P e=some s) {l h m:Option Operand} {x:AV} {vs:List AV} {K:AV→List AObj→Prop}
  (hk:rkSl s l.isSome h.isSome m.isSome x vs H K):∃ r,opSlice P t l h m (x::vs)=some r∧K r H:=by
 unfold rkSl at hk
 split at hk
 ·rename_i cells n c
  split at hk
  ·rename_i e1 e2 e3
   obtain rfl:=Option.isSome_eq_false_iff.1 e1 |> Option.isNone_iff_eq_none.1
   obtain rfl:=Option.isSome_eq_false_iff.1 e2 |> Option.isNone_iff_eq_none.1
   obtain rfl:=Option.isSome_eq_false_iff.1 e3 |> Option.isNone_iff_eq_none.1
   split at hk
   ·exact ⟨_,by simp [opSlice,ht,hs,aBound,optAt],hk⟩
   ·exact ⟨_,by simp [opSlice,AV.view,aSlice,ht,hs,aBound,optAt],hk⟩
   ·exact hk.elim
  ·rename_i k i e1 e2 e3
   obtain ⟨l,rfl⟩:=Option.isSome_iff_exists.1 e1
   obtain rfl:=Option.isSome_eq_false_iff.1 e2 |> Option.isNone_iff_eq_none.1
   obtain rfl:=Option.isSome_eq_false_iff.1 e3 |> Option.isNone_iff_eq_none.1
   split at hk
   ·obtain ⟨⟨rfl,hb⟩,hk⟩:=hk
    exact ⟨_,by simp [opSlice,ht,hs,aBound,optAt,hb],hk⟩
   ·obtain ⟨hb,hk⟩:=hk
    exact ⟨_,by simp [opSlice,AV.view,aSlice,ht,hs,aBound,optAt,hb],hk⟩
   ·obtain ⟨hb,hk⟩:=hk
    exact ⟨_,by simp [opSlice,AV.view,aSlice,ht,hs,aBound,optAt,hb],hk⟩
   ·exact hk.elim
  ·rename_i k j e1 e2 e3
   obtain rfl:=Option.isSome_eq_false_iff.1 e1 |> Option.isNone_iff_eq_none.1
   obtain ⟨h,rfl⟩:=Option.isSome_iff_exists.1 e2
   obtain rfl:=Option.isSome_eq_false_iff.1 e3 |> Option.isNone_iff_eq_none.1
   split at hk
   ·obtain ⟨hb,hk⟩:=hk
    exact ⟨_,by simp [opSlice,ht,hs,aBound,optAt,hb],hk⟩
   ·obtain ⟨hb,hk⟩:=hk
    exact ⟨_,by simp [opSlice,AV.view,aSlice,ht,hs,aBound,optAt,hb],hk⟩
   ·obtain ⟨hb,hk⟩:=hk
    exact ⟨_,by simp [opSlice,AV.view,aSlice,ht,hs,aBound,optAt,hb],hk⟩
   ·exact hk.elim
  ·rename_i k i k' j e1 e2 e3
   obtain ⟨l,rfl⟩:=Option.isSome_iff_exists.1 e1
   obtain ⟨h,rfl⟩:=Option.isSome_iff_exists.1 e2
   obtain rfl:=Option.isSome_eq_false_iff.1 e3 |> Option.isNone_iff_eq_none.1
   have hj:0≤i∧i≤j∧j≤n→(0≤j∧j≤n)∧i≤max j 0:=fun hb=>⟨⟨by omega,hb.2.2⟩,by omega⟩
   split at hk
   ·obtain ⟨hb,hk⟩:=hk
    obtain ⟨q1,q2⟩:=hj hb
    exact ⟨_,by simp [opSlice,AV.view,aSlice,ht,hs,aBound,optAt,q1,q2,hb.1],hk⟩
   ·obtain ⟨hb,hk⟩:=hk
    obtain ⟨q1,q2⟩:=hj hb
    exact ⟨_,by simp [opSlice,AV.view,aSlice,ht,hs,aBound,optAt,q1,q2,hb.1],hk⟩
   ·obtain ⟨hb,hk⟩:=hk
    obtain ⟨q1,q2⟩:=hj hb
    exact ⟨_,by simp [opSlice,AV.view,aSlice,ht,hs,aBound,optAt,q1,q2,hb.1],hk⟩
   ·exact hk.elim
  ·rename_i k j k' j' e1 e2 e3
   obtain rfl:=Option.isSome_eq_false_iff.1 e1 |> Option.isNone_iff_eq_none.1
   obtain ⟨h,rfl⟩:=Option.isSome_iff_exists.1 e2
   obtain ⟨m,rfl⟩:=Option.isSome_iff_exists.1 e3
   obtain ⟨⟨rfl,hb⟩,hk⟩:=hk
   have q:j≤max j 0:=by omega
   refine ⟨_,?_,hk⟩
   cases c <;> simp [opSlice,AV.view,aSlice,ht,hs,aBound,optAt,hb,q]
  ·rename_i k i k' j k'' j' e1 e2 e3
   obtain ⟨l,rfl⟩:=Option.isSome_iff_exists.1 e1
   obtain ⟨h,rfl⟩:=Option.isSome_iff_exists.1 e2
   obtain ⟨m,rfl⟩:=Option.isSome_iff_exists.1 e3
   obtain ⟨⟨rfl,hb⟩,hk⟩:=hk
   have q:j≤max j 0:=by omega
   have q2:i≤max j 0:=by omega
   have q3:0≤j:=by omega
   refine ⟨_,?_,hk⟩
   cases c <;> simp [opSlice,AV.view,aSlice,ht,hs,aBound,optAt,hb,q,q2,q3]
  ·exact hk.elim
 ·rename_i id off n cap sz
  split at hk
  ·rename_i k i e1 e2 e3
   obtain ⟨l,rfl⟩:=Option.isSome_iff_exists.1 e1
   obtain rfl:=Option.isSome_eq_false_iff.1 e2 |> Option.isNone_iff_eq_none.1
   obtain rfl:=Option.isSome_eq_false_iff.1 e3 |> Option.isNone_iff_eq_none.1
   obtain ⟨rfl,hb,k1,k2⟩:=hk
   by_cases hi:i<n
   ·have hi':i.toNat<n:=by omega
    exact ⟨_,by simp [opSlice,AV.view,aSlice,ht,hs,aBound,optAt,hb,hi'],k1 hi⟩
   ·have hi':¬ i.toNat<n:=by omega
    exact ⟨_,by simp [opSlice,AV.view,aSlice,ht,hs,aBound,optAt,hb,hi'],k2 (by omega)⟩
  ·rename_i k j e1 e2 e3
   obtain rfl:=Option.isSome_eq_false_iff.1 e1 |> Option.isNone_iff_eq_none.1
   obtain ⟨h,rfl⟩:=Option.isSome_iff_exists.1 e2
   obtain rfl:=Option.isSome_eq_false_iff.1 e3 |> Option.isNone_iff_eq_none.1
   obtain ⟨rfl,⟨b1,b2,b3⟩,hk⟩:=hk
   have hc:cap.map (·-0)=cap:=by cases cap <;> rfl
   exact ⟨_,by simp [opSlice,AV.view,aSlice,ht,hs,aBound,optAt,b1,b2,b3],hk⟩
  ·exact hk.elim
 ·rename_i id gid n z
  split at hk
  ·rename_i k j e1 e2 e3
   obtain rfl:=Option.isSome_eq_false_iff.1 e1 |> Option.isNone_iff_eq_none.1
   obtain ⟨h,rfl⟩:=Option.isSome_iff_exists.1 e2
   obtain rfl:=Option.isSome_eq_false_iff.1 e3 |> Option.isNone_iff_eq_none.1
   obtain ⟨hb,hk⟩:=hk
   exact ⟨_,by simp [opSlice,ht,hs,aBound,optAt,hb],hk⟩
  ·exact hk.elim
 ·exact hk.elim
end
end Go.Proofs.YtfakoboiahbhaaaGreat.Ab


namespace Go.Proofs.YtfakoboiahbhaaaGreat.Ab
open Go
section
variable {P:Program} {H:List AObj}
theorem mapO2_some {α β:Type} {f:α→Option β}:∀ {l:List α} {r:List β},resK.mapO2 f l=some r→l.map f=r.map some
 | [],r,h=>by simp [resK.mapO2] at h;subst h;rfl
 | x::xs,r,h=>by
   simp only [resK.mapO2] at h
   split at h
   ·rename_i y hy
    simp only [Option.map_eq_some_iff] at h
    obtain ⟨ys,h,rfl⟩:=h
    simp [hy,mapO2_some h]
   ·simp at h
theorem keyKind_some {t:TypeId} {x:KK×TypeId} (h:keyKind P t=some x):∃ kt,mapTy P t=some (kt,x.2)∧∀ k,keyIs x.1 k→isKey P kt k=true:=by
 unfold keyKind at h
 split at h
 ·rename_i kt e hm
  split at h
  ·rename_i q hq
   cases h
   refine ⟨kt,hm,fun k hk=>?_⟩
   cases k <;> simp only [keyIs] at hk
   subst hk
   simp [isKey,hq]
  ·rename_i fs hs
   cases h
   refine ⟨kt,hm,fun k hk=>?_⟩
   cases k <;> simp only [keyIs] at hk
   simp [isKey,hs,hk]
  ·cases h
 ·cases h
theorem resK_ok {lo:Nat} {o:Oper} {mode:Nat} {vs:List AV} {K:AV→List AObj→Prop} (h:rk P lo (resK P o mode) vs H K):∃ v H',(∀ C,opAll P C lo o mode vs H=some (v,H'))∧K v H':=by
 have oth:∀ {x:RK},x=.other o mode→rk P lo x vs H K→∃ v H',(∀ C,opAll P C lo o mode vs H=some (v,H'))∧K v H':=fun e h=>by subst e;exact h
 have pure:∀ {r:AV},(∀ C,opAll P C lo o mode vs H=(op0 P o vs).map (·,H))→op0 P o vs=some r→K r H→∃ v H',(∀ C,opAll P C lo o mode vs H=some (v,H'))∧K v H':=fun h1 h2 h3=>⟨_,H,fun C=>by rw [h1 C,h2];rfl,h3⟩
 have mv:∀ x,(o.op=.move x∨o.op=.assign x)→(∀ C,opAll P C lo o mode vs H=opMove P lo mode o.type x H vs)→rk P lo (resMv P o mode x) vs H K→∃ v H',(∀ C,opAll P C lo o mode vs H=some (v,H'))∧K v H':=fun x _ hm h=>by
  unfold resMv at h
  split at h
  ·split at h
   ·rename_i e hn hu
    split at h
    ·rename_i z hz
     simp only [rk] at h
     split at h
     ·exact ⟨_,_,fun C=>by rw [hm C];simp only [opMove,hn,hu,hz,Option.map_some],h⟩
     ·exact h.elim
    ·exact h
   ·rename_i hno
    simp only [rk] at h
    split at h
    ·refine ⟨_,H,fun C=>?_,h⟩
     rw [hm C]
     simp only [opMove]
     try (split
          ·rename_i e h1 h2;exact absurd h2 (hno e h1)
          ·rfl)
    ·exact h.elim
  ·simp only [rk] at h
   split at h
   ·obtain ⟨r,H',h1,h2⟩:=rkThaw_ok (P:=P) (lo:=lo) (t:=o.type) (x:=x) h
    exact ⟨r,H',fun C=>by rw [hm C];exact h1,h2⟩
   ·exact h.elim
  ·exact h
 unfold resK at h
 cases hop:o.op <;> simp only [hop] at h <;> (try exact h)
 case move x=>exact mv x (.inl hop) (fun C=>by simp [opAll,hop]) h
 case assign x=>exact mv x (.inr hop) (fun C=>by simp [opAll,hop]) h
 case load t a =>
  split at h
  ·split at h
   ·rename_i ag ha
    simp only [rk] at h
    split at h
    ·obtain ⟨r,H',h1,h2⟩:=rkLd_ok (P:=P) (lo:=lo) ha h
     exact ⟨r,H',fun C=>by simp only [opAll,hop];exact h1,h2⟩
    ·exact h.elim
   ·exact h
  ·split at h
   ·rename_i e hu
    simp only [rk] at h
    split at h
    ·obtain ⟨r,H',h1,h2⟩:=rkTakeT_ok (P:=P) (lo:=lo) hu h
     exact ⟨r,H',fun C=>by simp only [opAll,hop];exact h1,h2⟩
    ·exact h.elim
   ·exact h
  ·split at h
   ·rename_i ag ha
    simp only [rk] at h
    split at h
    ·obtain ⟨r,h1,h2⟩:=ldK_ok ha h
     exact ⟨r,H,fun C=>by simp only [opAll,hop,opLoad,h1,Option.map_some],h2⟩
    ·exact h.elim
   ·exact h
  ·exact h
  ·rename_i hm hm2 hm3 hm5
   split at h
   ·rename_i e hu
    simp only [rk] at h
    split at h
    ·obtain ⟨r,H',h1,h2⟩:=rkTake_ok (P:=P) (lo:=lo) (mode:=mode) (fun e=>hm e) (fun e=>hm2 e) (fun e=>hm3 e) (fun e=>hm5 e) hu h
     exact ⟨r,H',fun C=>by simp only [opAll,hop];exact h1,h2⟩
    ·exact h.elim
   ·exact h
 case store t a x =>
  split at h
  ·rename_i s hs
   simp only [rk] at h
   split at h
   ·obtain ⟨r,H',h1,h2⟩:=rkSt_ok (P:=P) (lo:=lo) hs h
    exact ⟨r,H',fun C=>by simp only [opAll,hop];exact h1,h2⟩
   ·exact h.elim
  ·rename_i m hs
   simp only [rk] at h
   split at h
   ·obtain ⟨r,H',h1,h2⟩:=rkStR_ok (P:=P) (lo:=lo) (mode:=m+1) (by omega) hs h
    exact ⟨r,H',fun C=>by simp only [opAll,hop];exact h1,h2⟩
   ·exact h.elim
  ·exact h
 case box e x =>
  split at h
  ·simp only [rk] at h
   split at h
   ·obtain ⟨r,H',h1,h2⟩:=rkBox_ok h
    exact ⟨r,H',fun C=>by simp only [opAll,hop];exact h1,h2⟩
   ·exact h.elim
  ·rename_i hm
   simp only [rk] at h
   split at h
   ·obtain ⟨r,H',h1,h2⟩:=rkBoxF_ok (mode:=mode) (fun e=>hm e) h
    exact ⟨r,H',fun C=>by simp only [opAll,hop];exact h1,h2⟩
   ·exact h.elim
 case alloc t =>
  split at h
  ·split at h
   ·rename_i z hz
    exact ⟨_,_,fun C=>by simp only [opAll,hop,opAlloc,hz,Option.map_some],h⟩
   ·exact h
  ·rename_i hm
   split at h
   ·rename_i e hz hu
    split at h
    ·rename_i s hs
     refine ⟨_,_,fun C=>?_,h⟩
     simp only [opAll,hop]
     unfold opAlloc
     split
     ·exact absurd rfl hm
     ·simp only [hz,hu,hs,Option.map_some]
    ·exact h
   ·exact h
 case makeSlice t a b =>
  split at h
  ·rename_i od e hu
   split at h
   ·rename_i s z bytes hs hz hb
    split at h
    ·rename_i hc
     simp only [Bool.and_eq_true,Nat.beq_eq,Nat.blt_eq,Nat.ble_eq] at hc
     obtain ⟨⟨c1,c2⟩,c3⟩:=hc
     simp only [rk] at h
     split at h
     ·unfold rkMkS at h
      split at h
      ·obtain ⟨d1,d2,d3,h⟩:=h
       refine ⟨_,_,fun C=>?_,h⟩
       simp only [opAll,hop,opMakeSlice]
       rw [if_pos ⟨d1,d2⟩]
       simp only [zeroRun,hu,hs,hz,hb]
       rw [if_pos ⟨c1,c2,roomOk_of d3 c3⟩];rfl
      ·exact h.elim
     ·exact h.elim
    ·exact h
   ·exact h
  ·rename_i od m e hu
   split at h
   ·rename_i s z bytes hs hz hb
    split at h
    ·rename_i hc
     simp only [Bool.and_eq_true,Nat.beq_eq,Nat.blt_eq,Nat.ble_eq] at hc
     obtain ⟨⟨c1,c2⟩,c3⟩:=hc
     simp only [rk] at h
     split at h
     ·unfold rkMkO at h
      split at h
      ·obtain ⟨d1,d2,d3,h⟩:=h
       refine ⟨_,_,fun C=>?_,h⟩
       simp only [opAll,hop,opMakeSlice]
       rw [if_pos ⟨by omega,by omega⟩,if_pos ⟨d1,d2⟩]
       simp only [zeroRun,hu,hs,hz,hb]
       rw [if_pos ⟨c1,c2,roomOk_of d3 c3⟩];rfl
      ·exact h.elim
     ·exact h.elim
    ·exact h
   ·exact h
  ·exact h
 case call c =>
  split at h
  ·rename_i b hb
   split at h
   ·split at h
    ·rename_i hs
     simp only [rk] at h
     split at h
     ·unfold rkLenS at h
      split at h
      ·exact ⟨_,_,fun C=>by simp only [opAll,hop,hb,opBuiltin,opLen,hs],h⟩
      ·exact ⟨_,_,fun C=>by simp only [opAll,hop,hb,opBuiltin,opLen,hs],h⟩
      ·exact h.elim
     ·exact h.elim
    ·split at h
     ·rename_i n e hu
      simp only [rk] at h
      split at h
      ·exact h.elim
      ·exact h.elim
      ·exact h.elim
      ·rename_i x n1 n2 n3
       refine ⟨_,_,fun C=>?_,h⟩
       simp only [opAll,hop,hb,opBuiltin,opLen,hu]
       try (cases x <;> first | rfl | exact absurd rfl (n1 _ _ _) | exact absurd rfl (n2 _ _ _ _ _) | exact absurd rfl (n3 _))
      ·exact h.elim
     ·rename_i _ _ hu
      simp only [rk] at h
      split at h
      ·unfold rkLenM at h
       split at h
       ·obtain ⟨es,clock,h1,h⟩:=h
        exact ⟨_,_,fun C=>by simp only [opAll,hop,hb,opBuiltin,opLen,hu,h1],h⟩
       ·exact h.elim
      ·exact h.elim
     ·exact h
   ·split at h
    ·rename_i x hx
     simp only [Option.bind_eq_some_iff] at hx
     obtain ⟨t,ht,hx⟩:=hx
     obtain ⟨kt,hm,hkey⟩:=keyKind_some hx
     simp only [rk] at h
     split at h
     ·unfold rkMDel at h
      split at h
      ·split at h
       ·rename_i hlo
        have hlo:=Nat.le_of_ble_eq_true hlo
        obtain ⟨h1,es,clock,h2,r,h3,h⟩:=h
        split at h
        ·exact ⟨_,_,fun C=>by simp only [opAll,hop,hb,opBuiltin,opDelete,ht,Option.bind_some,hm,hkey _ h1,hlo,if_true,h2,h3],h⟩
        ·exact ⟨_,_,fun C=>by simp only [opAll,hop,hb,opBuiltin,opDelete,ht,Option.bind_some,hm,hkey _ h1,hlo,if_true,h2,h3],h⟩
       ·exact h.elim
      ·exact h.elim
     ·exact h.elim
    ·exact h
   ·simp only [rk] at h
    split at h
    ·obtain ⟨n,h1,h2⟩:=minK_ok _ _ h
     exact ⟨_,_,fun C=>by simp only [opAll,hop,hb,opBuiltin,minInt,h1,Option.map_some],h2⟩
    ·exact h.elim
   ·simp only [rk] at h
    split at h
    ·obtain ⟨n,h1,h2⟩:=maxK_ok _ _ h
     exact ⟨_,_,fun C=>by simp only [opAll,hop,hb,opBuiltin,maxInt,h1,Option.map_some],h2⟩
    ·exact h.elim
   ·split at h
    ·rename_i t xt hts
     split at h
     ·rename_i e hbeq hu
      split at h
      ·rename_i s z bytes hs hz hby
       split at h
       ·rename_i hc
        simp only [Bool.and_eq_true,Nat.beq_eq,Nat.blt_eq,Nat.ble_eq] at hc
        obtain ⟨⟨c1,c2⟩,c3⟩:=hc
        obtain rfl:t=xt:=Nat.eq_of_beq_eq_true hbeq
        have hats:c.argTypes=#[t,t]:=by rw [←Array.toArray_toList (xs:=c.argTypes),hts]
        simp only [rk] at h
        split at h
        ·obtain ⟨r,H',h1,h2⟩:=rkApp_ok hu hs hz hby c1 c2 c3 h
         exact ⟨r,H',fun C=>by simp only [opAll,hop,hb,opBuiltin,hats];exact h1,h2⟩
        ·exact h.elim
       ·rename_i hc hm
        simp only [Bool.and_eq_true,Nat.beq_eq,Nat.blt_eq,Nat.ble_eq] at hc
        obtain ⟨⟨c1,c2⟩,c3⟩:=hc
        obtain rfl:t=xt:=Nat.eq_of_beq_eq_true hbeq
        have hats:c.argTypes=#[t,t]:=by rw [←Array.toArray_toList (xs:=c.argTypes),hts]
        simp only [rk] at h
        split at h
        ·obtain ⟨r,H',h1,h2⟩:=rkAppG_ok (lo:=lo) hu hs hz hby c1 c2 c3 h
         refine ⟨r,H',fun C=>?_,h2⟩
         simp only [opAll,hop,hb,hats]
         first
         | exact h1
         | (split
            ·exact absurd rfl hm
            ·exact h1)
        ·exact h.elim
       ·exact h
      ·exact h
     ·exact h
    ·exact h
   ·exact h
  ·exact h.elim
  ·exact h
 case makeMap t r =>
  split at h
  ·rename_i _ _ hu
   simp only [rk] at h
   exact ⟨_,_,fun C=>by simp only [opAll,hop,opMakeMap,hu],h⟩
  ·exact h
 case mapUpdate t m k v =>
  split at h
  ·rename_i x hx
   obtain ⟨kt,hm,hkey⟩:=keyKind_some hx
   simp only [rk] at h
   split at h
   ·unfold rkMUp at h
    split at h
    ·split at h
     ·rename_i hlo
      have hlo:=Nat.le_of_ble_eq_true hlo
      obtain ⟨h1,es,clock,h2,r,h3,h⟩:=h
      split at h
      ·exact ⟨_,_,fun C=>by simp only [opAll,hop,opMapUpdate,hm,hkey _ h1,hlo,if_true,h2,h3],h⟩
      ·exact ⟨_,_,fun C=>by simp only [opAll,hop,opMapUpdate,hm,hkey _ h1,hlo,if_true,h2,h3],h⟩
     ·exact h.elim
    ·exact h.elim
   ·exact h.elim
  ·exact h
 case lookup t m k ok =>
  split at h
  ·rename_i x hx
   obtain ⟨kt,hm,hkey⟩:=keyKind_some hx
   simp only [rk] at h
   split at h
   ·unfold rkMLk at h
    split at h
    ·obtain ⟨h1,es,clock,h2,r,h3,h⟩:=h
     split at h
     ·obtain ⟨e,he,h⟩:=h
      cases ok
      ·exact ⟨_,_,fun C=>by simp only [opAll,hop,opLookup,hm,hkey _ h1,h2,h3,Option.bind_some,he,Option.map_some];rfl,h⟩
      ·exact ⟨_,_,fun C=>by simp only [opAll,hop,opLookup,hm,hkey _ h1,h2,h3,Option.bind_some,he,Option.map_some];rfl,h⟩
     ·obtain ⟨z,hz,h⟩:=h
      cases ok
      ·exact ⟨_,_,fun C=>by simp only [opAll,hop,opLookup,hm,hkey _ h1,h2,h3,Option.bind_none,hz,Option.map_some];rfl,h⟩
      ·exact ⟨_,_,fun C=>by simp only [opAll,hop,opLookup,hm,hkey _ h1,h2,h3,Option.bind_none,hz,Option.map_some];rfl,h⟩
    ·exact h.elim
   ·exact h.elim
  ·exact h
 case range t m =>
  split at h
  ·rename_i _ _ hu
   simp only [rk] at h
   split at h
   ·unfold rkRng at h
    split at h
    ·obtain ⟨es,clock,h1,h⟩:=h
     exact ⟨_,_,fun C=>by simp only [opAll,hop,opRange,hu,h1],h⟩
    ·exact h.elim
   ·exact h.elim
  ·exact h
 case entry m =>
  simp only [rk] at h
  split at h
  ·unfold rkEnt at h
   split at h
   ·obtain ⟨m,since,seen,clock,stamp,es,e,h1,h2,h3,h4,h⟩:=h
    exact ⟨_,_,fun C=>by simp only [opAll,hop,opEntry,h1,h2,h3,h4,if_true],h⟩
   ·exact h.elim
  ·exact h.elim
 case pick c a b =>
  simp only [rk] at h
  split at h
  ·rename_i c a b
   refine pure (fun C=>by simp only [opAll,hop]) (r:=match c with | true=>a | false=>b) (by cases c <;> simp [op0,hop,opPick]) ?_
   cases c <;> exact h
  ·exact h.elim
 case build t parts =>
  have ho:∀ C,opAll P C lo o mode vs H=(op0 P o vs).map (·,H):=fun C=>by simp only [opAll,hop]
  split at h
  ·rename_i z fs hz hu
   split at h
   ·rename_i ps hall hps
    simp only [rk] at h
    obtain ⟨cs',q1,q2⟩:=fillK_ok h (mapO2_some hps)
    refine pure ho (r:=.agg cs') ?_ q2
    simp only [op0,hop,aBuild,hz,hu,hall,zipParts,q1,Option.map_some]
   ·exact h
  ·rename_i z len e hz hu
   split at h
   ·rename_i s hs
    simp only [rk] at h
    obtain ⟨cs',q1,q2⟩:=fillK_ok (place:=fun i=>some (i*s,s)) (ix:=parts.toList.map (·.1)) h (by simp)
    refine pure ho (r:=.agg cs') ?_ q2
    simp only [op0,hop,aBuild,hz,hu,hs,zipParts,Option.bind_some,q1,Option.map_some]
   ·exact h
  ·exact h
 case buildSlice t len parts =>
  split at h
  ·rename_i e hu
   split at h
   ·rename_i s z hs hz
    split at h
    ·rename_i hc
     simp only [Bool.and_eq_true,Nat.beq_eq,Nat.blt_eq,Nat.ble_eq] at hc
     obtain ⟨⟨c1,c2⟩,c3⟩:=hc
     simp only [rk] at h
     obtain ⟨cs',q1,q2⟩:=fillK_ok (place:=fun i=>some (i*s,s)) (ix:=parts.toList.map (·.1)) h (by simp)
     refine pure (fun C=>by simp only [opAll,hop]) (r:=.lst cs' len (.uniq s)) ?_ q2
     simp only [op0,hop,aBuildCells,hu,hs,hz,zipParts]
     rw [if_pos ⟨c2,c1,c3⟩,q1];rfl
    ·rename_i hc hm
     simp only [Bool.and_eq_true,Nat.beq_eq,Nat.blt_eq,Nat.ble_eq] at hc
     obtain ⟨⟨c1,c2⟩,c3⟩:=hc
     simp only [rk] at h
     obtain ⟨cs',q1,q2⟩:=fillK_ok (place:=fun i=>some (i*s,s)) (ix:=parts.toList.map (·.1)) h (by simp)
     refine ⟨_,_,fun C=>?_,q2⟩
     have q:aBuildCells P t len (zipParts parts.toList vs)=some (cs',s):=by
      simp only [aBuildCells,hu,hs,hz,zipParts]
      rw [if_pos ⟨c2,c1,c3⟩,q1];rfl
     simp only [opAll,hop]
     first
     | (rw [q];rfl)
     | (split
        ·exact absurd rfl hm
        ·rw [q];rfl)
    ·exact h
   ·exact h
  ·exact h
 case nilCheck x =>
  simp only [rk] at h
  split at h
  ·exact pure (fun C=>by simp only [opAll,hop]) (by simp only [op0,hop,opNil]) h
  ·exact pure (fun C=>by simp only [opAll,hop]) (by simp only [op0,hop,opNil]) h
  ·exact h.elim
 case binOp op t x y yt =>
  have ho:∀ C,opAll P C lo o mode vs H=(op0 P o vs).map (·,H):=fun C=>by simp only [opAll,hop]
  split at h
  ·rename_i hn hu
   simp only [rk] at h
   split at h
   ·split at h
    ·rename_i hk
     obtain ⟨v,h1,h2⟩:=arK_ok (P:=P) (t:=t) (shB_ok hk) h
     exact pure ho (by simp only [op0,hop,hn,op2of,h1]) h2
    ·exact h.elim
   ·exact h.elim
  ·rename_i hn hu
   split at h
   ·simp only [rk] at h
    split at h
    ·exact pure ho (by simp only [op0,hop,hn,op2of,aBin,hu]) h
    ·exact h.elim
   ·simp only [rk] at h
    split at h
    ·exact pure ho (by simp only [op0,hop,hn,op2of,aBin,hu]) h
    ·exact h.elim
   ·exact h
  ·exact h
 case unOp op t x =>
  have ho:∀ C,opAll P C lo o mode vs H=(op0 P o vs).map (·,H):=fun C=>by simp only [opAll,hop]
  simp only [rk] at h
  split at h
  ·split at h
   ·exact pure ho (by simp only [op0,hop,op1of,aUn]) h
   ·exact h.elim
  ·split at h
   ·exact pure ho (by simp only [op0,hop,op1of,aUn]) h
   ·exact h.elim
  ·exact h.elim
 case convert s d x =>
  have ho:∀ C,opAll P C lo o mode vs H=(op0 P o vs).map (·,H):=fun C=>by simp only [opAll,hop]
  split at h
  ·rename_i h1 h2
   simp only [rk] at h
   split at h
   ·exact pure ho (by simp only [op0,hop,op1of,aConv,h1,h2]) h
   ·exact h.elim
  ·exact h
 case makeFunc fn first captured =>
  have ho:∀ C,opAll P C lo o mode vs H=(op0 P o vs).map (·,H):=fun C=>by simp only [opAll,hop]
  split at h
  ·simp only [rk] at h
   split at h
   ·rename_i h1
    exact pure ho (by simp only [op0,hop,opMakeFunc];rw [if_pos (Nat.eq_of_beq_eq_true h1)]) h
   ·exact h.elim
  ·exact h
 case slice t x l hh m =>
  have ho:∀ C,opAll P C lo o mode vs H=(op0 P o vs).map (·,H):=fun C=>by simp only [opAll,hop]
  split at h
  ·rename_i e hu
   split at h
   ·rename_i s hs
    simp only [rk] at h
    split at h
    ·obtain ⟨r,h1,h2⟩:=rkSl_ok hu hs h
     exact pure ho (by simp only [op0,hop,h1]) h2
    ·exact h.elim
   ·exact h
  ·exact h
 case fieldAddr t x f =>
  have ho:∀ C,opAll P C lo o mode vs H=(op0 P o vs).map (·,H):=fun C=>by simp only [opAll,hop]
  split at h
  ·rename_i fs hu
   split at h
   ·rename_i s off hf
    simp only [Option.bind_eq_some_iff,Option.map_eq_some_iff,Prod.mk.injEq] at hf
    obtain ⟨g,hg,s',hs,rfl,rfl⟩:=hf
    simp only [rk] at h
    split at h
    ·unfold rkFa at h
     split at h
     ·exact pure ho (by simp [op0,hop,op1of,aFieldAddr,hu,hg,hs]) h
     ·exact pure ho (by simp [op0,hop,op1of,aFieldAddr,hu,hg,hs]) h
     ·exact h.elim
    ·exact h.elim
   ·exact h
  ·exact h
 case field t x f =>
  have ho:∀ C,opAll P C lo o mode vs H=(op0 P o vs).map (·,H):=fun C=>by simp only [opAll,hop]
  split at h
  ·rename_i fs hu
   split at h
   ·rename_i a off hf
    simp only [Option.bind_eq_some_iff,Option.map_eq_some_iff,Prod.mk.injEq] at hf
    obtain ⟨g,hg,a',ha,rfl,rfl⟩:=hf
    simp only [rk] at h
    split at h
    ·obtain ⟨v,h1,h2⟩:=ptK_ok ha h
     exact pure ho (by simp only [op0,hop,op1of,aField,hu,hg,Option.bind_some,h1,Option.map_some]) h2
    ·exact h.elim
   ·exact h
  ·exact h
 case indexAddr t x i =>
  have ho:∀ C,opAll P C lo o mode vs H=(op0 P o vs).map (·,H):=fun C=>by simp only [opAll,hop]
  split at h
  ·rename_i e hu
   split at h
   ·rename_i s hs
    simp only [rk] at h
    split at h
    ·unfold rkIa at h
     split at h
     ·split at h
      ·exact pure ho (by simp [op0,hop,op2of,aIndexAddr,hu,hs,chkIdx,h.1]) h.2
      ·exact pure ho (by simp [op0,hop,op2of,aIndexAddr,hu,hs,chkIdx,h.1]) h.2
      ·exact h.elim
     ·exact h.elim
    ·exact h.elim
   ·exact h
  ·rename_i len e hu
   split at h
   ·rename_i s hs
    simp only [rk] at h
    split at h
    ·unfold rkIaA at h
     split at h
     ·split at h
      ·exact pure ho (by simp [op0,hop,op2of,aIndexAddr,hu,hs,chkIdx,h.1]) h.2
      ·exact pure ho (by simp [op0,hop,op2of,aIndexAddr,hu,hs,chkIdx,h.1]) h.2
      ·exact h.elim
     ·exact h.elim
    ·exact h.elim
   ·exact h
  ·exact h
 case extract x i =>
  have ho:∀ C,opAll P C lo o mode vs H=(op0 P o vs).map (·,H):=fun C=>by simp only [opAll,hop]
  simp only [rk] at h
  split at h
  ·obtain ⟨v,hv,h⟩:=nthK_ex h
   rw [viewK_eq] at h
   exact pure ho (by simp only [op0,hop,op1of,aExtract,hv,Option.map_some]) h
  ·exact h.elim
end
end Go.Proofs.YtfakoboiahbhaaaGreat.Ab


namespace Go.Proofs.YtfakoboiahbhaaaGreat.Ab
open Go
noncomputable section
def CallS (P:Program) (mode lo:Nat) (tgt:Tgt) (args:List AV) (H:List AObj) (v:AV) (H':List AObj):Prop:=∃ C,CSound P C∧callTo C lo mode tgt args H=some (v,H')
def catK:List AV→List AV→(List AV→Prop)→Prop
 | [],l,K=>K l
 | h::t,l,K=>catK t l fun r=>K (h::r)
theorem catK_eq:∀ (a b:List AV) (K:List AV→Prop),catK a b K=K (a++b)
 | [],b,K=>rfl
 | h::t,b,K=>by rw [catK,catK_eq t b];rfl
def dimK (v:AV) (K:AV→Prop):Prop:=match v with
 | .lst c n .full=>K (.lst c n .shared)
 | .agg cs=>K (.agg (cs.map AV.dim0))
 | .tuple cs=>K (.tuple (cs.map AV.dim0))
 | v=>K v
theorem dimK_eq (v:AV) (K:AV→Prop):dimK v K=K v.dim:=by
 cases v with
 | lst c n k=>cases k <;> rfl
 | _=>rfl
def dimsK:List AV→(List AV→Prop)→Prop
 | [],K=>K []
 | h::t,K=>dimK h fun h'=>dimsK t fun t'=>K (h'::t')
theorem dimsK_eq:∀ (l:List AV) (K:List AV→Prop),dimsK l K=K (l.map AV.dim)
 | [],K=>rfl
 | h::t,K=>by rw [dimsK,dimK_eq,dimsK_eq t];rfl
def callK (P:Program) (lo:Nat) (draw:Bool) (mode:Nat) (acc:PAcc) (vs:List AV) (H:List AObj) (K:PAcc→AV→List AObj→Prop):Prop:=match vs with
 | f::args=>match f with
   | .func k first cap=>catK args cap fun r=>catK first r fun as=>match mode with
     | 3=>as.all (pureD 8)=true∧dimsK as fun as'=>∃ v,PureOk P k as' v∧(match draw with
       | true=>(∀ p∈acc,p.1=k→p.2.1=as'→p.2.2=v)∧K ((k,as',v)::acc) v.dim H
       | false=>K acc v.dim H)
     | 6=>match draw with
       | true=>(as.map (shz H)).all (pureD 8)=true∧∃ as',(as.map (shz H)).map AV.dim=as'∧∃ v,scal v=true∧PureOk P k as' v∧(∀ p∈acc,p.1=k→p.2.1=as'→p.2.2=v)∧K ((k,as',v)::acc) v.dim H
       | false=>∃ v H',CallS P 6 lo (.fn k) as H v H'∧K acc v H'
     | mode=>match draw with
       | true=>False
       | false=>∃ v H',CallS P mode lo (.fn k) as H v H'∧K acc v H'
   | .yield l=>match draw with
     | true=>False
     | false=>∃ v H',CallS P mode lo (.yield l) args H v H'∧K acc v H'
   | _=>False
 | []=>False
def rkA (P:Program) (lo:Nat) (draw:Bool) (k:RK) (acc:PAcc) (vs:List AV) (H:List AObj) (K:PAcc→AV→List AObj→Prop):Prop:=match k with
 | .call mode=>callK P lo draw mode acc vs H K
 | k=>rk P lo k vs H (K acc)
def ipK (ip:Option Nat) (T:List AV) (v:AV) (K:List AV→Prop):Prop:=match ip with
 | none=>K T
 | some t=>viewK v fun v=>setK T t v K
def grdK (g:Option (Nat×Bool)) (T:List AV) (skip run:Prop):Prop:=match g with
 | none=>run
 | some (t,want)=>getK T t fun v=>match v with
   | .bool b=>(match want with
     | true=>(match b with | true=>run | false=>skip)
     | false=>(match b with | true=>skip | false=>run))
   | .tuple []=>skip
   | _=>False
def wpI (P:Program) (lo:Nat) (draw:Bool) (ri:RI) (acc:PAcc) (T:List AV) (H:List AObj) (K:PAcc→List AV→List AObj→Prop):Prop :=
 grdK ri.guard T (putK T ri.dst (.tuple []) fun T'=>K acc T' H) (rsK ri.srcs T fun vs T1=>rkA P lo draw ri.k acc vs H fun acc' v H'=>hdK v fun v=>ipK ri.ip T1 v fun T2=>putK T2 ri.dst v fun T3=>K acc' T3 H')
def regK (P:Program) (lo:Nat) (draw:Bool):List RI→PAcc→List AV→List AObj→(List AV→List AObj→Prop)→Prop
 | [],_,T,H,K=>K T H
 | ri::r,acc,T,H,K=>wpI P lo draw ri acc T H fun acc' T' H'=>match draw with
   | true=>regK P lo draw r acc' T' H' K
   | false=>regK P lo draw r [] T' H' K
def nxtK (it:Nat) (dst:Option Nat) (T:List AV) (H:List AObj) (K:List AV→List AObj→Prop):Prop:=getK T it fun v=>match v with
 | .ptr r 0=>∃ m since seen clock es,H[r]?=some (.iter m since seen clock)∧H[m]?=some (.map es clock)∧since≤clock∧(∀ e∈es,e.1<since) ∧
   ((∀ e∈es,e.1∈seen)→putK T dst (.tuple [.bool false]) fun T'=>K T' H) ∧
   ∀ e∈es,e.1 ∉ seen→putK T dst (.tuple [.bool true,e.2.1,e.2.2]) fun T'=>K T' (H.set r (.iter m since (seen++[e.1]) clock))
 | _=>False
inductive LoopI (f:List AV→List AObj→(Ex→List AV→List AObj→Prop)→Prop) (T:List AV) (H:List AObj) (Q:Ex→List AV→List AObj→Prop):Prop where
 | intro (I:Nat→List AV→List AObj→Prop) (m:Nat) (h0:I m T H) (step:∀ m T H,I m T H→f T H fun e T' H'=>match e with
   | .normal=>∃ m',m'<m∧I m' T' H'
   | e=>Q e T' H')
def keepO (k:Option (List Bool)) (T:List AV) (K:List AV→Prop):Prop:=match k with
 | some k=>keepK k T K
 | none=>K T
theorem keepO_eq (k:Option (List Bool)) (T:List AV) (K:List AV→Prop):keepO k T K=K (match k with | some k=>zipKeep k T | none=>T):=by
 cases k with
 | none=>rfl
 | some k=>exact keepK_eq k T K
def nfK:List AV→(List AV→Prop)→Prop
 | [],K=>K []
 | h::t,K=>nfK t fun t'=>K (h::t')
theorem nfK_eq:∀ (T:List AV) (K:List AV→Prop),nfK T K=K T
 | [],K=>rfl
 | h::t,K=>by rw [nfK,nfK_eq t]
def rngK (P:Program) (A:FAnn) (fn:FuncId) (lo:Nat) (rl:Option Nat) (f:AV) (ps:List Nat) (as bd:Code) (T:List AV) (H:List AObj) (Q:Ex→List AV→List AObj→Prop):Prop:=match f with
 | .func k first cap=>inLoop H rl=true∧∃ r H' st pend fn' T' ps' as' bd' an',Sem P (.fn k) (first++[.yield H.length]++cap) (H++[.loop .ready none fn (T.map AV.view) ps as bd A]) lo r H' ∧
   H'[H.length]?=some (.loop st pend fn' T' ps' as' bd' an')∧st≠.busy∧(match pend with
    | none=>Q .normal (T.map AV.settle) (H'.set H.length .dead)
    | some .ret=>Q .ret (T.map AV.settle) (H'.set H.length .dead)
    | some (.exit id)=>Q (.exit id) (T.map AV.settle) (H'.set H.length .dead)
    | _=>False)
 | _=>False
def wpR (P:Program) (A:FAnn) (fn:FuncId) (lo:Nat) (rl:Option Nat):RC→List AV→List AObj→(Ex→List AV→List AObj→Prop)→Prop
 | .skip,T,H,Q=>Q .normal T H
 | .reg draw l,T,H,Q=>regK P lo draw l [] T H (Q .normal)
 | .seq a b,T,H,Q=>wpR P A fn lo rl a T H fun e T' H'=>match e with
   | .normal=>wpR P A fn lo rl b T' H' Q
   | e=>Q e T' H'
 | .cond c a b,T,H,Q=>match c with
   | .sl t=>getK T t fun v=>(match v with
     | .bool x=>(match x with | true=>wpR P A fn lo rl a T H Q | false=>wpR P A fn lo rl b T H Q)
     | _=>False)
   | .cv v=>(match v with
     | .bool x=>(match x with | true=>wpR P A fn lo rl a T H Q | false=>wpR P A fn lo rl b T H Q)
     | _=>False)
   | _=>False
 | .block id c,T,H,Q=>wpR P A fn lo rl c T H fun e T' H'=>match e with
   | .exit id'=>(match Nat.beq id' id with | true=>Q .normal T' H' | false=>Q (.exit id') T' H')
   | e=>Q e T' H'
 | .loop keep c,T,H,Q=>keepO keep T fun T=>LoopI (fun T H Q=>nfK T fun T=>wpR P A fn lo rl c T H fun e T' H'=>match e with
   | .normal=>keepO keep T' fun T'=>Q .normal T' H'
   | e=>Q e T' H') T H Q
 | .exit id,T,H,Q=>Q (.exit id) T H
 | .ret,T,H,Q=>Q .ret T H
 | .rng f ps as bd,T,H,Q=>match f with
   | .sl t=>getK T t fun v=>rngK P A fn lo rl v ps as bd T H Q
   | .cv v=>rngK P A fn lo rl v ps as bd T H Q
   | _=>False
 | .nxt it dst l,T,H,Q=>nxtK it dst T H fun T' H'=>regK P lo false l [] T' H' (Q .normal)
def ipOf (o:Oper) (mode:Nat):Option Nat:=match mode with
 | 0=>none
 | 4=>none
 | _=>match o.op with
   | .move (.tmp t) | .assign (.tmp t)=>some t
   | _=>none
def resI (P:Program) (ops:Array Oper) (o:Oper) (an:OpAnn):Option RI:=match o.guard with
 | none=>some ⟨o.dst,resS (isLinear o) an.takes (opsOf o),none,ipOf o an.mode,resK P o an.mode⟩
 | some (j,want)=>match (ops[j]?).bind (·.dst) with
   | some d=>some ⟨o.dst,resS (isLinear o) an.takes (opsOf o),some (d,want),ipOf o an.mode,resK P o an.mode⟩
   | none=>none
def linkOps (P:Program) (ops:Array Oper):List Oper→List OpAnn→Option (List RI)
 | [],_=>some []
 | o::r,as=>match resI P ops o (as.headD {}),linkOps P ops r as.tail with
   | some ri,some l=>some (ri::l)
   | _,_=>none
def linkReg (P:Program) (ops:Array Oper) (draw:Bool) (as:List OpAnn):Option RC:=match draw,ops.toList with
 | false,o::rest=>(match o.op,o.guard with
   | .next (.tmp it) false,none=>(linkOps P ops rest as.tail).map (.nxt it o.dst)
   | _,_=>(linkOps P ops (o::rest) as).map (.reg false))
 | d,l=>(linkOps P ops l as).map (.reg d)
def resC (x:Operand):RS:=match x with
 | .tmp t=>.sl t
 | x=>.cv (ev [] x)
def linkC (P:Program) (A:FAnn):Code→Nat→Option RC
 | .skip,_=>some .skip
 | .region id ops draw,_=>match A.keepR with
   | []=>linkReg P ops draw (A.ops.getD id [])
   | _=>none
 | .seq a b,bid=>match linkC P A a bid,linkC P A b bid with
   | some x,some y=>some (.seq x y)
   | _,_=>none
 | .cond c a b,bid=>match linkC P A a bid,linkC P A b bid with
   | some x,some y=>some (.cond (resC c) x y)
   | _,_=>none
 | .block id c,_=>(linkC P A c id).map (.block id)
 | .loop c,bid=>(linkC P A c bid).map (.loop (findKeep bid A.keepL))
 | .exit id,_=>some (.exit id)
 | .ret,_=>some .ret
 | .scope c,bid=>linkC P A c bid
 | .label _,_=>some .skip
 | .rangeFunc f ps as bd,_=>some (.rng (resC f) ps.toList as bd)
 | _,_=>none
end
section
variable {P:Program}
theorem ipK_eq (o:Oper) (mode:Nat) (T:List AV) (v:AV) (K:List AV→Prop):ipK (ipOf o mode) T v K=K (inPlace o mode T v):=by
 by_cases h0:mode=0
 ·subst h0;rfl
 by_cases h4:mode=4
 ·subst h4;rfl
 have e1:ipOf o mode=(match o.op with | .move (.tmp t) | .assign (.tmp t)=>some t | _=>none):=by
  unfold ipOf;split
  ·exact absurd rfl h0
  ·exact absurd rfl h4
  ·rfl
 have e2:inPlace o mode T v=(match o.op with | .move (.tmp t) | .assign (.tmp t)=>setT T t v.view | _=>T):=by
  unfold inPlace;split
  ·exact absurd rfl h0
  ·exact absurd rfl h4
  ·rfl
 rw [e1,e2]
 cases o.op <;> try rfl
 case move x=>cases x <;> first | rfl | (simp only [ipK,viewK_eq,setK_eq])
 case assign x=>cases x <;> first | rfl | (simp only [ipK,viewK_eq,setK_eq])
theorem wpI_eq {lo:Nat} {draw:Bool} {ops:Array Oper} {o:Oper} {an:OpAnn} {ri:RI} (hr:resI P ops o an=some ri) {acc:PAcc} {T:List AV} {H:List AObj} {K:PAcc→List AV→List AObj→Prop}
  (h:wpI P lo draw ri acc T H K) :
  (wantedA ops o T=some false∧K acc (put T o.dst (.tuple [])) H) ∨
  (wantedA ops o T=some true∧rkA P lo draw (resK P o an.mode) acc (linVals (isLinear o) (rd T an.takes (opsOf o)).1) H fun acc' v H'=>K acc' (put (inPlace o an.mode (rd T an.takes (opsOf o)).2 v) o.dst v) H'):=by
 unfold resI at hr
 split at hr
 ·rename_i hg
  cases hr
  simp only [wpI,grdK,rsK_eq,hdK_eq,ipK_eq,putK_eq] at h
  exact .inr ⟨by simp [wantedA,hg],h⟩
 ·rename_i j want hg
  split at hr
  ·rename_i d hd
   cases hr
   simp only [wpI,grdK,rsK_eq,hdK_eq,ipK_eq,putK_eq,getK_eq] at h
   have hw:∀ b,getT T d=.bool b→wantedA ops o T=some (b == want):=fun b hb=>by simp [wantedA,hg,hd,hb]
   split at h
   ·rename_i b hb
    have hw:=hw b hb
    cases want <;> cases b <;> simp only at h
    ·exact .inr ⟨hw,h⟩
    ·exact .inl ⟨hw,h⟩
    ·exact .inl ⟨hw,h⟩
    ·exact .inr ⟨hw,h⟩
   ·rename_i hb
    exact .inl ⟨by simp [wantedA,hg,hd,hb],h⟩
   ·exact h.elim
  ·cases hr
theorem stepA_true {C:CallFn} {lo:Nat} {ops:Array Oper} {o:Oper} {an:OpAnn} {T:List AV} {H:List AObj} {v:AV} {H':List AObj} (hw:wantedA ops o T=some true)
  (h:opAll P C lo o an.mode (linVals (isLinear o) (rd T an.takes (opsOf o)).1) H=some (v,H')):stepA P C lo ops o an ⟨T,H⟩=some ⟨put (inPlace o an.mode (rd T an.takes (opsOf o)).2 v) o.dst v,H'⟩:=by
 simp only [stepA,hw,Ab.execOp]
 unfold linVals at h
 cases hl:isLinear o <;> rw [hl] at h <;> simp only at h ⊢ <;> rw [h] <;> rfl
theorem stepA_false {C:CallFn} {lo:Nat} {ops:Array Oper} {o:Oper} {an:OpAnn} {T:List AV} {H:List AObj} (hw:wantedA ops o T=some false):stepA P C lo ops o an ⟨T,H⟩=some ⟨put T o.dst (.tuple []),H⟩:=by
 simp only [stepA,hw]
theorem resK_call {o:Oper} {mode mode':Nat} (h:resK P o mode=.call mode'):mode'=mode∧∃ c f,o.op=.call c∧c.callee=.value f:=by
 cases hop:o.op
 case call c =>
  simp only [resK,hop] at h
  cases hc:c.callee with
  | value f=>simp only [hc] at h;cases h;exact ⟨rfl,c,f,rfl,hc⟩
  | invoke x n=>simp only [hc] at h;cases h
  | builtin b =>
    simp only [hc] at h
    repeat' (first | contradiction | split at h)
 all_goals simp only [resK,hop] at h
 all_goals (try unfold resMv at h)
 all_goals (repeat' (first | contradiction | split at h))
theorem rkA_cases {lo:Nat} {draw:Bool} {k:RK} {acc:PAcc} {vs:List AV} {H:List AObj} {K:PAcc→AV→List AObj→Prop} (h:rkA P lo draw k acc vs H K) :
  (∃ mode,k=.call mode∧callK P lo draw mode acc vs H K)∨rk P lo k vs H (K acc):=by
 unfold rkA at h
 split at h
 ·exact .inl ⟨_,rfl,h⟩
 ·exact .inr h
theorem opCall_fn {C:CallFn} {lo mode:Nat} {k:FuncId} {first cap args:List AV} {H:List AObj}:opCall C lo mode H (.func k first cap::args)=callTo C lo mode (.fn k) (first++args++cap) H:=rfl
theorem pure_call {C:CallFn} {acc:PAcc} (hag:Agr C acc) {lo:Nat} {k:FuncId} {as:List AV} {v:AV} (hp:as.all (pureD 8)=true) (hm:(k,as.map AV.dim,v)∈acc) (H:List AObj) :
  callTo C lo 3 (.fn k) as H=some (v.dim,H):=by
 obtain ⟨r,H2,h1,h2⟩:=hag _ hm
 simp only [callTo,hp,h1,Option.bind_some,h2,Option.map_some]
theorem pure_call6 {C:CallFn} {acc:PAcc} (hag:Agr C acc) {lo:Nat} {k:FuncId} {as:List AV} {v:AV} (H:List AObj) (hp:(as.map (shz H)).all (pureD 8)=true) (hs:scal v=true) (hm:(k,(as.map (shz H)).map AV.dim,v)∈acc) :
  callTo C lo 6 (.fn k) as H=some (v.dim,H):=by
 obtain ⟨r,H2,h1,h2⟩:=hag _ hm
 simp only [callTo,hp,h1,Option.bind_some,h2,hs]
theorem wpI_D {lo:Nat} {ops:Array Oper} {o:Oper} {an:OpAnn} {ri:RI} (hr:resI P ops o an=some ri) {acc:PAcc} (hacc:PAccOk P acc) {T:List AV} {H:List AObj} {K:PAcc→List AV→List AObj→Prop}
  (h:wpI P lo true ri acc T H K):∃ acc' T' H',PAccOk P acc'∧(∀ p∈acc,p∈acc')∧(∀ C,Agr C acc'→stepA P C lo ops o an ⟨T,H⟩=some ⟨T',H'⟩)∧K acc' T' H':=by
 rcases wpI_eq hr h with ⟨hw,hk⟩ | ⟨hw,hk⟩
 ·exact ⟨acc,_,_,hacc,fun _ h=>h,fun C _=>stepA_false hw,hk⟩
 ·rcases rkA_cases hk with ⟨mode,hm,hk⟩ | hk
  ·obtain ⟨rfl,c,f,hop,hc⟩:=resK_call hm
   generalize hvs:linVals (isLinear o) (rd T an.takes (opsOf o)).1=vs at hk
   have ho:∀ C,opAll P C lo o an.mode vs H=opCall C lo an.mode H vs:=fun C=>by simp only [opAll,hop,hc]
   unfold callK at hk
   split at hk
   ·split at hk
    ·rename_i args _ k first cap
     rw [catK_eq,catK_eq] at hk
     split at hk
     ·rename_i hmode
      obtain ⟨hp,hk⟩:=hk
      rw [dimsK_eq] at hk
      obtain ⟨v,hpo,hcons,hk⟩:=hk
      refine ⟨_,_,_,⟨fun p hp=>?_,fun p hp q hq h1 h2=>?_⟩,fun p hp=>List.mem_cons_of_mem _ hp,fun C hag=>stepA_true hw ?_,hk⟩
      ·rcases List.mem_cons.1 hp with rfl | hp
       ·exact hpo
       ·exact hacc.1 p hp
      ·rcases List.mem_cons.1 hp with rfl | hp <;> rcases List.mem_cons.1 hq with rfl | hq
       ·rfl
       ·exact (hcons q hq h1.symm h2.symm).symm
       ·exact hcons p hp h1 h2
       ·exact hacc.2 p hp q hq h1 h2
      ·rw [hvs,ho C,hmode,opCall_fn,List.append_assoc]
       exact pure_call hag hp (List.mem_cons_self) H
     ·rename_i hmode
      obtain ⟨hp,as',rfl,v,hs,hpo,hcons,hk⟩:=hk
      refine ⟨_,_,_,⟨fun p hp=>?_,fun p hp q hq h1 h2=>?_⟩,fun p hp=>List.mem_cons_of_mem _ hp,fun C hag=>stepA_true hw ?_,hk⟩
      ·rcases List.mem_cons.1 hp with rfl | hp
       ·exact hpo
       ·exact hacc.1 p hp
      ·rcases List.mem_cons.1 hp with rfl | hp <;> rcases List.mem_cons.1 hq with rfl | hq
       ·rfl
       ·exact (hcons q hq h1.symm h2.symm).symm
       ·exact hcons p hp h1 h2
       ·exact hacc.2 p hp q hq h1 h2
      ·rw [hvs,ho C,hmode,opCall_fn,List.append_assoc]
       exact pure_call6 hag H hp hs (List.mem_cons_self)
     ·exact hk.elim
    ·exact hk.elim
    ·exact hk.elim
   ·exact hk.elim
  ·obtain ⟨v,H',h1,h2⟩:=resK_ok hk
   exact ⟨acc,_,_,hacc,fun _ h=>h,fun C _=>stepA_true hw (h1 C),h2⟩
theorem wpI_N {lo:Nat} {ops:Array Oper} {o:Oper} {an:OpAnn} {ri:RI} (hr:resI P ops o an=some ri) {acc:PAcc} {T:List AV} {H:List AObj} {K:PAcc→List AV→List AObj→Prop}
  (h:wpI P lo false ri acc T H K):StepN P lo ops o an ⟨T,H⟩ fun s'=>K acc s'.T s'.H:=by
 rcases wpI_eq hr h with ⟨hw,hk⟩ | ⟨hw,hk⟩
 ·exact .inl ⟨_,_,csound_none,stepA_false hw,hk⟩
 ·rcases rkA_cases hk with ⟨mode,hm,hk⟩ | hk
  ·obtain ⟨rfl,c,f,hop,hc⟩:=resK_call hm
   generalize hvs:linVals (isLinear o) (rd T an.takes (opsOf o)).1=vs at hk
   have ho:∀ C,opAll P C lo o an.mode vs H=opCall C lo an.mode H vs:=fun C=>by simp only [opAll,hop,hc]
   unfold callK at hk
   split at hk
   ·split at hk
    ·rename_i args _ k first cap
     rw [catK_eq,catK_eq] at hk
     split at hk
     ·rename_i hmode
      obtain ⟨hp,hk⟩:=hk
      rw [dimsK_eq] at hk
      obtain ⟨v,hpo,hk⟩:=hk
      obtain ⟨C,hC,hag⟩:=acc_table (acc:=[(k,(first++(args++cap)).map AV.dim,v)]) (P:=P) ⟨fun p hp=>by simp only [List.mem_singleton] at hp;subst hp;exact hpo,fun p hp q hq _ _=>by
       simp only [List.mem_singleton] at hp hq;subst hp;subst hq;rfl⟩
      refine .inl ⟨C,_,hC,stepA_true hw (v:=v.dim) (H':=H) ?_,hk⟩
      rw [hvs,ho C,hmode,opCall_fn,List.append_assoc]
      exact pure_call hag hp (List.mem_cons_self) H
     ·rename_i hmode
      obtain ⟨v,H',⟨C,hC,hcall⟩,hk⟩:=hk
      refine .inl ⟨C,_,hC,stepA_true hw (v:=v) (H':=H') ?_,hk⟩
      rw [hvs,ho C,hmode,opCall_fn,List.append_assoc];exact hcall
     ·obtain ⟨v,H',⟨C,hC,hcall⟩,hk⟩:=hk
      refine .inl ⟨C,_,hC,stepA_true hw (v:=v) (H':=H') ?_,hk⟩
      rw [hvs,ho C,opCall_fn,List.append_assoc];exact hcall
    ·obtain ⟨v,H',⟨C,hC,hcall⟩,hk⟩:=hk
     refine .inl ⟨C,_,hC,stepA_true hw (v:=v) (H':=H') ?_,hk⟩
     rw [hvs,ho C];exact hcall
    ·exact hk.elim
   ·exact hk.elim
  ·obtain ⟨v,H',h1,h2⟩:=resK_ok hk
   exact .inl ⟨_,_,csound_none,stepA_true hw (h1 _),h2⟩
end
end Go.Proofs.YtfakoboiahbhaaaGreat.Ab


namespace Go.Proofs.YtfakoboiahbhaaaGreat.Ab
open Go
section
variable {P:Program}
theorem StepN.mono {lo:Nat} {ops:Array Oper} {o:Oper} {an:OpAnn} {s:St} {K K':St→Prop} (h:StepN P lo ops o an s K) (hk:∀ s,K s→K' s):StepN P lo ops o an s K':=by
 rcases h with ⟨C,s',h1,h2,h3⟩ | ⟨it,r,m,since,seen,es,clock,a1,a2,a3,a4,a5,a6,a7,a8,a9⟩
 ·exact .inl ⟨C,s',h1,h2,hk _ h3⟩
 ·exact .inr ⟨it,r,m,since,seen,es,clock,a1,a2,a3,a4,a5,a6,a7,fun h=>hk _ (a8 h),fun e h1 h2=>hk _ (a9 e h1 h2)⟩
theorem runN_mono {lo:Nat} {ops:Array Oper} {K K':St→Prop} (hk:∀ s,K s→K' s):∀ {l:List Oper} {as:List OpAnn} {s:St},runN P lo ops l as s K→runN P lo ops l as s K'
 | [],_,s,h=>hk s h
 | _::_,_,_,h=>StepN.mono h fun _ h'=>runN_mono hk h'
theorem loopW_mono {f g:St→(Ex→St→Prop)→Prop} (hfg:∀ s Q Q',(∀ e s,Q e s→Q' e s)→f s Q→g s Q') {Q Q':Ex→St→Prop} (hq:∀ e s,Q e s→Q' e s):∀ {n:Nat} {s:St},LoopW f n s Q→LoopW g n s Q'
 | 0,s,h=>h
 | n+1,s,h=>hfg s _ _ (fun e s' h'=>by
   cases e with
   | normal=>exact loopW_mono hfg hq h'
   | ret=>exact hq _ _ h'
   | exit id=>exact hq _ _ h') h
theorem wpA_mono {A:FAnn} {fn:FuncId} {lo:Nat} {rl:Option Nat}:∀ {c:Code} {bid:Nat} {s:St} {Q Q':Ex→St→Prop},(∀ e s,Q e s→Q' e s)→wpA P A fn lo rl c bid s Q→wpA P A fn lo rl c bid s Q':=by
 intro c
 induction c with
 | skip=>intro bid s Q Q' hq h;exact hq _ _ h
 | label l=>intro bid s Q Q' hq h;exact hq _ _ h
 | ret=>intro bid s Q Q' hq h;exact hq _ _ h
 | exit id=>intro bid s Q Q' hq h;exact hq _ _ h
 | goto l=>intro bid s Q Q' hq h;exact h
 | refuse y=>intro bid s Q Q' hq h;exact h
 | region id ops draw =>
   intro bid s Q Q' hq h
   cases draw with
   | true=>obtain ⟨acc,s',h1,h2,h3⟩:=h;exact ⟨acc,s',h1,h2,hq _ _ h3⟩
   | false=>exact runN_mono (fun s h=>hq _ _ h) h
 | seq a b iha ihb =>
   intro bid s Q Q' hq h
   refine iha (fun e s' h'=>?_) h
   cases e with
   | normal=>exact ihb hq h'
   | ret=>exact hq _ _ h'
   | exit id=>exact hq _ _ h'
 | cond c a b iha ihb =>
   intro bid s Q Q' hq h
   obtain ⟨t,ht,h⟩:=h
   refine ⟨t,ht,?_⟩
   cases t with
   | true=>exact iha hq h
   | false=>exact ihb hq h
 | block id c ih =>
   intro bid s Q Q' hq h
   refine ih (fun e s' h'=>?_) h
   cases e with
   | normal=>exact hq _ _ h'
   | ret=>exact hq _ _ h'
   | exit id' =>
     simp only at h' ⊢
     by_cases hid:id'=id
     ·simp only [hid,if_true] at h' ⊢;exact hq _ _ h'
     ·simp only [hid,if_false] at h' ⊢;exact hq _ _ h'
 | loop c ih =>
   intro bid s Q Q' hq h
   obtain ⟨n,h⟩:=h
   refine ⟨n,?_⟩
   refine loopW_mono ?_ hq h
   intro s Q Q' hq h
   exact ih hq h
 | scope c ih=>intro bid s Q Q' hq h;exact ih hq h
 | rangeFunc f ps as bd _ _ =>
   intro bid s Q Q' hq h
   obtain ⟨C,e,s',h1,h2,h3⟩:=h
   exact ⟨C,e,s',h1,h2,hq _ _ h3⟩
theorem regK_N {lo:Nat} {ops:Array Oper}:∀ {l:List Oper} {as:List OpAnn} {rl:List RI} {acc:PAcc} {T:List AV} {H:List AObj} {K:List AV→List AObj→Prop},linkOps P ops l as=some rl→regK P lo false rl acc T H K →
  runN P lo ops l as ⟨T,H⟩ fun s'=>K s'.T s'.H
 | [],as,rl,acc,T,H,K,hl,h=>by simp only [linkOps,Option.some.injEq] at hl;subst hl;exact h
 | o::r,as,rl,acc,T,H,K,hl,h=>by
   simp only [linkOps] at hl
   split at hl
   ·rename_i ri l' h1 h2
    simp only [Option.some.injEq] at hl;subst hl
    exact StepN.mono (wpI_N h1 h) fun s' h'=>regK_N h2 h'
   ·cases hl
theorem execOps_cons {C:CallFn} {lo:Nat} {ops:Array Oper} {o:Oper} {r:List Oper} {as:List OpAnn} {s:St}:execOps P C lo ops (o::r) as s=(stepA P C lo ops o (as.headD {}) s).bind (execOps P C lo ops r as.tail):=by
 rw [execOps];unfold stepA
 cases hw:wantedA ops o s.T with
 | none=>rfl
 | some b=>cases b <;> rfl
theorem regK_D {lo:Nat} {ops:Array Oper}:∀ {l:List Oper} {as:List OpAnn} {rl:List RI} {acc:PAcc} {T:List AV} {H:List AObj} {K:List AV→List AObj→Prop},linkOps P ops l as=some rl→PAccOk P acc→regK P lo true rl acc T H K →
  ∃ acc' T' H',PAccOk P acc'∧(∀ p∈acc,p∈acc')∧(∀ C,Agr C acc'→execOps P C lo ops l as ⟨T,H⟩=some ⟨T',H'⟩)∧K T' H'
 | [],as,rl,acc,T,H,K,hl,ha,h=>by simp only [linkOps,Option.some.injEq] at hl;subst hl;exact ⟨acc,T,H,ha,fun _ h=>h,fun _ _=>rfl,h⟩
 | o::r,as,rl,acc,T,H,K,hl,ha,h=>by
   simp only [linkOps] at hl
   split at hl
   ·rename_i ri l' h1 h2
    simp only [Option.some.injEq] at hl;subst hl
    obtain ⟨acc1,T1,H1,a1,a2,a3,a4⟩:=wpI_D h1 ha h
    obtain ⟨acc2,T2,H2,b1,b2,b3,b4⟩:=regK_D h2 a1 a4
    refine ⟨acc2,T2,H2,b1,fun p hp=>b2 p (a2 p hp),fun C hag=>?_,b4⟩
    rw [execOps_cons,a3 C (fun p hp=>hag p (b2 p hp)),Option.bind_some]
    exact b3 C hag
   ·cases hl
theorem linkReg_ok {A:FAnn} {fn:FuncId} {lo:Nat} {rl:Option Nat} {id:Nat} {ops:Array Oper} {draw:Bool} {bid:Nat} {rc:RC} (hA:A.keepR=[]) (hl:linkReg P ops draw (A.ops.getD id [])=some rc)
  {T:List AV} {H:List AObj} {Q:Ex→List AV→List AObj→Prop} (h:wpR P A fn lo rl rc T H Q):wpA P A fn lo rl (.region id ops draw) bid ⟨T,H⟩ fun e s=>Q e s.T s.H:=by
 have hk:keepSt A.keepR id ⟨T,H⟩=⟨T,H⟩:=by rw [hA];rfl
 have gen:∀ {d:Bool} {l:List Oper},ops.toList=l→draw=d→(linkOps P ops l (A.ops.getD id [])).map (.reg d)=some rc→wpA P A fn lo rl (.region id ops draw) bid ⟨T,H⟩ fun e s=>Q e s.T s.H:=fun {d l} hops hd hl2=>by
  clear hl
  simp only [Option.map_eq_some_iff] at hl2
  obtain ⟨rl',hl2,rfl⟩:=hl2
  subst hd
  cases draw with
  | true =>
    obtain ⟨acc',T',H',a1,_,a3,a4⟩:=regK_D hl2 ⟨fun p hp=>by simp at hp,fun p hp=>by simp at hp⟩ h
    exact ⟨acc',⟨T',H'⟩,a1,fun C _ hag=>by rw [hk,hops];exact a3 C hag,a4⟩
  | false =>
    show runN P lo ops ops.toList _ (keepSt A.keepR id ⟨T,H⟩) _
    rw [hk,hops];exact regK_N hl2 h
 unfold linkReg at hl
 split at hl
 ·rename_i o rest hops
  split at hl
  ·rename_i it hop hg
   simp only [Option.map_eq_some_iff] at hl
   obtain ⟨rl',hl,rfl⟩:=hl
   show runN P lo ops ops.toList _ (keepSt A.keepR id ⟨T,H⟩) _
   rw [hk,hops]
   refine .inr ?_
   simp only [wpR,nxtK,getK_eq] at h
   split at h
   ·rename_i r hr
    obtain ⟨m,since,seen,clock,es,a1,a2,a3,a4,a5,a6⟩:=h
    simp only [putK_eq] at a5 a6
    exact ⟨.tmp it,r,m,since,seen,es,clock,hop,hg,hr,a1,a2,a3,a4,fun h=>regK_N hl (a5 h),fun e h1 h2=>regK_N hl (a6 e h1 h2)⟩
   ·exact h.elim
  ·exact gen hops rfl hl
 ·exact gen rfl rfl hl
theorem LoopW.more {f:St→(Ex→St→Prop)→Prop} {Q:Ex→St→Prop} (hf:∀ s Q Q',(∀ e s,Q e s→Q' e s)→f s Q→f s Q'):∀ {n:Nat} {s:St},LoopW f n s Q→LoopW f (n+1) s Q
 | 0,s,h=>h.elim
 | n+1,s,h=>hf _ _ _ (fun e s' h'=>by
    cases e with
    | normal=>exact LoopW.more hf h'
    | ret=>exact h'
    | exit id=>exact h') h
theorem loopW_inv {f:St→(Ex→St→Prop)→Prop} {Q:Ex→St→Prop} (I:Nat→St→Prop) (step:∀ m s,I m s→f s fun e s'=>match e with | .normal=>∃ m',m'<m∧I m' s' | e=>Q e s')
  (hf:∀ s Q Q',(∀ e s,Q e s→Q' e s)→f s Q→f s Q'):∀ (m:Nat) (s:St),I m s→LoopW f (m+1) s Q:=by
 intro m
 induction m using Nat.strongRecOn with
 | _ m ih =>
   intro s h
   refine hf _ _ _ (fun e s' h'=>?_) (step m s h)
   cases e with
   | normal =>
     obtain ⟨m',hm,h'⟩:=h'
     have:∀ k,LoopW f (m'+1+k) s' Q:=fun k=>by
      induction k with
      | zero=>exact ih m' hm s' h'
      | succ k ihk=>exact LoopW.more hf ihk
     have e:m=m'+1+(m-(m'+1)):=by omega
     rw [e];exact this _
   | ret=>exact h'
   | exit id=>exact h'
theorem link_ok {A:FAnn} {fn:FuncId} {lo:Nat} {rl:Option Nat}:∀ {c:Code} {bid:Nat} {rc:RC} {T:List AV} {H:List AObj} {Q:Ex→List AV→List AObj→Prop},linkC P A c bid=some rc→wpR P A fn lo rl rc T H Q →
  wpA P A fn lo rl c bid ⟨T,H⟩ fun e s=>Q e s.T s.H:=by
 intro c
 induction c with
 | skip=>intro bid rc T H Q hl h;simp only [linkC,Option.some.injEq] at hl;subst hl;exact h
 | label l=>intro bid rc T H Q hl h;simp only [linkC,Option.some.injEq] at hl;subst hl;exact h
 | ret=>intro bid rc T H Q hl h;simp only [linkC,Option.some.injEq] at hl;subst hl;exact h
 | exit id=>intro bid rc T H Q hl h;simp only [linkC,Option.some.injEq] at hl;subst hl;exact h
 | goto l=>intro bid rc T H Q hl h;simp [linkC] at hl
 | refuse y=>intro bid rc T H Q hl h;simp [linkC] at hl
 | region id ops draw =>
   intro bid rc T H Q hl h
   simp only [linkC] at hl
   split at hl
   ·rename_i hA
    exact linkReg_ok hA hl h
   ·cases hl
 | seq a b iha ihb =>
   intro bid rc T H Q hl h
   simp only [linkC] at hl
   split at hl
   ·rename_i x y hx hy
    simp only [Option.some.injEq] at hl;subst hl
    show wpA P A fn lo rl a bid ⟨T,H⟩ _
    refine wpA_mono (fun e s h'=>?_) (iha hx h)
    cases e with
    | normal=>exact ihb hy h'
    | ret=>exact h'
    | exit id=>exact h'
   ·cases hl
 | cond c a b iha ihb =>
   intro bid rc T H Q hl h
   simp only [linkC] at hl
   split at hl
   ·rename_i x y hx hy
    simp only [Option.some.injEq] at hl;subst hl
    have key:∀ v,ev T c=v→(match v with
      | .bool t=>(match t with | true=>wpR P A fn lo rl x T H Q | false=>wpR P A fn lo rl y T H Q)
      | _=>False)→wpA P A fn lo rl (.cond c a b) bid ⟨T,H⟩ fun e s=>Q e s.T s.H:=fun v hv h=>by
     cases v with
     | bool t =>
       refine ⟨t,hv,?_⟩
       cases t with
       | true=>exact iha hx h
       | false=>exact ihb hy h
     | _=>exact h.elim
    cases c with
    | tmp t=>simp only [resC,wpR,getK_eq] at h;exact key _ rfl h
    | const v=>exact key (ev [] (.const v)) rfl h
    | func f=>exact key (ev [] (.func f)) rfl h
    | global g=>exact key (ev [] (.global g)) rfl h
   ·cases hl
 | block id c ih =>
   intro bid rc T H Q hl h
   simp only [linkC,Option.map_eq_some_iff] at hl
   obtain ⟨x,hx,rfl⟩:=hl
   show wpA P A fn lo rl c id ⟨T,H⟩ _
   refine wpA_mono (fun e s h'=>?_) (ih hx h)
   cases e with
   | normal=>exact h'
   | ret=>exact h'
   | exit id' =>
     simp only at h' ⊢
     by_cases hid:id'=id
     ·subst hid
      simp only [if_true]
      rw [Nat.beq_refl] at h';exact h'
     ·simp only [hid,if_false]
      have:Nat.beq id' id=false:=by
       cases hb:Nat.beq id' id with
       | false=>rfl
       | true=>exact absurd (Nat.eq_of_beq_eq_true hb) hid
      rw [this] at h';exact h'
 | loop c ih =>
   intro bid rc T H Q hl h
   simp only [linkC,Option.map_eq_some_iff] at hl
   obtain ⟨x,hx,rfl⟩:=hl
   simp only [wpR,keepO_eq,nfK_eq] at h
   obtain ⟨I,m,hm,hstep⟩:=h
   have hks:∀ s:St,keepSt A.keepL bid s=⟨match findKeep bid A.keepL with | some k=>zipKeep k s.T | none=>s.T,s.H⟩:=fun s=>by
    unfold keepSt;cases findKeep bid A.keepL <;> rfl
   refine ⟨m+1,loopW_inv (f:=fun s'=>wpA P A fn lo rl c bid (keepSt A.keepL bid s')) (fun m s=>I m (keepSt A.keepL bid s).T s.H) ?_ (fun s Q Q' hq h=>wpA_mono hq h) m ⟨T,H⟩ (by rw [hks];exact hm)⟩
   intro m s hI
   rw [hks] at hI
   have h:=ih hx (hstep m _ s.H hI)
   show wpA P A fn lo rl c bid (keepSt A.keepL bid s) _
   rw [hks]
   refine wpA_mono (fun e s' h'=>?_) h
   cases e with
   | normal=>simp only at h' ⊢;rw [hks];exact h'
   | ret=>exact h'
   | exit id=>exact h'
 | scope c ih=>intro bid rc T H Q hl h;exact ih hl h
 | rangeFunc f ps as bd _ _ =>
   intro bid rc T H Q hl h
   simp only [linkC,Option.some.injEq] at hl;subst hl
   have key:∀ v,ev T f=v→rngK P A fn lo rl v ps.toList as bd T H Q→wpA P A fn lo rl (.rangeFunc f ps as bd) bid ⟨T,H⟩ fun e s=>Q e s.T s.H:=fun v hv h=>by
    unfold rngK at h
    split at h
    ·rename_i k first cap
     obtain ⟨hin,r,H',st,pend,fn',T',ps',as',bd',an',hs,hl,hst,hq⟩:=h
     have fin:∀ (e:Ex) (H2:List AObj),exec P A (oneC (.fn k) (first++[.yield H.length]++cap) (H++[.loop .ready none fn (T.map AV.view) ps.toList as bd A]) lo r H') fn lo 0 rl (.rangeFunc f ps as bd) bid ⟨T,H⟩=some (e,⟨T.map AV.settle,H2⟩)→Q e (T.map AV.settle) H2 →
       wpA P A fn lo rl (.rangeFunc f ps as bd) bid ⟨T,H⟩ fun e s=>Q e s.T s.H:=fun e H2 he hq=>⟨_,e,_,oneC_sound hs,he,hq⟩
     have hex:∀ (e:Ex),(match pend with | none=>some Ex.normal | some .ret=>some .ret | some (.exit id)=>some (.exit id) | _=>none)=some e →
       exec P A (oneC (.fn k) (first++[.yield H.length]++cap) (H++[.loop .ready none fn (T.map AV.view) ps.toList as bd A]) lo r H') fn lo 0 rl (.rangeFunc f ps as bd) bid ⟨T,H⟩=some (e,⟨T.map AV.settle,H'.set H.length .dead⟩):=fun e he=>by
      simp only [exec,hv,hin,oneC_self,hl,hst,if_false]
      split at he <;> simp_all
     split at hq
     ·exact fin _ _ (hex .normal rfl) hq
     ·exact fin _ _ (hex .ret rfl) hq
     ·exact fin _ _ (hex (.exit _) rfl) hq
     ·exact hq.elim
    ·exact h.elim
   cases f with
   | tmp t=>simp only [resC,wpR,getK_eq] at h;exact key _ rfl h
   | const v=>exact key (ev [] (.const v)) rfl h
   | func g=>exact key (ev [] (.func g)) rfl h
   | global g=>exact key (ev [] (.global g)) rfl h
end
end Go.Proofs.YtfakoboiahbhaaaGreat.Ab


namespace Go.Proofs.YtfakoboiahbhaaaGreat.Ab
open Go
inductive RV where
 | tmp (t:Nat) | cell (a:Nat) (g:Ag)
def ldA (g:Ag) (cs:List AV) (off:Nat):Option AV:=match g with
 | .one=>(cs[off]?).map AV.view
 | .str s=>if off+s≤cs.length then some (.agg (((cs.drop off).take s).map AV.view)) else none
 | .arr s=>if off+s≤cs.length then some (.agg (((cs.drop off).take s).map AV.view)) else none
theorem ldA_eq {P:Program} {t:TypeId} {g:Ag} (h:agOf P t=some g) (cs:List AV) (off:Nat):ldPart P t cs off=ldA g cs off:=by
 rcases agOf_cases h with ⟨rfl,h1,d,h2⟩ | ⟨s,h2,h1⟩
 ·simp [ldPart,ldA,h1,h2]
 ·rcases h2 with ⟨rfl,h2⟩ | ⟨rfl,h2⟩ <;> simp [ldPart,ldA,h1,h2]
def atA (H:List AObj) (g:Ag):AV→Option AV
 | .ptr id off=>match H[id]? with
   | some (.cells l)=>ldA g l off
   | some (.grow l _ _)=>ldA g l off
   | _=>none
 | .lptr cells=>ldA g cells 0
 | _=>none
theorem atA_eq {P:Program} {t:TypeId} {g:Ag} (h:agOf P t=some g) (H:List AObj) (a:AV):aLoad P H t a=atA H g a:=by
 cases a <;> simp only [aLoad,atA,ldA_eq h] <;> rfl
noncomputable def readR (H:List AObj) (T:List AV):List RV→Option (List AV)
 | []=>some []
 | .tmp t::r=>(readR H T r).map (getT T t::·)
 | .cell a g::r=>match atA H g (getT T a),readR H T r with
   | some v,some vs=>some (v::vs)
   | _,_=>none
def resVs (P:Program):List ResultVar→Option (List RV)
 | []=>some []
 | .tmp t::r=>(resVs P r).map (.tmp t::·)
 | .cell a t::r=>match agOf P t,resVs P r with
   | some g,some l=>some (.cell a g::l)
   | _,_=>none
theorem readR_eq {P:Program} (H:List AObj) (T:List AV):∀ {rs:List ResultVar} {l:List RV},resVs P rs=some l→readResults P H T rs=readR H T l
 | [],l,h=>by simp [resVs] at h;subst h;rfl
 | .tmp t::r,l,h=>by
   simp only [resVs,Option.map_eq_some_iff] at h
   obtain ⟨l,h,rfl⟩:=h
   simp only [readResults,readR,readR_eq H T h]
 | .cell a t::r,l,h=>by
   simp only [resVs] at h
   split at h
   ·rename_i g l' h1 h2
    simp only [Option.some.injEq] at h;subst h
    simp only [readResults,readR,readR_eq H T h2,atA_eq h1]
    rfl
   ·cases h
inductive Ret (rs:List RV) (v:AV) (e:Ex) (T:List AV) (H:List AObj):Prop where
 | mk (he:e=.normal∨e=.ret) (vs:List AV) (hr:readR H T rs=some vs) (r:AV) (hf:frz H 0 H.length 0 8 (packResults vs)=some r) (hv:r=v∨r.settle=v)
noncomputable def linkF (P:Program) (A:FAnn) (k:Nat):Option (RC×Nat×List RV):=match P.funcs[k]? with
 | some f=>match f.body with
   | some c => match codeOk A c, f.name == "runtime.NumGoroutine", linkC P A c 0, resVs P f.results.toList with
     | true,false,some rc,some ts=>some (rc,f.ntmps,ts)
     | _,_,_,_=>none
   | none=>none
 | none=>none
def slotsFrom:Nat→Nat→List (Nat×AV)→List AV
 | 0,_,_=>[]
 | n+1,i,[]=>.junk::slotsFrom n (i+1) []
 | n+1,i,(j,v)::r=>match Nat.beq i j with
   | true=>v::slotsFrom n (i+1) r
   | false=>.junk::slotsFrom n (i+1) ((j,v)::r)
abbrev slots (n:Nat) (l:List (Nat×AV)):List AV:=slotsFrom n 0 l
abbrev I_ (d:Nat) (s:List RS) (k:RK):RI:=⟨some d,s,none,none,k⟩
noncomputable section
def rngs:Code→List (Code×Code)
 | .rangeFunc _ _ a b=>(a,b)::(rngs a++rngs b)
 | .seq a b=>rngs a++rngs b
 | .cond _ a b=>rngs a++rngs b
 | .block _ c=>rngs c
 | .loop c=>rngs c
 | .scope c=>rngs c
 | _=>[]
def bodyOf (P:Program) (k:Nat):Code:=match P.funcs[k]? with
 | some f=>match f.body with
   | some c=>c
   | none=>.skip
 | none=>.skip
def rngA (P:Program) (k i:Nat):Code:=match (rngs (bodyOf P k))[i]? with
 | some x=>x.1
 | none=>.skip
def rngB (P:Program) (k i:Nat):Code:=match (rngs (bodyOf P k))[i]? with
 | some x=>x.2
 | none=>.skip
end
end Go.Proofs.YtfakoboiahbhaaaGreat.Ab


namespace Go.Proofs.YtfakoboiahbhaaaGreat.Ab
open Go
section
variable {P:Program} {B:Nat} {κ:List Nat} {w:World} {H:List AObj} {ω:Nat→Option Lab} {S:Nat→Nat→Prop}
end
end Go.Proofs.YtfakoboiahbhaaaGreat.Ab


namespace Go.Proofs.YtfakoboiahbhaaaGreat.Ab
open Go
section
variable {P:Program} {B N:Nat} {κ:List Nat} {w:World} {H:List AObj} {ω:Nat→Option Lab} {S:Nat→Nat→Prop}
theorem wpA_round (hmix:P.follows .mixedOrders=true) {l lo:Nat} {fn:FuncId} {T T':List AV} {ps:List Nat} {as bd:Code} {an:FAnn} {args:List AV} {H':List AObj}
  (hl:H[l]?=some (.loop .ready none fn T ps as bd an)) (hset:setParams ps args T=some T') (hlow:Low lo H H')
  (h:wpA P an fn lo (some l) as 0 ⟨T',H⟩ fun e s1=>e=.normal∧s1.H[l]?=some (.loop .ready none fn T ps as bd an) ∧
   wpA P an fn lo (some l) bd 0 ⟨s1.T,s1.H.set l (.loop .busy none fn T ps as bd an)⟩ fun e s2=>e=.normal∧s2.H[l]?=some (.loop .busy none fn T ps as bd an)∧Fgt (s2.H.set l (.loop .ready none fn T ps as bd an)) H') :
  Sem P (.yield l) args H lo (.bool true) H':=by
 refine ⟨hlow,fun B ω κ S w xs b hH _ hv hb=>?_⟩
 obtain ⟨c1,c2,b',L,a1,a2,a3,a4,a5,a6,a7,a8,a9,a10,a11⟩:=hH.obj l _ hl
 rw [hb] at a1;cases a1
 have hst:=setParams_get ps args T T' xs L.tmps.toList hset hv.len (by simpa using a7.symm)
 obtain ⟨g1,g2,g3,g4⟩:=hst
 refine ⟨L,a3,by rw [←hv.len,←g1,←a9];simp,?_⟩
 refine roundIn_of_wpIn trivial ?_
 have htm:(roundTmps L xs).toList=(ps.zip xs).foldl (fun (l:List Value) (p:Nat×Value)=>l.set p.1 p.2) L.tmps.toList:=by rw [roundTmps_toList,a9]
 obtain ⟨ev0,hH0⟩:=toPars_rel ps hH
 have hA:ARel B w.heap.size (toPars ps ω) κ S w ⟨T',H⟩ { tmps:=roundTmps L xs,defers:=[] }:=by
  refine ⟨?_,hH0,Nat.le_refl _,fun d hd=>by simp at hd,List.Pairwise.nil⟩
  simp only [htm]
  have key:∀ (i:Nat) (u:AV) (x:Value),T'[i]?=some u→((ps.zip xs).foldl (fun (l:List Value) (p:Nat×Value)=>l.set p.1 p.2) L.tmps.toList)[i]?=some x →
    Rel κ S w u x∧OwnAt (toPars ps ω) κ S w (.slot i) u x:=fun i u x hu hx=>by
   rcases g4 i u x hu hx with ⟨k1,k2⟩ | ⟨j,k1,k2,k3⟩
   ·obtain ⟨p1,p2⟩:=a8 i u x k1 (by simpa using k2)
    exact ⟨p2,OwnAt.of_plain p1⟩
   ·exact ⟨hv.rel j u x k2 k3,(hv.own j u x k2 k3).mono (Ext.refl κ) (fun _ _ h=>⟨h,rfl⟩) fun b hb=>⟨by simp [toPars,hb,k1],rfl,fun _ h=>h⟩⟩
  exact ⟨by rw [g2,g3,←a7];simp,fun i u x hu hx=>(key i u x hu hx).1,fun i u x hu hx=>(key i u x hu hx).2⟩
 rw [a10,a11]
 refine wpA_sim hmix as 0 _ _ h c1 _ _ B w.heap.size κ w (toPars ps ω) S _ (.inr ⟨l,b,rfl,hb,rfl⟩) (fun l a w hg=>hg) hA fun e1 s1 hk a1 w1 hs=>?_
 obtain ⟨rfl,hl1,h2⟩:=hk
 obtain ⟨ω1,κ1,S1,k1,k2,hA1⟩:=hs
 have hb1:κ1[l]?=some b:=k1 _ _ hb
 obtain ⟨_,_,b',L1,d1,d2,d3,d4,d5,_⟩:=hA1.H.obj l _ hl1
 rw [hb1] at d1;cases d1
 obtain ⟨ev2,hA2⟩:=hA1.loop hl1 hb1 d3 .busy none
 have hbr:(Instr.beginRound b).run P w1=.ok () (w1.putObj b (.loop { L1 with state:=.busy,pending:=none })):=by
  rw [run_beginRound d3 d4]
  have:({ L1 with state:=.busy,pending:=none }:Loop)={ L1 with state:=.busy }:=by rw [←d5]
  rw [this]
 refine ⟨_,hbr,?_⟩
 refine wpIn_mono (Q:=fun e' a' w'=>(∀ t,e'≠Exit.goto t)∧roundPost P b (FnPost B ω κ S w H' (.bool true)) e' a' w') ?_ (fun e a w h=>h.2)
 refine wpA_sim hmix bd 0 _ _ h2 c2 _ _ B w.heap.size κ1 _ ω1 S1 _ (.inr ⟨l,b,rfl,hb1,rfl⟩) (fun l a w hg=>hg.1 l rfl) hA2 fun e2 s2 hk a2 w2 hs=>?_
 obtain ⟨rfl,hl2,hfg⟩:=hk
 obtain ⟨ω2,κ2,S2,k3,k4,hA3⟩:=hs
 have hb2:κ2[l]?=some b:=k3 _ _ hb1
 obtain ⟨_,_,b',L2,f1,f2,f3,f4,f5,_⟩:=hA3.H.obj l _ hl2
 rw [hb2] at f1;cases f1
 have evA:Ev ω S w ω2 S2 w2:=((ev0.trans k2).trans ev2).trans k4
 refine ⟨fun t ht=>(by cases ht),?_⟩
 refine ⟨_,_,run_endRound none f3,?_⟩
 obtain ⟨ev5,hA5⟩:=hA3.loop hl2 hb2 f3 .ready none
 exact Post.fgt hfg ⟨ω2,κ2,S2,k1.trans k3,evA.trans ev5,hA5.H,.bool _,OwnAt.of_plain rfl⟩
theorem sem_round (hmix:P.follows .mixedOrders=true) {l lo:Nat} {fn:FuncId} {T T':List AV} {ps:List Nat} {as bd:Code} {an:FAnn} {args:List AV} {H':List AObj} {ra rb:RC}
  (ha:linkC P an as 0=some ra) (hb:linkC P an bd 0=some rb)
  (hl:H[l]?=some (.loop .ready none fn T ps as bd an)) (hset:setParams ps args T=some T') (hlow:Low lo H H')
  (h:wpR P an fn lo (some l) ra T' H fun e T1 H1=>e=.normal∧H1[l]?=some (.loop .ready none fn T ps as bd an) ∧
   wpR P an fn lo (some l) rb T1 (H1.set l (.loop .busy none fn T ps as bd an)) fun e T2 H2=>e=.normal∧H2[l]?=some (.loop .busy none fn T ps as bd an)∧Fgt (H2.set l (.loop .ready none fn T ps as bd an)) H') :
  Sem P (.yield l) args H lo (.bool true) H' :=
 wpA_round hmix hl hset hlow (wpA_mono (fun e s hq=>⟨hq.1,hq.2.1,link_ok hb hq.2.2⟩) (link_ok ha h))
end
end Go.Proofs.YtfakoboiahbhaaaGreat.Ab
