
import Derived.Test.YtfakoboiahbhaaaGreatJj4
import Derived.Test.YtfakoboiahbhaaaGreatProg
import Derived.KernelRfl
import Derived.Test.YtfakoboiahbhaaaGreatJj3
set_option linter.unusedSimpArgs false
set_option linter.unusedVariables false
set_option linter.unusedSectionVars false

open List renaming getElem?_eq_some_iff→sa,map_cons→ss
open Nat renaming blt_eq→ti,zero_le→sr
open Option renaming bind_eq_some_iff→se
namespace Go.Proofs.YtfakoboiahbhaaaGreat.Ab
open Go
noncomputable def Uc:ez :=
 .j0 false [Gp 30 9,Gp 31 11,gM 32 [.hG 30,.hG 31] (.app 1 8),Gp 9 32]
noncomputable def QD:ez :=
 .block 3 (Gz [gM 25 [.sl 21,.sl 23] (.pM 1),Gl 26 25,Gp 11 26] (Gz [Gn 27 8,Gn 28 11,gM 29 [.sl 27,.sl 28] (.call 6)] (.cond (.sl 29) Uc .skip)))
noncomputable def Ud:ez :=
 .j0 false [Gp 36 5, Gp 37 8, gM 38 [.iA (.func 101 [] []), .hG 36, .hG 37] (.call 1), ⟨some 39, [.hG 9], none, some 9, .other (Oper.mk (some 39) (Op.move (Operand.tmp 9)) 38 "table.go:86" (Array.mk []) none) 2⟩, gM 40 [.hJ 39] (.x' 1 1 [.ay [] 0 .full] [0]), gM 41 [.hG 38, .hG 40] (.x3 1 24), Gp 5 41]
noncomputable def Ng:ez :=
 .loop (some (Ez false [2,1,2,1,2,2,2,3,6,3,22])) (Gz [gM 24 [.sl 23,.sl 22] (.bin .lss)] (.seq (.cond (.sl 24) .skip (.exit 2)) (.seq QD (Gs [FZ 33 23 1,Gp 23 33]))))
noncomputable def QF:ez :=
 Gz [⟨some 34,[.hG 9],none,some 9,.A6⟩,gM 35 [.iA (.func 73 [] []),.hG 34] (.call 1)] Ud
noncomputable def Ue:ez :=
 .seq (Gz [Gn 21 5,gM 22 [.sl 21] .pV,Gm 23 0] (.block 2 Ng)) QF
noncomputable def Uf:ez :=
 Gz [gM 18 [.sl 2,.sl 7] (.zv 98 0 2),Gp 8 18] (Gz [Gl 19 7,gM 20 [.hJ 19] (.x' 1 1 [.int .i64 0] [0]),Gp 9 20] Ue)
noncomputable def Ug:ez :=
 .block 1 (Gz [gM 16 [.sl 12,.sl 14] (.pM 1),Gl 17 16,gM 7 [] (.alloc [.int .i64 0]),⟨none,[.sl 7,.hG 17],none,none,.st 1⟩] Uf)
noncomputable def Uh:ez :=
 Gz [Gn 43 5, gM 44 [.iA (.func 102 [] []), .hG 43, .iA (.func 103 [] [])] (.call 1)] (Gz [⟨some 45, [.hG 5], none, some 5, .other (Oper.mk (some 45) (Op.move (Operand.tmp 5)) 41 "table.go:89" (Array.mk []) none) 2⟩, Gp 4 45] .ret)
noncomputable def QE:ez :=
 .loop (some (Ez false [2,1,2,1,6,3,31])) (Gz [gM 15 [.sl 14,.sl 13] (.bin .lss)] (.seq (.cond (.sl 15) .skip (.exit 0)) (.seq Ug (Gs [FZ 42 14 1,Gp 14 42]))))
noncomputable def Ui:ez :=
 .seq (Gz [Gp 12 1,gM 13 [.sl 12] .pV,Gm 14 0] (.block 0 QE)) Uh
noncomputable def Yq:ez :=
 Gz [gM 2 [.hG 0] .box,gM 4 [.iA (.ay [] 0 .full)] (.nil 1)] (Gz [gM 5 [.iA (.ay [] 0 .full)] .A6] Ui)
theorem afL:zf Go.Proofs.Tryz.prog MP 79=some (Yq,46,[.tmp 4]):=by kernel_rfl
end Go.Proofs.YtfakoboiahbhaaaGreat.Ab


namespace Go.Proofs.YtfakoboiahbhaaaGreat.Ab
open Go
set_option maxRecDepth 20000
set_option maxHeartbeats 4000000
noncomputable def Rj:ez :=
 .loop (some (Ez false [0,2,5,2,10])) (Gz [gM 9 [.sl 8,.sl 7] (.bin .lss)] (.seq (.cond (.sl 9) .skip (.exit 0)) (.seq (.block 1 (Gz [Gn 10 8,Gp 5 10] (Gz [Gn 11 1,Gn 12 0,Gn 13 5,Gh 14 12 13 1,Gl 15 14,gM 16 [.sl 11,.sl 15] (.call 6)] (.cond (.sl 16) (Gz [Gp 17 5,Gp 4 17] .ret) .skip)))) (Gs [FZ 18 8 1,Gp 8 18]))))
noncomputable def aa3:ez :=
 Gz [Gm 4 0] (.seq (Gz [Gn 6 0,Gk 7 6,Gm 8 0] (.block 0 Rj)) (Gz [Gm 4 (-1)] .ret))
theorem afY:zf Tryz.prog RX 114=some (aa3,19,[.tmp 4]):=by kernel_rfl
def Mk (s:p5) (f:(Int→Option Bool)) (p9:Unit→Option Int):Nat→Int→Option Int
 | 0,_=>none
 | m+1,s1 =>
   if (decide (s1<(s.length:Int)))=true then
    p8 (0≤s1∧s1<(s.length:Int)) <|
    (f (ix s s1)).bind fun r1 =>
    if r1=true then
     some s1
    else
     Mk s f p9 m (w (s1+(1:Int)))
   else
    p9 ()
def Nr (s:p5) (f:(Int→Option Bool)):Option Int :=
 Mk s f (fun _ =>
   some (-1:Int)) p_ (0:Int)
theorem akb {s:p5} {f:(Int→Option Bool)} {p9:Unit→Option Int} {s1:Int} {rq:FuncId} {qR:List I} (rG:rS qR) (Ij:∀ (qA:Int) (r:Bool),f qA=some r→ql rq ((hP qA)::qR) (B r)) {v:Int} {Q:q'}   (jw:qu [.tmp 4] Q (fun v=>(hP v)) v) (q8:∀ (p6:List I),p9 ()=some v→qU 19 [] p6→Q (.exit 0) p6 []) {T:List I} (bX:eR (Ez false [0,2,5,2,10]) T=GG 19 [(0,(qe s .shared)),(1,(.func rq [] qR)),(7,(hP (s.length:Int))),(8,(hP s1))]) (h:Mk s f p9 p_ s1=some v) :
  dC Tryz.prog RX 114 0 none Rj T [] Q:=by
 unfold Rj;refine wp_loop bX ?_;refine .intro (fun m T H=>∃ (s1:Int),T=GG 19 [(0,(qe s .shared)),(1,(.func rq [] qR)),(7,(hP (s.length:Int))),(8,(hP s1))]∧H=[]∧Mk s f p9 m s1=some v) p_ ⟨s1,rfl,rfl,h⟩ ?_;clear h bX;rintro m T H ⟨s1,rfl,rfl,h⟩;cases m
 ·exact q7 h
 rename_i m;rw [Mk.eq_2] at h;conv=>whnf
 refine bs h (fun eU h=>?_) fun eU h=>?_
 ·rw [eU];conv=>whnf
  refine qk h id fun fk h=>?_;rw [rT hP s s1 fk];conv=>whnf
  obtain ⟨r1,qf,h⟩:=qd h;refine ⟨_,_,call6 (bs:=((hP (ix s s1))::qR)) (by simp only [ss,rG.ij,rG.cr];rfl) (by simp only [ss,rG.ij];exact (pY rfl rG.MO)) (Ij _ _ qf) rfl,?_⟩;conv=>whnf
  cases r1
  ·(conv=>whnf);replace h:=Hf rfl h;exact ⟨m,Nat.lt_succ_self m,(w (s1+(1:Int))),rfl,rfl,h⟩
  ·(conv=>whnf);replace h:=Hg rfl h;exact p7 h jw rfl rfl
 ·rw [eU];conv=>whnf
  exact q8  _ h ⟨rfl,rfl⟩
theorem UW {s:p5} {f:(Int→Option Bool)} {rq:FuncId} {qR:List I} (rG:rS qR) (Ij:∀ (qA:Int) (r:Bool),f qA=some r→ql rq ((hP qA)::qR) (B r)) {v:Int} (h:Nr s f=some v):ql 114 [(.ay (s.map hP) s.length .shared),(.func rq [] qR)] (hP v):=by
 refine qM dI afY rfl rfl fun Q bl=>?_;have jw:qu [.tmp 4] Q (fun v=>(hP v)) v:=fun T H bI=>bl _ T H bI;unfold Nr at h;unfold aa3;obtain ⟨Ho,qz⟩:∃ c,Rj=c:=⟨_,rfl⟩;rw [qz];conv=>whnf
 subst qz;refine akb rG Ij ?_ ?_ (by exact rfl) h
 ·exact fun T H bI=>jw T H bI
 ·intro  p6 h qh;obtain ⟨qS,rfl⟩:=qh.ex;conv=>whnf
  exact p7 h jw rfl rfl

noncomputable def abF:ez :=
 Gz [gM 4 [.iA (.bool false)] .iQ] (Gz [Gp 5 0,Gp 6 1,gM 7 [.iA (.func 114 [] []),.sl 5,.sl 6] (.call 6),F0 8 7 0 .geq,Gp 4 8] .ret)
theorem agz:zf Tryz.prog V7 92=some (abF,9,[.tmp 4]):=by kernel_rfl
def K6 (s:p5) (f:(Int→Option Bool)):Option Bool :=
 (Nr s f).bind fun r1 =>
 some (decide ((0:Int)≤r1))
theorem Rc {s:p5} {f:(Int→Option Bool)} {rq:FuncId} {qR:List I} (rG:rS qR) (Ij:∀ (qA:Int) (r:Bool),f qA=some r→ql rq ((hP qA)::qR) (B r)) {v:Bool} (h:K6 s f=some v):ql 92 [(.ay (s.map hP) s.length .shared),(.func rq [] qR)] (B v):=by
 refine qM dI agz rfl rfl fun Q bl=>?_;have jw:qu [.tmp 4] Q (fun v=>(B v)) v:=fun T H bI=>bl _ T H bI;unfold K6 at h;unfold abF;conv=>whnf
 obtain ⟨r1,eU,h⟩:=qd h;refine ⟨_,_,IU (cs:=[(qe s .shared),(.func rq [] qR)]) (bs:=[(qe s .shared),(.func rq [] qR)]) (qX rfl (qX (rG.fn _ _) ry)) (by rfl) (by exact (pY (rp (fun _=>rfl) _ _ _) (pY (rG.OH _) rfl))) (UW rG Ij eU) rfl,?_⟩;conv=>whnf
 exact p7 h jw rfl rfl
end Go.Proofs.YtfakoboiahbhaaaGreat.Ab


namespace Go.Proofs.YtfakoboiahbhaaaGreat.Ab
open Go
section
variable {P:Program} {B N:Nat} {J:List Nat} {w:World} {U:Nat→Option aI} {S:Nat→Nat→Prop}
theorem ahl {k : Nat} {f : Func} {c : Code} (aQ : P.funcs[k]? = some f) (ag : f.body = some c) (aN : f.name ≠ "runtime.NumGoroutine")
  {args:List I} {v:I} (aC:cq 8 v=true) {K:cB→a5→Prop}
  (ai:∀ (Q:Exit→Act→World→Prop) (B N:Nat) (J:List Nat) (w:World) (U:Nat→Option aI) (S:Nat→Nat→Prop) (a:Act),(∀ l a w,¬ Q (.goto l) a w)→ct B N U J S w ⟨args++List.replicate (f.ntmps-args.length) .junk,[]⟩ a →
   (∀ e aF,K e aF→∀ aM w',Step B N U J S w aF aM w'→Q (toExit e) aM w')→c.wpIn Fence.wide 0 P Q a w)
  (fC:∀ e s,K e s→(e=.normal∨e=.ret)∧∃ vs r,fe P s.H s.T f.results.toList=some vs∧bJ s.H 0 s.H.length 0 8 (g' vs)=some r∧(r=v∨r.settle=v)):lg P k args v:=by
 refine ⟨⟨ba.refl _ _,⟨f,aQ,by simp [ag],aN⟩,fun B U J S w xs ah _ ae=>?_⟩,aC⟩;refine callsIn_of_wp_marks aQ ag trivial ?_;have aK:=xN ah ae f.ntmps;have db:=(oc ah).1;refine ai _ B w.heap.size J w (hI U) S _ (fun l a w aO=>aO.elim) aK fun e s av aM w' ai=>?_;obtain ⟨he,vs,r,aj,Cu,eh⟩:=fC e s av;obtain ⟨b2,cQ,a4,aJ,aP,b'⟩:=ai;have iI:LeavesInM Fence.wide 0 P f aM.tmps (ft B U J S w [] v) aM.defers .returning w':=by
  refine nE (U:=b2) (S:=a4) (J:=cQ) (B:=B) (H:=s.H) (lf:=U) (S0:=S) (w0:=w) aM.defers w' b'.M.2.1 b'.M.2.2 (db.trans aP) b'.H fun bT dt dk mh mi=>?_
  have bX:a9 .slot b2 cQ a4 bT s.T aM.tmps.toList:=⟨b'.T.len,fun i u v hu ae=>(b'.T.rel i u v hu ae).mono (Ext.refl _) (fun b o h=>⟨h,dk b o h⟩),fun i u v hu ae =>
   (b'.T.own i u v hu ae).mono (Ext.refl _) (fun b o h=>⟨h,dk b o h⟩) fun b ag=>⟨ag,dt b _ ag,fun _ h=>h⟩⟩
  obtain ⟨x,q1,aW⟩:=xr mi bX aj;have nr:=xi ah (fun id aE=>by simp at aE) Cu (a1.after aJ mh aW);refine ⟨x,q1,?_⟩;rcases eh with rfl | eh
  ·exact nr
  ·cases r with
   | ay cells len gv =>
     cases gv with
     | uniq z=>simp only [I.settle] at eh;subst eh;exact nr.settle
     | _=>simp only [I.settle] at eh;subst eh;exact nr
   | _=>simp only [I.settle] at eh;subst eh;exact nr
 rcases he with rfl | rfl
 ·exact iI
 ·exact iI
end
theorem Qn (P:Program):c' P (fun _ _ _ _=>none):=⟨fun h=>by simp at h,fun h=>by simp at h⟩
noncomputable def Qq (f:Func):Option (cB×a5)→Option I
 | some (.normal,s) | some (.ret,s)=>(fe Go.Proofs.Tryz.prog s.H s.T f.results.toList).bind fun vs=>bJ s.H 0 s.H.length 0 8 (g' vs)
 | _=>none
theorem X2 {f:Func} {x:Option (cB×a5)} {v:I} (h:Qq f x=some v):∃ e s,x=some (e,s)∧(e=.normal∨e=.ret)∧∃ vs,fe Go.Proofs.Tryz.prog s.H s.T f.results.toList=some vs∧bJ s.H 0 s.H.length 0 8 (g' vs)=some v:=by
 unfold Qq at h;split at h
 ·simp only [se] at h;obtain ⟨vs,ad,af⟩:=h;exact ⟨_,_,rfl,.inl rfl,vs,ad,af⟩
 ·simp only [se] at h;obtain ⟨vs,ad,af⟩:=h;exact ⟨_,_,rfl,.inr rfl,vs,ad,af⟩
 ·cases h
noncomputable def YH (k p:Nat) (args:List I):Option I:=match Go.Proofs.Tryz.prog.funcs[k]? with
 | some f=>match f.body with
   | some (.seq hB (.seq (.region id ops true) rest)) =>
     match codeOk (jo k) hB, codeOk (jo k) rest, f.name == "runtime.NumGoroutine", Nat.blt (p + 1) ops.size, m6 ops ((jo k).ops.getD id []) p (p + 1) with
     | true,true,false,true,true =>
       match exec Go.Proofs.Tryz.prog (jo k) (fun _ _ _ _=>none) k 0 9 none hB 0 ⟨args++List.replicate (f.ntmps-args.length) .junk,[]⟩ with
       | some (.normal,UD) =>
         match cw Go.Proofs.Tryz.prog (fun _ _ _ _=>none) 0 ops ((jo k).ops.getD id []) (List.range ops.size) UD,cw Go.Proofs.Tryz.prog (fun _ _ _ _=>none) 0 ops ((jo k).ops.getD id []) (ff ops.size p (p+1)) UD with
         | some s1,some s2 =>
           match Qq f (exec Go.Proofs.Tryz.prog (jo k) (fun _ _ _ _=>none) k 0 9 none rest 0 s1),Qq f (exec Go.Proofs.Tryz.prog (jo k) (fun _ _ _ _=>none) k 0 9 none rest 0 s2) with
           | some u,some v=>match IQ 20 u v,cq 8 u with
             | true,true=>some u
             | _,_=>none
           | _,_=>none
         | _,_=>none
       | _=>none
     | _,_,_,_,_=>none
   | _=>none
 | none=>none
theorem rU {k p:Nat} {args:List I} {v:I} (h:YH k p args=some v):lg Go.Proofs.Tryz.prog k args v:=by
 unfold YH at h;split at h
 ·rename_i f aQ;split at h
  ·rename_i hB id ops rest ag;split at h
   ·rename_i a' bk bq b7 dX;split at h
    ·rename_i UD afj;split at h
     ·rename_i s1 s2 dq CX;split at h
      ·rename_i u br jH pz;split at h
       ·rename_i heq aC;have e:=MQ 20 _ _ heq;subst e;cases h;obtain ⟨e1,t1,y2,aeC,ajw,d',Kg⟩:=X2 jH;obtain ⟨ck,t2,iN,aeD,mP,dB,Co⟩:=X2 pz;refine ahl aQ ag (by simpa using bq) aC (K:=fun e s=>(e=e1∧s=t1)∨(e=ck∧s=t2)) (fun Q B N J w U S a aO aK bl=>?_) (fun e s av=>?_)
        ·have Ge:=dI;refine wpIn_seq (m_ (Qn _) Ge hB 0 _ _ _ afj a' Fence.wide _ B N J w U S a (.inl ⟨rfl,rfl⟩) (fun l a w=>aO l a w) aK fun aM w' ai=>?_);obtain ⟨b2,cQ,a4,aJ,aP,b'⟩:=ai;refine wpIn_seq (Eh (jf.lE (J:=cQ) (rl:=none) (.inl ⟨rfl,rfl⟩)) Ge (Qn _) (by simpa [ti] using b7) dX dq CX b' fun aF gZ aH bT dN=>?_);obtain ⟨bn,cg,bH,cj,jM,oV⟩:=dN;rcases gZ with rfl | rfl
         ·exact m_ (Qn _) Ge rest 0 _ _ _ y2 bk Fence.wide Q B N cg bT bn bH aH (.inl ⟨rfl,rfl⟩) aO oV fun aR rZ C7=>bl _ _ (.inl ⟨rfl,rfl⟩) aR rZ ((C7.trans cj jM).trans aJ aP)
         ·exact m_ (Qn _) Ge rest 0 _ _ _ iN bk Fence.wide Q B N cg bT bn bH aH (.inl ⟨rfl,rfl⟩) aO oV fun aR rZ C7=>bl _ _ (.inr ⟨rfl,rfl⟩) aR rZ ((C7.trans cj jM).trans aJ aP)
        ·rcases av with ⟨rfl,rfl⟩ | ⟨rfl,rfl⟩
         ·exact ⟨aeC,ajw,_,d',Kg,.inl rfl⟩
         ·exact ⟨aeD,mP,_,dB,Co,.inl rfl⟩
       ·cases h
      ·cases h
     ·cases h
    ·cases h
   ·cases h
  ·cases h
 ·cases h
end Go.Proofs.YtfakoboiahbhaaaGreat.Ab


namespace Go.Proofs.YtfakoboiahbhaaaGreat.Ab
open Go
section
variable {P:Program}
theorem Tf {lo:Nat} {ops:Array Oper} {an:List b5}:∀ {O:List Nat} {rl:List cx} {acc:dh} {T:List I} {H:List au} {K:List I→List au→Prop},fb P ops an O=some rl→hj P acc→gF P lo true rl acc T H K →
  ∃ dx a7 H',hj P dx∧(∀ p∈acc,p∈dx)∧(∀ C,hM C dx→cw P C lo ops an O ⟨T,H⟩=some ⟨a7,H'⟩)∧K a7 H'
 | [],rl,acc,T,H,K,ak,cd,h=>by simp only [fb,Option.some.injEq] at ak;subst ak;exact ⟨acc,T,H,cd,fun _ h=>h,fun _ _=>rfl,h⟩
 | i::r,rl,acc,T,H,K,ak,cd,h=>by
   simp only [fb] at ak;split at ak
   ·rename_i o hi;split at ak
    ·rename_i cP l' ad af;simp only [Option.some.injEq] at ak;subst ak;obtain ⟨x2,fg,H1,aB,aH,aR,bj⟩:=xW ad cd h;obtain ⟨ow,dR,a2,bo,cI,eA,jq⟩:=Tf af aB bj;refine ⟨ow,dR,a2,bo,fun p aC=>cI p (aH p aC),fun C ch=>?_,jq⟩;simp only [cw,hi];rw [aR C (fun p aC=>ch p (cI p aC)),Option.bind_some];exact eA C ch
    ·cases ak
   ·cases ak
theorem ahm {k : Nat} {f : Func} {c : Code} (aQ : P.funcs[k]? = some f) (ag : f.body = some c) (aN : f.name ≠ "runtime.NumGoroutine")
  {args:List I} {v:I} (aC:cq 8 v=true) {K:cB→a5→Prop}
  (ai:∀ (Q:Exit→Act→World→Prop) (B N:Nat) (J:List Nat) (w:World) (U:Nat→Option aI) (S:Nat→Nat→Prop) (a:Act),(∀ l a w,¬ Q (.goto l) a w)→ct B N U J S w ⟨args++List.replicate (f.ntmps-args.length) .junk,[]⟩ a →
   (∀ e aF,K e aF→∀ aM w',Step B N U J S w aF aM w'→Q (toExit e) aM w')→c.wpIn Fence.wide 0 P Q a w)
  (fC:∀ e s,K e s→(e=.normal∨e=.ret)∧∃ vs r,fe P s.H s.T f.results.toList=some vs∧bJ s.H 0 s.H.length 0 8 (g' vs)=some r∧r.settle.view.cr=v):lg P k args v:=by
 refine ⟨⟨ba.refl _ _,⟨f,aQ,by simp [ag],aN⟩,fun B U J S w xs ah _ ae=>?_⟩,aC⟩;refine callsIn_of_wp_marks aQ ag trivial ?_;have aK:=xN ah ae f.ntmps;have db:=(oc ah).1;refine ai _ B w.heap.size J w (hI U) S _ (fun l a w aO=>aO.elim) aK fun e s av aM w' ai=>?_;obtain ⟨he,vs,r,aj,Cu,eh⟩:=fC e s av;obtain ⟨b2,cQ,a4,aJ,aP,b'⟩:=ai;have iI:LeavesInM Fence.wide 0 P f aM.tmps (ft B U J S w [] v) aM.defers .returning w':=by
  refine nE (U:=b2) (S:=a4) (J:=cQ) (B:=B) (H:=s.H) (lf:=U) (S0:=S) (w0:=w) aM.defers w' b'.M.2.1 b'.M.2.2 (db.trans aP) b'.H fun bT dt dk mh mi=>?_
  have bX:a9 .slot b2 cQ a4 bT s.T aM.tmps.toList:=⟨b'.T.len,fun i u v hu ae=>(b'.T.rel i u v hu ae).mono (Ext.refl _) (fun b o h=>⟨h,dk b o h⟩),fun i u v hu ae =>
   (b'.T.own i u v hu ae).mono (Ext.refl _) (fun b o h=>⟨h,dk b o h⟩) fun b ag=>⟨ag,dt b _ ag,fun _ h=>h⟩⟩
  obtain ⟨x,q1,aW⟩:=xr mi bX aj;have nr:=xi ah (fun id aE=>by simp at aE) Cu (a1.after aJ mh aW);refine ⟨x,q1,?_⟩;rw [←eh];exact nr.ZS
 rcases he with rfl | rfl
 ·exact iI
 ·exact iI
noncomputable def Tg (P:Program) (A:c8) (k p:Nat):Option (ez×List cx×List cx×ez×Nat×List ji):=match P.funcs[k]? with
 | some f=>match f.body with
   | some (.seq hB (.seq (.region id ops true) rest)) =>
     match codeOk A hB, codeOk A rest, f.name == "runtime.NumGoroutine", Nat.blt (p + 1) ops.size, m6 ops (A.ops.getD id []) p (p + 1) with
     | true,true,false,true,true =>
       match dT P A hB 0,fb P ops (A.ops.getD id []) (List.range ops.size),fb P ops (A.ops.getD id []) (ff ops.size p (p+1)),dT P A rest 0,j1 P f.results.toList with
       | some a,some b,some c,some d,some rs=>some (a,b,c,d,f.ntmps,rs)
       | _,_,_,_,_=>none
     | _,_,_,_,_=>none
   | _=>none
 | none=>none
theorem adY (dI:P.follows .mixedOrders=true) {k p:Nat} {A:c8} {zS rd:ez} {zV rc:List cx} {n:Nat} {rs:List ji} (ak:Tg P A k p=some (zS,zV,rc,rd,n,rs)) {args T:List I} (bX:args++List.replicate (n-args.length) .junk=T) {v:I} (aC:cq 8 v=true)
  (h:∀ Q:cB→List I→List au→Prop,(∀ e T H,Jx rs v e T H→Q e T H)→dC P A k 0 none zS T [] fun e T H=>e=.normal∧gF P 0 true zV [] T H (fun T H=>dC P A k 0 none rd T H Q)∧∀ acc,gF P 0 true rc acc T H (fun T H=>dC P A k 0 none rd T H Q)):lg P k args v:=by
 unfold Tg at ak;split at ak
 ·rename_i f aQ;split at ak
  ·rename_i hB id ops rest ag;split at ak
   ·rename_i a' bk bq b7 dX;split at ak
    ·rename_i a b c d YD dK kI Na XE afz;simp only [Option.some.injEq,Prod.mk.injEq] at ak;obtain ⟨rfl,rfl,rfl,rfl,rfl,rfl⟩:=ak;subst bX;have h:=h (fun e T H=>Jx YD v e T H) fun _ _ _ h=>h;refine ahm aQ ag (by simpa using bq) aC (K:=fun e s=>Jx YD v e s.T s.H) (fun Q B N J w U S a aO aK bl=>?_) (fun e s ⟨cb,vs,B0,r,b8,dZ⟩=>⟨cb,vs,r,by rw [xl _ _ afz,B0],b8,dZ⟩);refine wpIn_seq (og dI hB 0 _ _ (xa dK h) a' Fence.wide _ B N J w U S a (.inl ⟨rfl,rfl⟩) (fun l a w=>aO l a w) aK fun e aF av aM w' ai=>?_);obtain ⟨rfl,ad,af⟩:=av;obtain ⟨b2,cQ,a4,aJ,aP,b'⟩:=ai;obtain ⟨x2,fg,H1,aB,_,aR,bj⟩:=Tf kI ⟨fun p aC=>by simp at aC,fun p aC=>by simp at aC⟩ ad;obtain ⟨ow,dR,a2,bo,cI,eA,jq⟩:=Tf Na aB (af x2);obtain ⟨C,bt,ch⟩:=ox bo;refine wpIn_seq (Eh (jf.lE (J:=cQ) (rl:=none) (.inl ⟨rfl,rfl⟩)) dI bt (by simpa [ti] using b7) dX (aR C fun p aC=>ch p (cI p aC)) (eA C ch) b' fun aF gZ aH bT dN=>?_);obtain ⟨bn,cg,bH,cj,jM,oV⟩:=dN;rcases gZ with rfl | rfl
     ·exact og dI rest 0 _ _ (xa XE bj) bk Fence.wide Q B N cg bT bn bH aH (.inl ⟨rfl,rfl⟩) aO oV fun e s av aR rZ C7=>bl e s av aR rZ ((C7.trans cj jM).trans aJ aP)
     ·exact og dI rest 0 _ _ (xa XE jq) bk Fence.wide Q B N cg bT bn bH aH (.inl ⟨rfl,rfl⟩) aO oV fun e s av aR rZ C7=>bl e s av aR rZ ((C7.trans cj jM).trans aJ aP)
    ·cases ak
   ·cases ak
  ·cases ak
 ·cases ak
end
end Go.Proofs.YtfakoboiahbhaaaGreat.Ab


namespace Go.Proofs.YtfakoboiahbhaaaGreat.Ab
open Go
set_option maxRecDepth 20000
set_option maxHeartbeats 4000000
noncomputable def aaS:ez:=.j0 false [gM 6 [.iA (.bool false)] .iQ]
noncomputable def aaT:List cx:=[gM 9 [.sl 0] .iQ,gM 10 [.hJ 9] .zB,gM 11 [.hJ 10] (.oP 0),gM 12 [.hJ 11] (.oP 1),gM 13 [.hJ 12] (.pT .one),gM 14 [.hG 1] .iQ,gM 15 [.hJ 13,.hJ 14] (.pM 2),gM 16 [.hJ 15] (.pT (.str 2)),gM 17 [.sl 0] .iQ,gM 18 [.hJ 17] .zB,gM 19 [.hJ 18] (.oP 0),gM 20 [.hJ 19] (.oP 1),gM 21 [.hJ 20] (.zb .one),gM 22 [.hG 2] .iQ,gM 23 [.hJ 21,.hJ 22] (.pM 2),gM 24 [.hJ 23] (.zb (.str 2)),gM 7 [] (.alloc [.int .i64 0,.int .i64 0]),gM 8 [] (.alloc [.int .i64 0,.int .i64 0]),⟨none,[.sl 7,.hG 16],none,none,.st 2⟩,⟨none,[.sl 8,.hG 24],none,none,.st 2⟩]
noncomputable def aaU:List cx:=[gM 9 [.sl 0] .iQ,gM 10 [.hJ 9] .zB,gM 11 [.hJ 10] (.oP 0),gM 12 [.hJ 11] (.oP 1),gM 13 [.hJ 12] (.pT .one),gM 14 [.hG 1] .iQ,gM 15 [.hJ 13,.hJ 14] (.pM 2),gM 16 [.hJ 15] (.pT (.str 2)),gM 17 [.sl 0] .iQ,gM 18 [.hJ 17] .zB,gM 19 [.hJ 18] (.oP 0),gM 20 [.hJ 19] (.oP 1),gM 21 [.hJ 20] (.zb .one),gM 22 [.hG 2] .iQ,gM 23 [.hJ 21,.hJ 22] (.pM 2),gM 24 [.hJ 23] (.zb (.str 2)),gM 8 [] (.alloc [.int .i64 0,.int .i64 0]),gM 7 [] (.alloc [.int .i64 0,.int .i64 0]),⟨none,[.sl 7,.hG 16],none,none,.st 2⟩,⟨none,[.sl 8,.hG 24],none,none,.st 2⟩]
noncomputable def als:ez:=.seq (.j0 false [gM 25 [.sl 7] (.oP 0),gM 26 [.hJ 25] (.pT .one),gM 27 [.sl 8] (.oP 0),gM 28 [.hJ 27] (.pT .one),gM 29 [.hJ 26,.hJ 28] (.bin .eql),gM 30 [.hG 29] .iQ,⟨some 31,[.sl 7],some (30,false),none,.oP 0⟩,⟨some 32,[.hJ 31],some (30,false),none,.pT .one⟩,⟨some 33,[.sl 8],some (30,false),none,.oP 1⟩,⟨some 34,[.hJ 33],some (30,false),none,.pT .one⟩,⟨some 35,[.hJ 32,.hJ 34],some (30,false),none,.bin .eql⟩,gM 36 [.hJ 30,.iA (.bool true),.hJ 35] .pick,gM 37 [.hG 36] .iQ,⟨some 38,[.sl 7],some (37,false),none,.oP 1⟩,⟨some 39,[.hJ 38],some (37,false),none,.pT .one⟩,⟨some 40,[.sl 8],some (37,false),none,.oP 0⟩,⟨some 41,[.hJ 40],some (37,false),none,.pT .one⟩,⟨some 42,[.hJ 39,.hJ 41],some (37,false),none,.bin .eql⟩,gM 43 [.hJ 37,.iA (.bool true),.hJ 42] .pick,gM 44 [.hG 43] .iQ,⟨some 45,[.hJ 7],some (44,false),none,.oP 1⟩,⟨some 46,[.hJ 45],some (44,false),none,.pT .one⟩,⟨some 47,[.hJ 8],some (44,false),none,.oP 1⟩,⟨some 48,[.hJ 47],some (44,false),none,.pT .one⟩,⟨some 49,[.hJ 46,.hJ 48],some (44,false),none,.bin .eql⟩,gM 50 [.hJ 44,.iA (.bool true),.hJ 49] .pick,gM 6 [.hG 50] .iQ]) .ret
theorem afP:Tg Tryz.prog Vv 100 16=some (aaS,aaT,aaU,als,51,[.tmp 6]):=by kernel_rfl
def JF (a b:Int×Int):Bool:=decide (a.1=b.1) || decide (a.1=b.2) || decide (a.2=b.1) || decide (a.2=b.2)
def UP (t:p4) (i k:Int):Option Bool :=
 p8 (0≤i∧i<(t.2.length:Int)) <|
 p8 (0≤k∧k<(t.2.length:Int)) <|
 some (JF (ix t.2 i) (ix t.2 k))
theorem aj0 {t:p4} {i k:Int} {v:Bool} (h:UP t i k=some v):ql 100 [.bU [hP t.1,.ay (t.2.flatMap p1) t.2.length .shared],hP i,hP k] (B v):=by
 obtain ⟨eU,h⟩:=qn h;obtain ⟨fk,h⟩:=qn h;obtain rfl:=Option.some.inj h;refine adY dI afP rfl rfl fun Q bl=>?_;have jw:∀ T H,Jx [.tmp 6] (B (JF (ix t.2 i) (ix t.2 k))) .ret T H→Q .ret T H:=fun T H bI=>bl _ T H bI;unfold aaS;conv=>whnf
 refine ⟨rfl,?_,fun acc=>?_⟩
 ·unfold aaT;conv=>whnf
  refine ⟨eU,?_⟩;rw [qW p1 2 qw t.2 i eU];conv=>whnf
  refine ⟨fk,?_⟩;rw [qW p1 2 qw t.2 k fk];conv=>whnf
  rcases Je (decide ((ix t.2 i).1=(ix t.2 k).1)) with fR | fR
  ·rw [fR];(conv=>whnf);exact jw _ _ ⟨.inr rfl,_,rfl,_,oR rfl,(by unfold JF;rw [fR];rfl)⟩
  ·rw [fR];(conv=>whnf);rcases Je (decide ((ix t.2 i).1=(ix t.2 k).2)) with e1 | e1
   ·rw [e1];(conv=>whnf);exact jw _ _ ⟨.inr rfl,_,rfl,_,oR rfl,(by unfold JF;rw [fR,e1];rfl)⟩
   ·rw [e1];(conv=>whnf);rcases Je (decide ((ix t.2 i).2=(ix t.2 k).1)) with ck | ck
    ·rw [ck];(conv=>whnf);exact jw _ _ ⟨.inr rfl,_,rfl,_,oR rfl,(by unfold JF;rw [fR,e1,ck];rfl)⟩
    ·rw [ck];(conv=>whnf);exact jw _ _ ⟨.inr rfl,_,rfl,_,oR rfl,(by unfold JF;rw [fR,e1,ck];rfl)⟩
 ·unfold aaU;conv=>whnf
  refine ⟨eU,?_⟩;rw [qW p1 2 qw t.2 i eU];conv=>whnf
  refine ⟨fk,?_⟩;rw [qW p1 2 qw t.2 k fk];conv=>whnf
  rcases Je (decide ((ix t.2 i).1=(ix t.2 k).1)) with fR | fR
  ·rw [fR];(conv=>whnf);exact jw _ _ ⟨.inr rfl,_,rfl,_,oR rfl,(by unfold JF;rw [fR];rfl)⟩
  ·rw [fR];(conv=>whnf);rcases Je (decide ((ix t.2 i).1=(ix t.2 k).2)) with e1 | e1
   ·rw [e1];(conv=>whnf);exact jw _ _ ⟨.inr rfl,_,rfl,_,oR rfl,(by unfold JF;rw [fR,e1];rfl)⟩
   ·rw [e1];(conv=>whnf);rcases Je (decide ((ix t.2 i).2=(ix t.2 k).1)) with ck | ck
    ·rw [ck];(conv=>whnf);exact jw _ _ ⟨.inr rfl,_,rfl,_,oR rfl,(by unfold JF;rw [fR,e1,ck];rfl)⟩
    ·rw [ck];(conv=>whnf);exact jw _ _ ⟨.inr rfl,_,rfl,_,oR rfl,(by unfold JF;rw [fR,e1,ck];rfl)⟩

noncomputable def abK:ez :=
 Gz [gM 4 [.iA (.bool false)] .iQ] (Gz [Gl 5 1,Gl 6 2,Gp 7 0,gM 8 [.iA (.func 100 [] []),.sl 5,.sl 6,.sl 7] (.call 3),Gp 4 8] .ret)
theorem agE:zf Tryz.prog V' 99=some (abK,9,[.tmp 4]):=by kernel_rfl
def Rf (k:Int) (c0:qa) (a':Int):Option Bool :=
 (UP c0 a' k).bind fun r1 =>
 some r1
theorem alr {k:Int} {c0:qa} {a':Int} {v:Bool} (h:Rf k c0 a'=some v):ql 99 [(hP k),(.bU [(.bU [(hP c0.1),(.ay (c0.2.flatMap p1) c0.2.length .shared)])]),(.bU [(hP a')])] (B v):=by
 refine qM dI agE rfl rfl fun Q bl=>?_;have jw:qu [.tmp 4] Q (fun v=>(B v)) v:=fun T H bI=>bl _ T H bI;unfold Rf at h;unfold abK;conv=>whnf
 obtain ⟨r1,eU,h⟩:=qd h;refine ⟨qj.pl,_,aj0 eU,?_⟩;conv=>whnf
 exact p7 h jw rfl rfl

noncomputable def abJ:ez :=
 Gz [gM 4 [.iA (.bool false)] .iQ] (Gz [Gp 5 0,gM 6 [.hJ 1,.hJ 2] (.zv 99 0 2),gM 7 [.iA (.func 92 [] []),.sl 5,.sl 6] (.call 6),Gp 4 7] .ret)
theorem agD:zf Tryz.prog V_ 98=some (abJ,8,[.tmp 4]):=by kernel_rfl
def MI (part:p5) (c0:qa) (a':Int):Option Bool :=
 (K6 part (fun qA=>Rf qA c0 a')).bind fun r1 =>
 some r1
theorem aaR {part:p5} {c0:qa} {a':Int} {v:Bool} (h:MI part c0 a'=some v):ql 98 [(.ay (part.map hP) part.length .shared),(.bU [(.bU [(hP c0.1),(.ay (c0.2.flatMap p1) c0.2.length .shared)])]),(.bU [(hP a')])] (B v):=by
 refine qM dI agD rfl rfl fun Q bl=>?_;have jw:qu [.tmp 4] Q (fun v=>(B v)) v:=fun T H bI=>bl _ T H bI;unfold MI at h;unfold abJ;conv=>whnf
 obtain ⟨r1,eU,h⟩:=qd h;refine ⟨_,_,IU (cs:=[(qe part .shared),(.func 99 [] [(.bU [(.bU [(hP c0.1),(p3 c0.2 .shared)])]),(.bU [(hP a')])])]) (bs:=[(qe part .shared),(.func 99 [] [(.bU [(.bU [(hP c0.1),(p3 c0.2 .shared)])]),(.bU [(hP a')])])]) (qX rfl (qX (Kp ry (qX rfl (qX rfl ry))) ry)) (by rfl) (by exact (pY (rp (fun _=>rfl) _ _ _) (pY (JX rfl (pY (qO (pY (qO (pY rfl (pY (qL (fun _=>(pY rfl (pY rfl rfl))) _ _ _) rfl))) rfl)) (pY (qO (pY rfl rfl)) rfl))) rfl))) (Rc ⟨(pY (qO (pY (qO (pY rfl (pY (qL (fun _=>(pY rfl (pY rfl rfl))) _ _ _) rfl))) rfl)) (pY (qO (pY rfl rfl)) rfl)),by simp⟩ (fun _ _ a0=>alr a0) eU) rfl,?_⟩;conv=>whnf
 exact p7 h jw rfl rfl

abbrev G1 (tab:p4):I:=.bU [hP tab.1,.ay (tab.2.flatMap p1) tab.2.length .shared]
abbrev I7 (tab:p4):au:=.cells [G1 tab]
def P9 (tab:p4) (s:Int) (own r:List Int):Option (List Int):=(MI r tab s).bind fun b=>if b=true then p8 ((own.length+r.length)*8≤140737488355328) (some (own++r)) else some own
def OE (tab:p4) (out:List (List Int)) (s:Int):Option (List (List Int)) :=
 (II (P9 tab s) out [s]).bind fun own=>p8 (own.length≤12∧own.length≠0∧out.length≤1000) ((LW (fun r=>MI r tab s) out).bind fun rest=>some (rest++[HA own]))
def K5 (tab:p4) (p':List Int):Option (List (List Int)) :=
 p8 (p'.length≤1000) ((II (OE tab) p' []).bind fun out=>p8 (out.length≤12∧out.all Ni=true) (some (I6 out)))
theorem Wm {H:List au} {tab:p4} {c:Nat} {s:Int} (aS:H[0]?=some (I7 tab)) (ao:H[c]?=some (.cells [hP s])):[I.ptr 0 0,.ptr c 0].map (ij H)=[.bU [G1 tab],.bU [hP s]] :=
 qX (I5 aS rfl) (qX (I5 ao rfl) ry)
theorem Wl (tab:p4) (s:Int):[I.bU [G1 tab],.bU [hP s]].all (cq 8)=true :=
 pY (qO (pY (qO (pY rfl (pY (qL (fun _=>(pY rfl (pY rfl rfl))) _ _ _) rfl))) rfl)) (pY rfl rfl)
theorem ael {tab:p4} {s:Int} {out:List (List Int)} {own:List Int} {x c i n:Nat} {sl:I} {H1:List au} (bB:II (P9 tab s) out [s]=some own) (hlen:out.length≤1000) (G7:H1[x]?=some (.grow (out.map jh) (x+1) 1)) (aS:H1[0]?=some (I7 tab)) (ao:H1[c]?=some (.cells [hP s]))
  {Q:cB→List I→List au→Prop} (av:Q (.exit 2) (GG 46 [(2,.ptr 0 0),(5,.cl x (x+1) out.length 1),(8,.func 98 [] [.ptr 0 0,.ptr c 0]),(9,.ay (own.map hP) own.length (.uniq 1)),(12,sl),(13,hP n),(14,hP i),(21,.ref x 0 out.length none 1),(22,hP out.length),(23,hP out.length),(24,B (decide ((out.length:Int)<(out.length:Int))))]) H1)
  {T:List I} (bX:eR [false,false,true,false,false,true,false,false,true,true,false,false,true,true,true,false,false,false,false,false,false,true,true,true,false,false,false,false,false,false,false,false,false,false,false,false,false,false,false,false,false,false,false,false,false,false] T=GG 46 [(2,.ptr 0 0),(5,.cl x (x+1) out.length 1),(8,.func 98 [] [.ptr 0 0,.ptr c 0]),(9,.ay [hP s] 1 (.uniq 1)),(12,sl),(13,hP n),(14,hP i),(21,.ref x 0 out.length none 1),(22,hP out.length),(23,hP (0:Nat))]) :
  dC Tryz.prog MP 79 0 none Ng T H1 Q:=by
 unfold Ng;obtain ⟨bk,b8⟩:∃ c,QD=c:=⟨_,rfl⟩;rw [b8];refine wp_loop bX ?_;obtain ⟨F,RN,Fn,RP⟩:=PZ bB;refine .intro (fun m T H=>∃ k:Nat,k≤out.length∧m=out.length-k∧T=GG 46 [(2,.ptr 0 0),(5,.cl x (x+1) out.length 1),(8,.func 98 [] [.ptr 0 0,.ptr c 0]),(9,.ay ((F k).map hP) (F k).length (.uniq 1)),(12,sl),(13,hP n),(14,hP i),(21,.ref x 0 out.length none 1),(22,hP out.length),(23,hP k)]∧H=H1) out.length ⟨0,by omega,by omega,by rw [RN];rfl,rfl⟩ ?_;clear bX;rintro m T H ⟨k,alY,rfl,rfl,rfl⟩;conv=>whnf
 refine IG (fun aU=>?_) (fun aU=>?_)
 ·have aU:k<out.length:=by omega
  conv=>whnf
  subst b8;unfold QD;obtain ⟨a',cb⟩:∃ c,Uc=c:=⟨_,rfl⟩;rw [cb];refine I9 fun mS G8=>?_;conv=>whnf
  refine ⟨by omega,?_⟩;conv=>whnf
  refine DW G7 ?_;conv=>whnf
  refine DW (UB out rfl aU) ?_;conv=>whnf
  obtain ⟨b,ag,ai⟩:=qd (RP k aU);refine ⟨_,_,IU (cs:=[jh out[k],.bU [G1 tab],.bU [hP s]]) (bs:=[jh out[k],.bU [G1 tab],.bU [hP s]]) (qX rfl (Wm aS ao)) rfl (pY (rp (fun _=>rfl) _ _ _) (Wl tab s)) (aaR ag) rfl,?_⟩;conv=>whnf
  cases b with
  | true =>
    rw [if_pos rfl] at ai;obtain ⟨ak,ai⟩:=qn ai;have ai:=Option.some.inj ai;(conv=>whnf);subst cb;unfold Uc;(conv=>whnf);refine ⟨by simp,by omega,rfl,ak,?_⟩;erw [acX hP (F k) out[k]];rw [ai];(conv=>whnf);refine G8 _ _ _ ?_;(conv=>whnf);exact ⟨out.length-(k+1),by omega,k+1,by omega,rfl,by rw [←rD k (by omega)] <;> rfl,rfl⟩
  | false =>
    have ai:=Option.some.inj ai;(conv=>whnf);refine G8 _ _ _ ?_;(conv=>whnf);exact ⟨out.length-(k+1),by omega,k+1,by omega,rfl,by rw [←ai,←rD k (by omega)] <;> rfl,rfl⟩
 ·obtain rfl:k=out.length:=by omega
  conv=>whnf
  rw [Fn];exact av
theorem aem {s:Int} {c i n:Nat} {sl:I} {H1:List au}
  {Q:cB→List I→List au→Prop} (av:Q (.exit 2) (GG 46 [(2,.ptr 0 0),(5,.ay [] 0 .full),(8,.func 98 [] [.ptr 0 0,.ptr c 0]),(9,.ay [hP s] 1 (.uniq 1)),(12,sl),(13,hP n),(14,hP i),(21,.ay [] 0 .full),(22,hP 0),(23,hP 0),(24,B false)]) H1)
  {T:List I} (bX:eR [false,false,true,false,false,true,false,false,true,true,false,false,true,true,true,false,false,false,false,false,false,true,true,true,false,false,false,false,false,false,false,false,false,false,false,false,false,false,false,false,false,false,false,false,false,false] T=GG 46 [(2,.ptr 0 0),(5,.ay [] 0 .full),(8,.func 98 [] [.ptr 0 0,.ptr c 0]),(9,.ay [hP s] 1 (.uniq 1)),(12,sl),(13,hP n),(14,hP i),(21,.ay [] 0 .full),(22,hP 0),(23,hP 0)]) :
  dC Tryz.prog MP 79 0 none Ng T H1 Q:=by
 unfold Ng;obtain ⟨bk,b8⟩:∃ c,QD=c:=⟨_,rfl⟩;rw [b8];refine wp_loop bX ?_;refine .intro (fun m T H=>T=GG 46 [(2,.ptr 0 0),(5,.ay [] 0 .full),(8,.func 98 [] [.ptr 0 0,.ptr c 0]),(9,.ay [hP s] 1 (.uniq 1)),(12,sl),(13,hP n),(14,hP i),(21,.ay [] 0 .full),(22,hP 0),(23,hP 0)]∧H=H1) 0 ⟨rfl,rfl⟩ ?_;clear bX;rintro m T H ⟨rfl,rfl⟩;conv=>whnf
 exact av
def K_ (tab:p4) (out:List (List Int)) (v5:I) (H:List au):Prop :=
 H[0]?=some (I7 tab)∧((out=[]∧v5=.ay [] 0 .full)∨∃ X:List au,0<X.length∧v5=.cl X.length (X.length+1) out.length 1∧H=X++[.grow (out.map jh) (X.length+1) 1,.dead])
theorem K_.mk' {tab:p4} {out:List (List Int)} {X:List au} (h:X[0]?=some (I7 tab)) {l:List I} (ak:l=out.map jh) {n:Nat} (aN:n=out.length):K_ tab out (.cl X.length (X.length+1) n 1) (X++[.grow l (X.length+1) 1,.dead]):=by
 subst ak aN;have ad:=(sa.1 h).1;exact ⟨qF h,.inr ⟨X,ad,rfl,rfl⟩⟩
theorem qJ {H:List au} {i j:Nat} {o c:au} (h:H[i]?=some o) (aN:j≠i):(H.set j c)[i]?=some o:=by rw [List.getElem?_set_ne aN];exact h
theorem WV {P:Program} {C:b6} {id n:Nat} {o:Oper} {x:Operand} {H:List au} (l:List Int) (aq:o.op=.move x) (aN:n=l.length) (ah:H[id]?=some (.cells (l.map hP))) :
  a8 P C 0 o 2 [.ref id 0 n none 1] H=some (jh l,H.set id .dead) :=
 ad1 (cs:=l.map hP) (sz:=1) aq (sr _) ah aN (by simp) (ajt (fun _=>rfl) _)
theorem X7 {tab:p4} {s:Int} {out rest:List (List Int)} {own:List Int} {v5:I} {H:List au} {i n:Nat} {sl:I} (cm:K_ tab out v5 H) (MW:own.length≤12) (bM:own.length≠0) (hlen:out.length≤1000) (aZ:LW (fun r=>MI r tab s) out=some rest)
  {v21 v22 v23 v24:I} {Q:cB→List I→List au→Prop} (av:∀ Nm H' Jt G' Ha Hb Hc GU GV GX Hd,K_ tab (rest++[HA own]) Nm H'→Q .normal (GG 46 [(2,.ptr 0 0),(5,Nm),(9,Jt),(12,sl),(13,hP n),(14,hP i),(21,v21),(22,v22),(23,v23),(24,v24),(34,G'),(35,Ha),(36,Hb),(37,Hc),(38,GU),(39,GV),(40,GX),(41,Hd)]) H') :
  dC Tryz.prog MP 79 0 none QF (GG 46 [(2,.ptr 0 0),(5,v5),(8,.func 98 [] [.ptr 0 0,.ptr H.length 0]),(9,.ay (own.map hP) own.length (.uniq 1)),(12,sl),(13,hP n),(14,hP i),(21,v21),(22,v22),(23,v23),(24,v24)]) (H++[.cells [hP s]]) Q:=by
 unfold QF;obtain ⟨bq,dZ⟩:∃ c,Ud=c:=⟨_,rfl⟩;rw [dZ];obtain ⟨aS,cm⟩:=cm;have fB:=(sa.1 aS).1;conv=>whnf
 refine .inl ⟨bM,?_⟩;conv=>whnf
 refine ⟨_,_,Is (aiL own (sr _) MW rfl (J' _ _)),?_⟩;rw [rk];conv=>whnf
 subst dZ;unfold Ud;rcases cm with ⟨rfl,rfl⟩ | ⟨X,P8,rfl,rfl⟩
 ·obtain rfl:rest=[]:=(Option.some.inj aZ).symm;conv=>whnf
  refine ⟨_,_,Is adA,?_⟩;conv=>whnf
  refine ⟨_,_,fun C=>WV (HA own) rfl (YQ own).symm (J' _ _),?_⟩;rw [rk];conv=>whnf
  refine ⟨⟨rfl,by decide⟩,?_⟩;conv=>whnf
  refine ⟨⟨by decide,by decide,rfl⟩,?_⟩;conv=>whnf
  exact av _ _ _ _ _ _ _ _ _ _ _ (K_.mk' (qF (qF aS)) rfl rfl)
 ·conv=>whnf
  refine ⟨_,_,Is (adC (g:=X.length+1) (cs:=[.bU [G1 tab],.bU [hP s]]) aZ (sr _) (fun c=>Wm (qJ (qF (qF aS)) (by omega)) (qJ (qF (J' _ _)) (by simp))) rfl (Wl tab s) hlen rfl (fun _ _ ag=>aaR ag) (qF (qF (MV _ _)))),?_⟩;conv=>whnf
  refine ⟨_,_,fun C=>WV (HA own) rfl (YQ own).symm (qJ (J' _ _) (by simp <;> omega)),?_⟩;conv=>whnf
  refine ⟨⟨rfl,by decide⟩,?_⟩;conv=>whnf
  have aj:rest.length≤out.length:=by
   obtain ⟨p,_,e⟩:=Wu aZ;rw [e];exact List.length_filter_le _ _
  refine ⟨⟨rfl,by decide,by omega⟩,?_⟩;conv=>whnf
  exact av _ _ _ _ _ _ _ _ _ _ _ (K_.mk' (qJ (qJ (qF (qF aS)) (by omega)) (by simp)) (by rw [List.map_append];rfl) (by simp))
theorem ag8 {tab:p4} {p':List Int} {Nd:List (List Int)} {H:List au} (bB:II (OE tab) p' []=some Nd) (C_:p'.length≤1000) (aS:H[0]?=some (I7 tab))
  {Q:cB→List I→List au→Prop} (av:∀ v5 H',K_ tab Nd v5 H'→Q (.exit 0) (GG 46 [(2,.ptr 0 0),(5,v5),(12,jh p'),(13,hP p'.length),(14,hP p'.length),(15,B (decide ((p'.length:Int)<(p'.length:Int))))]) H')
  {T:List I} (bX:eR [false,false,true,false,false,true,false,false,false,false,false,false,true,true,true,false,false,false,false,false,false,false,false,false,false,false,false,false,false,false,false,false,false,false,false,false,false,false,false,false,false,false,false,false,false,false] T=GG 46 [(2,.ptr 0 0),(5,.ay [] 0 .full),(12,jh p'),(13,hP p'.length),(14,hP (0:Nat))]) :
  dC Tryz.prog MP 79 0 none QE T H Q:=by
 unfold QE;obtain ⟨fP,G5⟩:∃ c,Ug=c:=⟨_,rfl⟩;rw [G5];refine wp_loop bX ?_;obtain ⟨F,RN,Fn,RP⟩:=PZ bB;refine .intro (fun m T H=>∃ (i:Nat) (v5:I),i≤p'.length∧m=p'.length-i∧K_ tab (F i) v5 H∧T=GG 46 [(2,.ptr 0 0),(5,v5),(12,jh p'),(13,hP p'.length),(14,hP i)]) p'.length ⟨0,_,by omega,by omega,⟨aS,.inl ⟨RN,rfl⟩⟩,rfl⟩ ?_;clear bX aS;rintro m T H ⟨i,v5,hi,rfl,cm,rfl⟩;conv=>whnf
 refine IG (fun aU=>?_) (fun aU=>?_)
 ·have aU:i<p'.length:=by omega
  obtain ⟨own,np,aC⟩:=qd (RP i aU);obtain ⟨⟨MW,bM,hlen⟩,aC⟩:=qn aC;obtain ⟨rest,aZ,aC⟩:=qd aC;have aC:=Option.some.inj aC;conv=>whnf
  subst G5;unfold Ug;obtain ⟨dX,B1⟩:∃ c,Uf=c:=⟨_,rfl⟩;rw [B1];refine I9 fun mS G8=>?_;conv=>whnf
  refine ⟨by omega,?_⟩;conv=>whnf
  refine agM _ _ _ (aU) ?_;conv=>whnf
  refine DW (J' _ _) ?_;conv=>whnf
  rw [rk];conv=>whnf
  subst B1;unfold Uf;obtain ⟨b7,hn⟩:∃ c,Ue=c:=⟨_,rfl⟩;rw [hn];conv=>whnf
  refine DW (J' _ _) ?_;conv=>whnf
  subst hn;unfold Ue;obtain ⟨R',JA⟩:∃ c,Ng=c:=⟨_,rfl⟩;obtain ⟨alL,Sj⟩:∃ c,QF=c:=⟨_,rfl⟩;rw [JA,Sj];have oY:=cm;obtain ⟨aS,cm⟩:=cm;rcases cm with ⟨aq,rfl⟩ | ⟨X,P8,rfl,ah⟩
  ·(conv=>whnf);subst JA;have CS:own=[p'[i]]:=by
    rw [aq] at np;exact (Option.some.inj np).symm
   refine aem (s:=p'[i]) (c:=H.length) (n:=p'.length) (i:=i) (sl:=jh p') ?_ (by exact rfl);(conv=>whnf);subst Sj;refine X7 (own:=own) (v5:=.ay [] 0 .full) oY MW bM hlen aZ (v21:=.ay [] 0 .full) (v22:=hP 0) (v23:=hP 0) (v24:=B false) ?_ |> cast (by rw [CS];rfl)
   intro Nm H' Jt G' Ha Hb Hc GU GV GX Hd Kd;(conv=>whnf);refine G8 _ _ _ ?_;(conv=>whnf);exact ⟨p'.length-(i+1),by omega,i+1,Nm,by omega,rfl,by rw [←aC];exact Kd,by rw [←rD i (by omega)] <;> rfl⟩
  ·(conv=>whnf);subst JA;refine ael (x:=X.length) (c:=H.length) (n:=p'.length) (i:=i) (sl:=jh p') np hlen (qF (by rw [ah];exact MV _ _)) (qF aS) (J' _ _) ?_ (by exact rfl);(conv=>whnf);subst Sj;refine X7 (own:=own) oY MW bM hlen aZ ?_;intro Nm H' Jt G' Ha Hb Hc GU GV GX Hd Kd;(conv=>whnf);refine G8 _ _ _ ?_;(conv=>whnf);exact ⟨p'.length-(i+1),by omega,i+1,Nm,by omega,rfl,by rw [←aC];exact Kd,by rw [←rD i (by omega)] <;> rfl⟩
 ·obtain rfl:i=p'.length:=by omega
  conv=>whnf
  exact av _ _ (by rw [←Fn];exact cm)
theorem Q' {t:p4} {p':List Int} {v:List (List Int)} (h:K5 t p'=some v):ql 79 [G1 t,.ay (p'.map hP) p'.length .shared] (.ay (v.map jh) v.length .shared):=by
 obtain ⟨C_,h⟩:=qn h;obtain ⟨out,bB,h⟩:=qd h;obtain ⟨⟨MW,cS⟩,h⟩:=qn h;obtain rfl:=Option.some.inj h;refine qM dI afL rfl (rp (fun _=>(rp (fun _=>rfl) _ _ _)) _ _ _) fun Q bl=>?_;have jw:∀ T H,Jx [.tmp 4] (.ay ((I6 out).map jh) (I6 out).length .shared) .ret T H→Q .ret T H:=fun T H bI=>bl _ T H bI;unfold Yq;obtain ⟨m0,IX⟩:∃ c,Ui=c:=⟨_,rfl⟩;rw [IX];conv=>whnf
 subst IX;unfold Ui;obtain ⟨R',JA⟩:∃ c,QE=c:=⟨_,rfl⟩;obtain ⟨mZ,Hp⟩:∃ c,Uh=c:=⟨_,rfl⟩;rw [JA,Hp];conv=>whnf
 subst JA;refine ag8 (tab:=t) bB C_ rfl ?_ (by exact rfl);intro v5 H' cm;conv=>whnf
 subst Hp;unfold Uh;obtain ⟨aS,cm⟩:=cm;rcases cm with ⟨rfl,rfl⟩ | ⟨X,P8,rfl,rfl⟩
 ·have e:I6 []=[]:=List.eq_nil_of_length_eq_zero (by rw [UH];rfl);rw [e] at jw;conv=>whnf
  refine ⟨_,_,Is aiM,?_⟩;conv=>whnf
  refine ⟨_,_,fun C=>rfl,?_⟩;conv=>whnf
  exact jw _ _ ⟨.inr rfl,_,rfl,_,oR rfl,rfl⟩
 ·conv=>whnf
  refine ⟨_,_,Is (aiQ out (sr _) MW cS rfl (MV X _)),?_⟩;rw [YL];conv=>whnf
  refine ⟨_,_,fun C=>WW rfl (sr _) (MV X _) (by rw [List.length_map,UH,Nat.mul_one]),?_⟩;rw [UN (fun _=>rfl),YL];conv=>whnf
  rw [UH] at jw;exact jw _ _ ⟨.inr rfl,_,rfl,_,oR (rp (fun _=>(rp (fun _=>rfl) _ _ _)) _ _ _),rfl⟩
end Go.Proofs.YtfakoboiahbhaaaGreat.Ab


namespace Go.Proofs.YtfakoboiahbhaaaGreat.Ab
open Go
def YW:qx:=.pure 100 [.bU [.int .i64 4,.ay [.int .i64 0,.int .i64 1,.int .i64 1,.int .i64 2,.int .i64 2,.int .i64 0,.int .i64 2,.int .i64 3] 4 .shared],.int .i64 0,.int .i64 0] (.bool true)
theorem aiV:qI Go.Proofs.Tryz.prog YW:=rU (p:=16) (by kernel_rfl)
def YX:qx:=.pure 100 [.bU [.int .i64 4,.ay [.int .i64 0,.int .i64 1,.int .i64 1,.int .i64 2,.int .i64 2,.int .i64 0,.int .i64 2,.int .i64 3] 4 .shared],.int .i64 0,.int .i64 1] (.bool true)
theorem aiW:qI Go.Proofs.Tryz.prog YX:=rU (p:=16) (by kernel_rfl)
def YY:qx:=.pure 100 [.bU [.int .i64 4,.ay [.int .i64 0,.int .i64 1,.int .i64 1,.int .i64 2,.int .i64 2,.int .i64 0,.int .i64 2,.int .i64 3] 4 .shared],.int .i64 0,.int .i64 2] (.bool true)
theorem aiX:qI Go.Proofs.Tryz.prog YY:=rU (p:=16) (by kernel_rfl)
def YZ:qx:=.pure 100 [.bU [.int .i64 4,.ay [.int .i64 0,.int .i64 1,.int .i64 1,.int .i64 2,.int .i64 2,.int .i64 0,.int .i64 2,.int .i64 3] 4 .shared],.int .i64 0,.int .i64 3] (.bool false)
theorem aiY:qI Go.Proofs.Tryz.prog YZ:=rU (p:=16) (by kernel_rfl)
def Y0:qx:=.pure 100 [.bU [.int .i64 4,.ay [.int .i64 0,.int .i64 1,.int .i64 1,.int .i64 2,.int .i64 2,.int .i64 0,.int .i64 2,.int .i64 3] 4 .shared],.int .i64 1,.int .i64 0] (.bool true)
theorem aiZ:qI Go.Proofs.Tryz.prog Y0:=rU (p:=16) (by kernel_rfl)
def Y1:qx:=.pure 100 [.bU [.int .i64 4,.ay [.int .i64 0,.int .i64 1,.int .i64 1,.int .i64 2,.int .i64 2,.int .i64 0,.int .i64 2,.int .i64 3] 4 .shared],.int .i64 1,.int .i64 1] (.bool true)
theorem ai0:qI Go.Proofs.Tryz.prog Y1:=rU (p:=16) (by kernel_rfl)
def Y2:qx:=.pure 100 [.bU [.int .i64 4,.ay [.int .i64 0,.int .i64 1,.int .i64 1,.int .i64 2,.int .i64 2,.int .i64 0,.int .i64 2,.int .i64 3] 4 .shared],.int .i64 1,.int .i64 2] (.bool true)
theorem ai1:qI Go.Proofs.Tryz.prog Y2:=rU (p:=16) (by kernel_rfl)
def Y3:qx:=.pure 100 [.bU [.int .i64 4,.ay [.int .i64 0,.int .i64 1,.int .i64 1,.int .i64 2,.int .i64 2,.int .i64 0,.int .i64 2,.int .i64 3] 4 .shared],.int .i64 1,.int .i64 3] (.bool true)
theorem ai2:qI Go.Proofs.Tryz.prog Y3:=rU (p:=16) (by kernel_rfl)
def Y4:qx:=.pure 100 [.bU [.int .i64 4,.ay [.int .i64 0,.int .i64 1,.int .i64 1,.int .i64 2,.int .i64 2,.int .i64 0,.int .i64 2,.int .i64 3] 4 .shared],.int .i64 2,.int .i64 0] (.bool true)
theorem ai3:qI Go.Proofs.Tryz.prog Y4:=rU (p:=16) (by kernel_rfl)
def Y5:qx:=.pure 100 [.bU [.int .i64 4,.ay [.int .i64 0,.int .i64 1,.int .i64 1,.int .i64 2,.int .i64 2,.int .i64 0,.int .i64 2,.int .i64 3] 4 .shared],.int .i64 2,.int .i64 1] (.bool true)
theorem ai4:qI Go.Proofs.Tryz.prog Y5:=rU (p:=16) (by kernel_rfl)
def Y6:qx:=.pure 100 [.bU [.int .i64 4,.ay [.int .i64 0,.int .i64 1,.int .i64 1,.int .i64 2,.int .i64 2,.int .i64 0,.int .i64 2,.int .i64 3] 4 .shared],.int .i64 2,.int .i64 2] (.bool true)
theorem ai5:qI Go.Proofs.Tryz.prog Y6:=rU (p:=16) (by kernel_rfl)
def Y7:qx:=.pure 100 [.bU [.int .i64 4,.ay [.int .i64 0,.int .i64 1,.int .i64 1,.int .i64 2,.int .i64 2,.int .i64 0,.int .i64 2,.int .i64 3] 4 .shared],.int .i64 2,.int .i64 3] (.bool true)
theorem ai6:qI Go.Proofs.Tryz.prog Y7:=rU (p:=16) (by kernel_rfl)
def Y8:qx:=.pure 100 [.bU [.int .i64 4,.ay [.int .i64 0,.int .i64 1,.int .i64 1,.int .i64 2,.int .i64 2,.int .i64 0,.int .i64 2,.int .i64 3] 4 .shared],.int .i64 3,.int .i64 0] (.bool false)
theorem ai7:qI Go.Proofs.Tryz.prog Y8:=rU (p:=16) (by kernel_rfl)
def Y9:qx:=.pure 100 [.bU [.int .i64 4,.ay [.int .i64 0,.int .i64 1,.int .i64 1,.int .i64 2,.int .i64 2,.int .i64 0,.int .i64 2,.int .i64 3] 4 .shared],.int .i64 3,.int .i64 1] (.bool true)
theorem ai8:qI Go.Proofs.Tryz.prog Y9:=rU (p:=16) (by kernel_rfl)
def Y_:qx:=.pure 100 [.bU [.int .i64 4,.ay [.int .i64 0,.int .i64 1,.int .i64 1,.int .i64 2,.int .i64 2,.int .i64 0,.int .i64 2,.int .i64 3] 4 .shared],.int .i64 3,.int .i64 2] (.bool true)
theorem ai9:qI Go.Proofs.Tryz.prog Y_:=rU (p:=16) (by kernel_rfl)
def Y':qx:=.pure 100 [.bU [.int .i64 4,.ay [.int .i64 0,.int .i64 1,.int .i64 1,.int .i64 2,.int .i64 2,.int .i64 0,.int .i64 2,.int .i64 3] 4 .shared],.int .i64 3,.int .i64 3] (.bool true)
theorem ai_:qI Go.Proofs.Tryz.prog Y':=rU (p:=16) (by kernel_rfl)
def Zb:qx:=.pure 100 [.bU [.int .i64 5,.ay [.int .i64 0,.int .i64 1,.int .i64 2,.int .i64 3,.int .i64 4,.int .i64 4] 3 .shared],.int .i64 0,.int .i64 0] (.bool true)
theorem ajd:qI Go.Proofs.Tryz.prog Zb:=rU (p:=16) (by kernel_rfl)
def Zc:qx:=.pure 100 [.bU [.int .i64 5,.ay [.int .i64 0,.int .i64 1,.int .i64 2,.int .i64 3,.int .i64 4,.int .i64 4] 3 .shared],.int .i64 0,.int .i64 1] (.bool false)
theorem aje:qI Go.Proofs.Tryz.prog Zc:=rU (p:=16) (by kernel_rfl)
def Zd:qx:=.pure 100 [.bU [.int .i64 5,.ay [.int .i64 0,.int .i64 1,.int .i64 2,.int .i64 3,.int .i64 4,.int .i64 4] 3 .shared],.int .i64 0,.int .i64 2] (.bool false)
theorem ajf:qI Go.Proofs.Tryz.prog Zd:=rU (p:=16) (by kernel_rfl)
def Ze:qx:=.pure 100 [.bU [.int .i64 5,.ay [.int .i64 0,.int .i64 1,.int .i64 2,.int .i64 3,.int .i64 4,.int .i64 4] 3 .shared],.int .i64 1,.int .i64 0] (.bool false)
theorem ajg:qI Go.Proofs.Tryz.prog Ze:=rU (p:=16) (by kernel_rfl)
def Zf:qx:=.pure 100 [.bU [.int .i64 5,.ay [.int .i64 0,.int .i64 1,.int .i64 2,.int .i64 3,.int .i64 4,.int .i64 4] 3 .shared],.int .i64 1,.int .i64 1] (.bool true)
theorem ajh:qI Go.Proofs.Tryz.prog Zf:=rU (p:=16) (by kernel_rfl)
def Zg:qx:=.pure 100 [.bU [.int .i64 5,.ay [.int .i64 0,.int .i64 1,.int .i64 2,.int .i64 3,.int .i64 4,.int .i64 4] 3 .shared],.int .i64 1,.int .i64 2] (.bool false)
theorem aji:qI Go.Proofs.Tryz.prog Zg:=rU (p:=16) (by kernel_rfl)
def Zh:qx:=.pure 100 [.bU [.int .i64 5,.ay [.int .i64 0,.int .i64 1,.int .i64 2,.int .i64 3,.int .i64 4,.int .i64 4] 3 .shared],.int .i64 2,.int .i64 0] (.bool false)
theorem ajj:qI Go.Proofs.Tryz.prog Zh:=rU (p:=16) (by kernel_rfl)
def Zi:qx:=.pure 100 [.bU [.int .i64 5,.ay [.int .i64 0,.int .i64 1,.int .i64 2,.int .i64 3,.int .i64 4,.int .i64 4] 3 .shared],.int .i64 2,.int .i64 1] (.bool false)
theorem ajk:qI Go.Proofs.Tryz.prog Zi:=rU (p:=16) (by kernel_rfl)
def Zj:qx:=.pure 100 [.bU [.int .i64 5,.ay [.int .i64 0,.int .i64 1,.int .i64 2,.int .i64 3,.int .i64 4,.int .i64 4] 3 .shared],.int .i64 2,.int .i64 2] (.bool true)
theorem ajl:qI Go.Proofs.Tryz.prog Zj:=rU (p:=16) (by kernel_rfl)
def Zk:qx:=.pure 100 [.bU [.int .i64 2,.ay [.int .i64 0,.int .i64 1,.int .i64 1,.int .i64 0] 2 .shared],.int .i64 0,.int .i64 0] (.bool true)
theorem ajm:qI Go.Proofs.Tryz.prog Zk:=rU (p:=16) (by kernel_rfl)
def Zl:qx:=.pure 100 [.bU [.int .i64 2,.ay [.int .i64 0,.int .i64 1,.int .i64 1,.int .i64 0] 2 .shared],.int .i64 0,.int .i64 1] (.bool true)
theorem ajn:qI Go.Proofs.Tryz.prog Zl:=rU (p:=16) (by kernel_rfl)
def Zm:qx:=.pure 100 [.bU [.int .i64 2,.ay [.int .i64 0,.int .i64 1,.int .i64 1,.int .i64 0] 2 .shared],.int .i64 1,.int .i64 0] (.bool true)
theorem ajo:qI Go.Proofs.Tryz.prog Zm:=rU (p:=16) (by kernel_rfl)
def Zn:qx:=.pure 100 [.bU [.int .i64 2,.ay [.int .i64 0,.int .i64 1,.int .i64 1,.int .i64 0] 2 .shared],.int .i64 1,.int .i64 1] (.bool true)
theorem ajp:qI Go.Proofs.Tryz.prog Zn:=rU (p:=16) (by kernel_rfl)
def Zt:List qx:=[YW,YX,YY,YZ,Y0,Y1,Y2,Y3,Y4,Y5,Y6,Y7,Y8,Y9,Y_,Y',Zb,Zc,Zd,Ze,Zf,Zg,Zh,Zi,Zj,Zk,Zl,Zm,Zn]
theorem G2:∀ e∈Zt,qI Go.Proofs.Tryz.prog e:=by
 simp only [Zt,List.forall_mem_cons];exact ⟨aiV,aiW,aiX,aiY,aiZ,ai0,ai1,ai2,ai3,ai4,ai5,ai6,ai7,ai8,ai9,ai_,ajd,aje,ajf,ajg,ajh,aji,ajj,ajk,ajl,ajm,ajn,ajo,ajp,by simp⟩
end Go.Proofs.YtfakoboiahbhaaaGreat.Ab


namespace Go.Proofs.YtfakoboiahbhaaaGreat.Ab
open Go
def bC:qx:=.pure 18 [.agg [.int .i64 4,.ay [.int .i64 0,.int .i64 1,.int .i64 1,.int .i64 2,.int .i64 2,.int .i64 0,.int .i64 2,.int .i64 3] 4 .shared],.ay [.int .i64 0,.int .i64 0,.int .i64 1,.int .i64 0,.int .i64 3,.int .i64 0] 3 .shared] (.tuple [.int .i64 0,.int .i64 3,.int .i64 0])
theorem ajH:qI Go.Proofs.Tryz.prog bC:=GO G2 (by kernel_rfl)
def bT:qx:=.pure 18 [.agg [.int .i64 4,.ay [.int .i64 0,.int .i64 1,.int .i64 1,.int .i64 2,.int .i64 2,.int .i64 0,.int .i64 2,.int .i64 3] 4 .shared],.ay [.int .i64 0,.int .i64 0,.int .i64 1,.int .i64 0,.int .i64 2,.int .i64 0,.int .i64 0,.int .i64 0] 4 .shared] (.tuple [.int .i64 0,.int .i64 0,.int .i64 11])
theorem ajM:qI Go.Proofs.Tryz.prog bT:=GO G2 (by kernel_rfl)
def rZ:qx:=.pure 18 [.agg [.int .i64 4,.ay [.int .i64 0,.int .i64 1,.int .i64 1,.int .i64 2,.int .i64 2,.int .i64 0,.int .i64 2,.int .i64 3] 4 .shared],.ay [.int .i64 0,.int .i64 0,.int .i64 2,.int .i64 0] 2 .shared] (.tuple [.int .i64 0,.int .i64 0,.int .i64 27])
theorem ajN:qI Go.Proofs.Tryz.prog rZ:=GO G2 (by kernel_rfl)
def J2:qx:=.pure 18 [.agg [.int .i64 4,.ay [.int .i64 0,.int .i64 1,.int .i64 1,.int .i64 2,.int .i64 2,.int .i64 0,.int .i64 2,.int .i64 3] 4 .shared],.ay [.int .i64 0,.int .i64 0,.int .i64 4,.int .i64 0] 2 .shared] (.tuple [.int .i64 0,.int .i64 0,.int .i64 3])
theorem ajO:qI Go.Proofs.Tryz.prog J2:=GO G2 (by kernel_rfl)
def Nn:qx:=.pure 18 [.agg [.int .i64 4,.ay [.int .i64 0,.int .i64 1,.int .i64 1,.int .i64 2,.int .i64 2,.int .i64 0,.int .i64 2,.int .i64 3] 4 .shared],.ay [] 0 .shared] (.tuple [.int .i64 0,.int .i64 0,.int .i64 6])
theorem ajP:qI Go.Proofs.Tryz.prog Nn:=GO G2 (by kernel_rfl)
def ZO:qx:=.pure 25 [.agg [.int .i64 4,.ay [.int .i64 0,.int .i64 1,.int .i64 1,.int .i64 2,.int .i64 2,.int .i64 0,.int .i64 2,.int .i64 3] 4 .shared],.ay [.ay [.int .i64 0,.int .i64 0,.int .i64 1,.int .i64 0,.int .i64 3,.int .i64 0] 3 .shared,.ay [.int .i64 2,.int .i64 0] 1 .shared] 2 .shared] (.tuple [.int .i64 2,.int .i64 0])
theorem ajQ:qI Go.Proofs.Tryz.prog ZO:=GO G2 (by kernel_rfl)
def ZP:qx:=.pure 25 [.agg [.int .i64 4,.ay [.int .i64 0,.int .i64 1,.int .i64 1,.int .i64 2,.int .i64 2,.int .i64 0,.int .i64 2,.int .i64 3] 4 .shared],.ay [.ay [.int .i64 0,.int .i64 0,.int .i64 1,.int .i64 0,.int .i64 3,.int .i64 0] 3 .shared] 1 .shared] (.tuple [.int .i64 0,.int .i64 15])
theorem ajR:qI Go.Proofs.Tryz.prog ZP:=GO G2 (by kernel_rfl)
def ZQ:qx:=.pure 25 [.agg [.int .i64 4,.ay [.int .i64 0,.int .i64 1,.int .i64 1,.int .i64 2,.int .i64 2,.int .i64 0,.int .i64 2,.int .i64 3] 4 .shared],.ay [.ay [.int .i64 0,.int .i64 0,.int .i64 1,.int .i64 0,.int .i64 3,.int .i64 0] 3 .shared,.ay [.int .i64 2,.int .i64 0,.int .i64 0,.int .i64 0] 2 .shared] 2 .shared] (.tuple [.int .i64 0,.int .i64 11])
theorem ajS:qI Go.Proofs.Tryz.prog ZQ:=GO G2 (by kernel_rfl)
def ZR:qx:=.pure 22 [.agg [.int .i64 2,.ay [.int .i64 0,.int .i64 1,.int .i64 1,.int .i64 0] 2 .shared],.ay [.int .i64 0,.int .i64 0,.int .i64 1,.int .i64 0] 2 .shared] (.int .i64 0)
theorem ajT:qI Go.Proofs.Tryz.prog ZR:=GO G2 (by kernel_rfl)
def ZA:qx:=.pure 22 [.agg [.int .i64 2,.ay [.int .i64 0,.int .i64 1,.int .i64 1,.int .i64 0] 2 .shared],.ay [.int .i64 0,.int .i64 0] 1 .shared] (.int .i64 15)
theorem ajx:qI Go.Proofs.Tryz.prog ZA:=GO G2 (by kernel_rfl)
def ZB:qx:=.pure 27 [.agg [.int .i64 4,.ay [.int .i64 0,.int .i64 1,.int .i64 1,.int .i64 2,.int .i64 2,.int .i64 0,.int .i64 2,.int .i64 3] 4 .shared]] (.tuple [.ay [.int .i64 2,.int .i64 3] 2 .full,.int .i64 0])
theorem ajy:qI Go.Proofs.Tryz.prog ZB:=GO G2 (by kernel_rfl)
def ZC:qx:=.pure 29 [.agg [.int .i64 5,.ay [.int .i64 0,.int .i64 1,.int .i64 2,.int .i64 3,.int .i64 4,.int .i64 4] 3 .shared]] (.tuple [.ay [.ay [.int .i64 0] 1 .shared,.ay [.int .i64 1] 1 .shared,.ay [.int .i64 2] 1 .shared] 3 .shared,.int .i64 0])
theorem ajz:qI Go.Proofs.Tryz.prog ZC:=GO G2 (by kernel_rfl)
def ZD:qx:=.pure 35 [.agg [.int .i64 5,.ay [.int .i64 0,.int .i64 1,.int .i64 2,.int .i64 3,.int .i64 4,.int .i64 4] 3 .shared]] (.tuple [.int .i64 3,.int .i64 0])
theorem ajA:qI Go.Proofs.Tryz.prog ZD:=GO G2 (by kernel_rfl)
def ZE:qx:=.pure 41 [.agg [.int .i64 5,.ay [.int .i64 0,.int .i64 1,.int .i64 2,.int .i64 3,.int .i64 4,.int .i64 4] 3 .shared]] (.tuple [.ay [.ay [.int .i64 0,.int .i64 0] 1 .shared,.ay [.int .i64 1,.int .i64 0] 1 .shared,.ay [.int .i64 2,.int .i64 0] 1 .shared] 3 .shared,.int .i64 0])
theorem ajB:qI Go.Proofs.Tryz.prog ZE:=GO G2 (by kernel_rfl)
def ZG:qx:=.pure 37 [.agg [.int .i64 5,.ay [.int .i64 0,.int .i64 1,.int .i64 2,.int .i64 3,.int .i64 4,.int .i64 4] 3 .shared]] (.tuple [.ay [] 0 .shared,.int .i64 27])
theorem ajD:qI Go.Proofs.Tryz.prog ZG:=GO G2 (by kernel_rfl)
def ZH:qx:=.pure 42 [.agg [.int .i64 2,.ay [.int .i64 0,.int .i64 1,.int .i64 1,.int .i64 0] 2 .shared]] (.tuple [.ay [.int .i64 0,.int .i64 0,.int .i64 1,.int .i64 0] 2 .shared,.int .i64 0])
theorem ajE:qI Go.Proofs.Tryz.prog ZH:=GO G2 (by kernel_rfl)
def ZJ:qx:=.pure 39 [.agg [.int .i64 5,.ay [.int .i64 0,.int .i64 1,.int .i64 2,.int .i64 3,.int .i64 4,.int .i64 4] 3 .shared]] (.tuple [.int .i64 3,.int .i64 0])
theorem ajG:qI Go.Proofs.Tryz.prog ZJ:=GO G2 (by kernel_rfl)
def ZK:qx:=.pure 31 [.agg [.int .i64 4,.ay [.int .i64 0,.int .i64 1,.int .i64 1,.int .i64 2,.int .i64 2,.int .i64 0,.int .i64 2,.int .i64 3] 4 .shared]] (.tuple [.ay [.int .i64 3] 1 .shared,.int .i64 0])
theorem ajI:qI Go.Proofs.Tryz.prog ZK:=GO G2 (by kernel_rfl)
def ZL:qx:=.pure 45 [.agg [.int .i64 4,.ay [.int .i64 0,.int .i64 1,.int .i64 1,.int .i64 2,.int .i64 2,.int .i64 0,.int .i64 2,.int .i64 3] 4 .shared],.int .i64 0,.int .i64 3] (.tuple [.ay [.int .i64 2,.int .i64 1,.int .i64 3,.int .i64 0] 2 .shared,.int .i64 0])
theorem ajJ:qI Go.Proofs.Tryz.prog ZL:=GO G2 (by kernel_rfl)
def ZM:qx:=.pure 45 [.agg [.int .i64 4,.ay [.int .i64 0,.int .i64 1,.int .i64 1,.int .i64 2,.int .i64 2,.int .i64 0,.int .i64 2,.int .i64 3] 4 .shared],.int .i64 1,.int .i64 1] (.tuple [.ay [] 0 .shared,.int .i64 2])
theorem ajK:qI Go.Proofs.Tryz.prog ZM:=GO G2 (by kernel_rfl)
def ZN:qx:=.pure 45 [.agg [.int .i64 5,.ay [.int .i64 0,.int .i64 1,.int .i64 2,.int .i64 3,.int .i64 4,.int .i64 4] 3 .shared],.int .i64 0,.int .i64 2] (.tuple [.ay [] 0 .shared,.int .i64 5])
theorem ajL:qI Go.Proofs.Tryz.prog ZN:=GO G2 (by kernel_rfl)
end Go.Proofs.YtfakoboiahbhaaaGreat.Ab
