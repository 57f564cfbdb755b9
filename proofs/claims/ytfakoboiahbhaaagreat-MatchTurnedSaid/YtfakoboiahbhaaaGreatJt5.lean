
import Derived.Test.YtfakoboiahbhaaaGreatJt4
import Derived.Test.YtfakoboiahbhaaaGreatProg
import Derived.KernelRfl
import Derived.Test.YtfakoboiahbhaaaGreatJt3
set_option linter.unusedSimpArgs false
set_option linter.unusedVariables false
set_option linter.unusedSectionVars false

open List renaming getElem?_eq_some_iff→sa,map_cons→sx
open Nat renaming blt_eq→th,zero_le→sq
open Option renaming bind_eq_some_iff→se
namespace Go.Proofs.YtfakoboiahbhaaaGreat.Ab
open Go
noncomputable def Uh:ey :=
 .j0 false [Gp 30 9,Gp 31 11,gL 32 [.hG 30,.hG 31] (.app 1 8),Gp 9 32]
noncomputable def P9:ey :=
 .block 3 (Gz [gL 25 [.sl 21,.sl 23] (.pM 1),Gl 26 25,Gp 11 26] (Gz [Gn 27 8,Gn 28 11,gL 29 [.sl 27,.sl 28] (.call 6)] (.cond (.sl 29) Uh .skip)))
noncomputable def Ui:ey :=
 .j0 false [Gp 36 5, Gp 37 8, gL 38 [.iA (.func 101 [] []), .hG 36, .hG 37] (.call 1), ⟨some 39, [.hG 9], none, some 9, .other (Oper.mk (some 39) (Op.move (Operand.tmp 9)) 38 "table.go:86" (Array.mk []) none) 2⟩, gL 40 [.hJ 39] (.x' 1 1 [.ay [] 0 .full] [0]), gL 41 [.hG 38, .hG 40] (.x3 1 24), Gp 5 41]
noncomputable def MS:ey :=
 .loop (some (Ez false [2,1,2,1,2,2,2,3,6,3,22])) (Gz [gL 24 [.sl 23,.sl 22] (.bin .lss)] (.seq (.cond (.sl 24) .skip (.exit 2)) (.seq P9 (Gs [FZ 33 23 1,Gp 23 33]))))
noncomputable def P':ey :=
 Gz [⟨some 34,[.hG 9],none,some 9,.A6⟩,gL 35 [.iA (.func 73 [] []),.hG 34] (.call 1)] Ui
noncomputable def Uj:ey :=
 .seq (Gz [Gn 21 5,gL 22 [.sl 21] .pV,Gm 23 0] (.block 2 MS)) P'
noncomputable def Uk:ey :=
 Gz [gL 18 [.sl 2,.sl 7] (.zv 98 0 2),Gp 8 18] (Gz [Gl 19 7,gL 20 [.hJ 19] (.x' 1 1 [.int .i64 0] [0]),Gp 9 20] Uj)
noncomputable def Ul:ey :=
 .block 1 (Gz [gL 16 [.sl 12,.sl 14] (.pM 1),Gl 17 16,gL 7 [] (.alloc [.int .i64 0]),⟨none,[.sl 7,.hG 17],none,none,.st 1⟩] Uk)
noncomputable def Um:ey :=
 Gz [Gn 43 5, gL 44 [.iA (.func 102 [] []), .hG 43, .iA (.func 103 [] [])] (.call 1)] (Gz [⟨some 45, [.hG 5], none, some 5, .other (Oper.mk (some 45) (Op.move (Operand.tmp 5)) 41 "table.go:89" (Array.mk []) none) 2⟩, Gp 4 45] .ret)
noncomputable def P_:ey :=
 .loop (some (Ez false [2,1,2,1,6,3,31])) (Gz [gL 15 [.sl 14,.sl 13] (.bin .lss)] (.seq (.cond (.sl 15) .skip (.exit 0)) (.seq Ul (Gs [FZ 42 14 1,Gp 14 42]))))
noncomputable def Un:ey :=
 .seq (Gz [Gp 12 1,gL 13 [.sl 12] .pV,Gm 14 0] (.block 0 P_)) Um
noncomputable def X0:ey :=
 Gz [gL 2 [.hG 0] .box,gL 4 [.iA (.ay [] 0 .full)] (.nil 1)] (Gz [gL 5 [.iA (.ay [] 0 .full)] .A6] Un)
theorem afz:zf Go.Proofs.Tryz.prog Mo 79=some (X0,46,[.tmp 4]):=by kernel_rfl
end Go.Proofs.YtfakoboiahbhaaaGreat.Ab


namespace Go.Proofs.YtfakoboiahbhaaaGreat.Ab
open Go
set_option maxRecDepth 20000
set_option maxHeartbeats 4000000
noncomputable def QM:ey :=
 .loop (some (Ez false [0,2,5,2,10])) (Gz [gL 9 [.sl 8,.sl 7] (.bin .lss)] (.seq (.cond (.sl 9) .skip (.exit 0)) (.seq (.block 1 (Gz [Gn 10 8,Gp 5 10] (Gz [Gn 11 1,Gn 12 0,Gn 13 5,Gh 14 12 13 1,Gl 15 14,gL 16 [.sl 11,.sl 15] (.call 6)] (.cond (.sl 16) (Gz [Gp 17 5,Gp 4 17] .ret) .skip)))) (Gs [FZ 18 8 1,Gp 8 18]))))
noncomputable def aax:ey :=
 Gz [Gm 4 0] (.seq (Gz [Gn 6 0,Gk 7 6,Gm 8 0] (.block 0 QM)) (Gz [Gm 4 (-1)] .ret))
theorem afG:zf Tryz.prog Rk 114=some (aax,19,[.tmp 4]):=by kernel_rfl
def LS (s:p8) (f:(Int→Option Bool)) (p9:Unit→Option Int):Nat→Int→Option Int
 | 0,_=>none
 | m+1,s1 =>
   if (decide (s1<(s.length:Int)))=true then
    p5 (0≤s1∧s1<(s.length:Int)) <|
    (f (ix s s1)).bind fun r1 =>
    if r1=true then
     some s1
    else
     LS s f p9 m (w (s1+(1:Int)))
   else
    p9 ()
def Qp (s:p8) (f:(Int→Option Bool)):Option Int :=
 LS s f (fun _ =>
   some (-1:Int)) p6 (0:Int)
theorem ajQ {s:p8} {f:(Int→Option Bool)} {p9:Unit→Option Int} {s1:Int} {rq:FuncId} {qO:List I} (rC:GZ qO) (Hp:∀ (qF:Int) (r:Bool),f qF=some r→qp rq ((hP qF)::qO) (B r)) {v:Int} {Q:qY}   (jw:qv [.tmp 4] Q (fun v=>(hP v)) v) (q7:∀ (p4:List I),p9 ()=some v→qI 19 [] p4→Q (.exit 0) p4 []) {T:List I} (bX:eQ (Ez false [0,2,5,2,10]) T=GG 19 [(0,(qg s .shared)),(1,(.func rq [] qO)),(7,(hP (s.length:Int))),(8,(hP s1))]) (h:LS s f p9 p6 s1=some v) :
  dB Tryz.prog Rk 114 0 none QM T [] Q:=by
 unfold QM;refine wp_loop bX ?_;refine .intro (fun m T H=>∃ (s1:Int),T=GG 19 [(0,(qg s .shared)),(1,(.func rq [] qO)),(7,(hP (s.length:Int))),(8,(hP s1))]∧H=[]∧LS s f p9 m s1=some v) p6 ⟨s1,rfl,rfl,h⟩ ?_;clear h bX;rintro m T H ⟨s1,rfl,rfl,h⟩;cases m
 ·exact qT h
 rename_i m;rw [LS.eq_2] at h;conv=>whnf
 refine bs h (fun eT h=>?_) fun eT h=>?_
 ·rw [eT];conv=>whnf
  refine qj h id fun fj h=>?_;rw [rJ hP s s1 fj];conv=>whnf
  obtain ⟨r1,qk,h⟩:=qa h;refine ⟨_,_,call6 (bs:=((hP (ix s s1))::qO)) (by simp only [sx,rC.ij,rC.cr];rfl) (by simp only [sx,rC.ij];exact (pZ rfl rC.Rj)) (Hp _ _ qk) rfl,?_⟩;conv=>whnf
  cases r1
  ·(conv=>whnf);replace h:=GV rfl h;exact ⟨m,Nat.lt_succ_self m,(w (s1+(1:Int))),rfl,rfl,h⟩
  ·(conv=>whnf);replace h:=GX rfl h;exact p7 h jw rfl rfl
 ·rw [eT];conv=>whnf
  exact q7  _ h ⟨rfl,rfl⟩
theorem ajR {s:p8} {f:(Int→Option Bool)} {rq:FuncId} {qO:List I} (rC:GZ qO) (Hp:∀ (qF:Int) (r:Bool),f qF=some r→qp rq ((hP qF)::qO) (B r)) {v:Int} (h:Qp s f=some v):qp 114 [(.ay (s.map hP) s.length .shared),(.func rq [] qO)] (hP v):=by
 refine qN dH afG rfl rfl fun Q bl=>?_;have jw:qv [.tmp 4] Q (fun v=>(hP v)) v:=fun T H bI=>bl _ T H bI;unfold Qp at h;unfold aax;obtain ⟨Hd,qy⟩:∃ c,QM=c:=⟨_,rfl⟩;rw [qy];conv=>whnf
 subst qy;refine ajQ rC Hp ?_ ?_ (by exact rfl) h
 ·exact fun T H bI=>jw T H bI
 ·intro  p4 h qf;obtain ⟨qE,rfl⟩:=qf.ex;conv=>whnf
  exact p7 h jw rfl rfl

noncomputable def aa7:ey :=
 Gz [gL 4 [.iA (.bool false)] .iQ] (Gz [Gp 5 0,Gp 6 1,gL 7 [.iA (.func 114 [] []),.sl 5,.sl 6] (.call 6),F0 8 7 0 .geq,Gp 4 8] .ret)
theorem agf:zf Tryz.prog VR 92=some (aa7,9,[.tmp 4]):=by kernel_rfl
def JQ (s:p8) (f:(Int→Option Bool)):Option Bool :=
 (Qp s f).bind fun r1 =>
 some (decide ((0:Int)≤r1))
theorem aam {s:p8} {f:(Int→Option Bool)} {rq:FuncId} {qO:List I} (rC:GZ qO) (Hp:∀ (qF:Int) (r:Bool),f qF=some r→qp rq ((hP qF)::qO) (B r)) {v:Bool} (h:JQ s f=some v):qp 92 [(.ay (s.map hP) s.length .shared),(.func rq [] qO)] (B v):=by
 refine qN dH agf rfl rfl fun Q bl=>?_;have jw:qv [.tmp 4] Q (fun v=>(B v)) v:=fun T H bI=>bl _ T H bI;unfold JQ at h;unfold aa7;conv=>whnf
 obtain ⟨r1,eT,h⟩:=qa h;refine ⟨_,_,Is (cs:=[(qg s .shared),(.func rq [] qO)]) (bs:=[(qg s .shared),(.func rq [] qO)]) (rn rfl (rn (rC.fn _ _) rQ)) (by rfl) (by exact (pZ (rK (fun _=>rfl) _ _ _) (pZ (rC.Th _) rfl))) (ajR rC Hp eT) rfl,?_⟩;conv=>whnf
 exact p7 h jw rfl rfl
end Go.Proofs.YtfakoboiahbhaaaGreat.Ab


namespace Go.Proofs.YtfakoboiahbhaaaGreat.Ab
open Go
section
variable {P:Program} {B N:Nat} {J:List Nat} {w:World} {U:Nat→Option aI} {S:Nat→Nat→Prop}
theorem agR {k : Nat} {f : Func} {c : Code} (aQ : P.funcs[k]? = some f) (ag : f.body = some c) (aN : f.name ≠ "runtime.NumGoroutine")
  {args:List I} {v:I} (aC:cq 8 v=true) {K:cB→a5→Prop}
  (ai:∀ (Q:Exit→Act→World→Prop) (B N:Nat) (J:List Nat) (w:World) (U:Nat→Option aI) (S:Nat→Nat→Prop) (a:Act),(∀ l a w,¬ Q (.goto l) a w)→ct B N U J S w ⟨args++List.replicate (f.ntmps-args.length) .junk,[]⟩ a →
   (∀ e aF,K e aF→∀ aM w',Step B N U J S w aF aM w'→Q (toExit e) aM w')→c.wpIn Fence.wide 0 P Q a w)
  (fB:∀ e s,K e s→(e=.normal∨e=.ret)∧∃ vs r,fc P s.H s.T f.results.toList=some vs∧bJ s.H 0 s.H.length 0 8 (g' vs)=some r∧(r=v∨r.settle=v)):lg P k args v:=by
 refine ⟨⟨ba.refl _ _,⟨f,aQ,by simp [ag],aN⟩,fun B U J S w xs ah _ ae=>?_⟩,aC⟩;refine callsIn_of_wp_marks aQ ag trivial ?_;have aK:=xN ah ae f.ntmps;have da:=(oc ah).1;refine ai _ B w.heap.size J w (hI U) S _ (fun l a w aO=>aO.elim) aK fun e s av aM w' ai=>?_;obtain ⟨he,vs,r,aj,Cu,eg⟩:=fB e s av;obtain ⟨b2,cQ,a4,aJ,aP,b'⟩:=ai;have iI:LeavesInM Fence.wide 0 P f aM.tmps (fs B U J S w [] v) aM.defers .returning w':=by
  refine nE (U:=b2) (S:=a4) (J:=cQ) (B:=B) (H:=s.H) (lf:=U) (S0:=S) (w0:=w) aM.defers w' b'.M.2.1 b'.M.2.2 (da.trans aP) b'.H fun bT dr dj mh mi=>?_
  have bX:a9 .slot b2 cQ a4 bT s.T aM.tmps.toList:=⟨b'.T.len,fun i u v hu ae=>(b'.T.rel i u v hu ae).mono (Ext.refl _) (fun b o h=>⟨h,dj b o h⟩),fun i u v hu ae =>
   (b'.T.own i u v hu ae).mono (Ext.refl _) (fun b o h=>⟨h,dj b o h⟩) fun b ag=>⟨ag,dr b _ ag,fun _ h=>h⟩⟩
  obtain ⟨x,q1,aW⟩:=xr mi bX aj;have nr:=xi ah (fun id aE=>by simp at aE) Cu (a1.after aJ mh aW);refine ⟨x,q1,?_⟩;rcases eg with rfl | eg
  ·exact nr
  ·cases r with
   | ay cells len gu =>
     cases gu with
     | uniq z=>simp only [I.settle] at eg;subst eg;exact nr.settle
     | _=>simp only [I.settle] at eg;subst eg;exact nr
   | _=>simp only [I.settle] at eg;subst eg;exact nr
 rcases he with rfl | rfl
 ·exact iI
 ·exact iI
end
theorem PT (P:Program):c_ P (fun _ _ _ _=>none):=⟨fun h=>by simp at h,fun h=>by simp at h⟩
noncomputable def PV (f:Func):Option (cB×a5)→Option I
 | some (.normal,s) | some (.ret,s)=>(fc Go.Proofs.Tryz.prog s.H s.T f.results.toList).bind fun vs=>bJ s.H 0 s.H.length 0 8 (g' vs)
 | _=>none
theorem XA {f:Func} {x:Option (cB×a5)} {v:I} (h:PV f x=some v):∃ e s,x=some (e,s)∧(e=.normal∨e=.ret)∧∃ vs,fc Go.Proofs.Tryz.prog s.H s.T f.results.toList=some vs∧bJ s.H 0 s.H.length 0 8 (g' vs)=some v:=by
 unfold PV at h;split at h
 ·simp only [se] at h;obtain ⟨vs,ad,af⟩:=h;exact ⟨_,_,rfl,.inl rfl,vs,ad,af⟩
 ·simp only [se] at h;obtain ⟨vs,ad,af⟩:=h;exact ⟨_,_,rfl,.inr rfl,vs,ad,af⟩
 ·cases h
noncomputable def Ya (k p:Nat) (args:List I):Option I:=match Go.Proofs.Tryz.prog.funcs[k]? with
 | some f=>match f.body with
   | some (.seq hB (.seq (.region id ops true) rest)) =>
     match codeOk (jo k) hB, codeOk (jo k) rest, f.name == "runtime.NumGoroutine", Nat.blt (p + 1) ops.size, m6 ops ((jo k).ops.getD id []) p (p + 1) with
     | true,true,false,true,true =>
       match exec Go.Proofs.Tryz.prog (jo k) (fun _ _ _ _=>none) k 0 9 none hB 0 ⟨args++List.replicate (f.ntmps-args.length) .junk,[]⟩ with
       | some (.normal,Ut) =>
         match cw Go.Proofs.Tryz.prog (fun _ _ _ _=>none) 0 ops ((jo k).ops.getD id []) (List.range ops.size) Ut,cw Go.Proofs.Tryz.prog (fun _ _ _ _=>none) 0 ops ((jo k).ops.getD id []) (fe ops.size p (p+1)) Ut with
         | some s1,some s2 =>
           match PV f (exec Go.Proofs.Tryz.prog (jo k) (fun _ _ _ _=>none) k 0 9 none rest 0 s1),PV f (exec Go.Proofs.Tryz.prog (jo k) (fun _ _ _ _=>none) k 0 9 none rest 0 s2) with
           | some u,some v=>match HO 20 u v,cq 8 u with
             | true,true=>some u
             | _,_=>none
           | _,_=>none
         | _,_=>none
       | _=>none
     | _,_,_,_,_=>none
   | _=>none
 | none=>none
theorem rL {k p:Nat} {args:List I} {v:I} (h:Ya k p args=some v):lg Go.Proofs.Tryz.prog k args v:=by
 unfold Ya at h;split at h
 ·rename_i f aQ;split at h
  ·rename_i hB id ops rest ag;split at h
   ·rename_i a' bk bq b7 dW;split at h
    ·rename_i Ut ae_;split at h
     ·rename_i s1 s2 dp CX;split at h
      ·rename_i u br jH pz;split at h
       ·rename_i heq aC;have e:=Mp 20 _ _ heq;subst e;cases h;obtain ⟨e1,t1,y2,N2,ajf,d_,J7⟩:=XA jH;obtain ⟨ck,t2,iN,aew,mP,dA,Co⟩:=XA pz;refine agR aQ ag (by simpa using bq) aC (K:=fun e s=>(e=e1∧s=t1)∨(e=ck∧s=t2)) (fun Q B N J w U S a aO aK bl=>?_) (fun e s av=>?_)
        ·have Ge:=dH;refine wpIn_seq (m_ (PT _) Ge hB 0 _ _ _ ae_ a' Fence.wide _ B N J w U S a (.inl ⟨rfl,rfl⟩) (fun l a w=>aO l a w) aK fun aM w' ai=>?_);obtain ⟨b2,cQ,a4,aJ,aP,b'⟩:=ai;refine wpIn_seq (Eh (jf.lE (J:=cQ) (rl:=none) (.inl ⟨rfl,rfl⟩)) Ge (PT _) (by simpa [th] using b7) dW dp CX b' fun aF gZ aH bT dM=>?_);obtain ⟨bn,cg,bH,cj,jM,oV⟩:=dM;rcases gZ with rfl | rfl
         ·exact m_ (PT _) Ge rest 0 _ _ _ y2 bk Fence.wide Q B N cg bT bn bH aH (.inl ⟨rfl,rfl⟩) aO oV fun aR rR C7=>bl _ _ (.inl ⟨rfl,rfl⟩) aR rR ((C7.trans cj jM).trans aJ aP)
         ·exact m_ (PT _) Ge rest 0 _ _ _ iN bk Fence.wide Q B N cg bT bn bH aH (.inl ⟨rfl,rfl⟩) aO oV fun aR rR C7=>bl _ _ (.inr ⟨rfl,rfl⟩) aR rR ((C7.trans cj jM).trans aJ aP)
        ·rcases av with ⟨rfl,rfl⟩ | ⟨rfl,rfl⟩
         ·exact ⟨N2,ajf,_,d_,J7,.inl rfl⟩
         ·exact ⟨aew,mP,_,dA,Co,.inl rfl⟩
       ·cases h
      ·cases h
     ·cases h
    ·cases h
   ·cases h
  ·cases h
 ·cases h
end Go.Proofs.YtfakoboiahbhaaaGreat.Ab


namespace Go.Proofs.YtfakoboiahbhaaaGreat.Ab
open Go
section
variable {P:Program}
theorem S3 {lo:Nat} {ops:Array Oper} {an:List b5}:∀ {O:List Nat} {rl:List cx} {acc:dg} {T:List I} {H:List au} {K:List I→List au→Prop},fa P ops an O=some rl→hj P acc→gE P lo true rl acc T H K →
  ∃ dw a7 H',hj P dw∧(∀ p∈acc,p∈dw)∧(∀ C,hM C dw→cw P C lo ops an O ⟨T,H⟩=some ⟨a7,H'⟩)∧K a7 H'
 | [],rl,acc,T,H,K,ak,cd,h=>by simp only [fa,Option.some.injEq] at ak;subst ak;exact ⟨acc,T,H,cd,fun _ h=>h,fun _ _=>rfl,h⟩
 | i::r,rl,acc,T,H,K,ak,cd,h=>by
   simp only [fa] at ak;split at ak
   ·rename_i o hi;split at ak
    ·rename_i cP l' ad af;simp only [Option.some.injEq] at ak;subst ak;obtain ⟨x2,ff,H1,aB,aH,aR,bj⟩:=xW ad cd h;obtain ⟨ow,dQ,a2,bo,cI,ez,jq⟩:=S3 af aB bj;refine ⟨ow,dQ,a2,bo,fun p aC=>cI p (aH p aC),fun C ch=>?_,jq⟩;simp only [cw,hi];rw [aR C (fun p aC=>ch p (cI p aC)),Option.bind_some];exact ez C ch
    ·cases ak
   ·cases ak
theorem agS {k : Nat} {f : Func} {c : Code} (aQ : P.funcs[k]? = some f) (ag : f.body = some c) (aN : f.name ≠ "runtime.NumGoroutine")
  {args:List I} {v:I} (aC:cq 8 v=true) {K:cB→a5→Prop}
  (ai:∀ (Q:Exit→Act→World→Prop) (B N:Nat) (J:List Nat) (w:World) (U:Nat→Option aI) (S:Nat→Nat→Prop) (a:Act),(∀ l a w,¬ Q (.goto l) a w)→ct B N U J S w ⟨args++List.replicate (f.ntmps-args.length) .junk,[]⟩ a →
   (∀ e aF,K e aF→∀ aM w',Step B N U J S w aF aM w'→Q (toExit e) aM w')→c.wpIn Fence.wide 0 P Q a w)
  (fB:∀ e s,K e s→(e=.normal∨e=.ret)∧∃ vs r,fc P s.H s.T f.results.toList=some vs∧bJ s.H 0 s.H.length 0 8 (g' vs)=some r∧r.settle.view.cr=v):lg P k args v:=by
 refine ⟨⟨ba.refl _ _,⟨f,aQ,by simp [ag],aN⟩,fun B U J S w xs ah _ ae=>?_⟩,aC⟩;refine callsIn_of_wp_marks aQ ag trivial ?_;have aK:=xN ah ae f.ntmps;have da:=(oc ah).1;refine ai _ B w.heap.size J w (hI U) S _ (fun l a w aO=>aO.elim) aK fun e s av aM w' ai=>?_;obtain ⟨he,vs,r,aj,Cu,eg⟩:=fB e s av;obtain ⟨b2,cQ,a4,aJ,aP,b'⟩:=ai;have iI:LeavesInM Fence.wide 0 P f aM.tmps (fs B U J S w [] v) aM.defers .returning w':=by
  refine nE (U:=b2) (S:=a4) (J:=cQ) (B:=B) (H:=s.H) (lf:=U) (S0:=S) (w0:=w) aM.defers w' b'.M.2.1 b'.M.2.2 (da.trans aP) b'.H fun bT dr dj mh mi=>?_
  have bX:a9 .slot b2 cQ a4 bT s.T aM.tmps.toList:=⟨b'.T.len,fun i u v hu ae=>(b'.T.rel i u v hu ae).mono (Ext.refl _) (fun b o h=>⟨h,dj b o h⟩),fun i u v hu ae =>
   (b'.T.own i u v hu ae).mono (Ext.refl _) (fun b o h=>⟨h,dj b o h⟩) fun b ag=>⟨ag,dr b _ ag,fun _ h=>h⟩⟩
  obtain ⟨x,q1,aW⟩:=xr mi bX aj;have nr:=xi ah (fun id aE=>by simp at aE) Cu (a1.after aJ mh aW);refine ⟨x,q1,?_⟩;rw [←eg];exact nr.Zl
 rcases he with rfl | rfl
 ·exact iI
 ·exact iI
noncomputable def S4 (P:Program) (A:c7) (k p:Nat):Option (ey×List cx×List cx×ey×Nat×List ji):=match P.funcs[k]? with
 | some f=>match f.body with
   | some (.seq hB (.seq (.region id ops true) rest)) =>
     match codeOk A hB, codeOk A rest, f.name == "runtime.NumGoroutine", Nat.blt (p + 1) ops.size, m6 ops (A.ops.getD id []) p (p + 1) with
     | true,true,false,true,true =>
       match dS P A hB 0,fa P ops (A.ops.getD id []) (List.range ops.size),fa P ops (A.ops.getD id []) (fe ops.size p (p+1)),dS P A rest 0,j1 P f.results.toList with
       | some a,some b,some c,some d,some rs=>some (a,b,c,d,f.ntmps,rs)
       | _,_,_,_,_=>none
     | _,_,_,_,_=>none
   | _=>none
 | none=>none
theorem adI (dH:P.follows .mixedOrders=true) {k p:Nat} {A:c7} {zS rd:ey} {zV rc:List cx} {n:Nat} {rs:List ji} (ak:S4 P A k p=some (zS,zV,rc,rd,n,rs)) {args T:List I} (bX:args++List.replicate (n-args.length) .junk=T) {v:I} (aC:cq 8 v=true)
  (h:∀ Q:cB→List I→List au→Prop,(∀ e T H,H5 rs v e T H→Q e T H)→dB P A k 0 none zS T [] fun e T H=>e=.normal∧gE P 0 true zV [] T H (fun T H=>dB P A k 0 none rd T H Q)∧∀ acc,gE P 0 true rc acc T H (fun T H=>dB P A k 0 none rd T H Q)):lg P k args v:=by
 unfold S4 at ak;split at ak
 ·rename_i f aQ;split at ak
  ·rename_i hB id ops rest ag;split at ak
   ·rename_i a' bk bq b7 dW;split at ak
    ·rename_i a b c d X9 dJ kI MC Xc afp;simp only [Option.some.injEq,Prod.mk.injEq] at ak;obtain ⟨rfl,rfl,rfl,rfl,rfl,rfl⟩:=ak;subst bX;have h:=h (fun e T H=>H5 X9 v e T H) fun _ _ _ h=>h;refine agS aQ ag (by simpa using bq) aC (K:=fun e s=>H5 X9 v e s.T s.H) (fun Q B N J w U S a aO aK bl=>?_) (fun e s ⟨cb,vs,B0,r,b8,dY⟩=>⟨cb,vs,r,by rw [xl _ _ afp,B0],b8,dY⟩);refine wpIn_seq (og dH hB 0 _ _ (xa dJ h) a' Fence.wide _ B N J w U S a (.inl ⟨rfl,rfl⟩) (fun l a w=>aO l a w) aK fun e aF av aM w' ai=>?_);obtain ⟨rfl,ad,af⟩:=av;obtain ⟨b2,cQ,a4,aJ,aP,b'⟩:=ai;obtain ⟨x2,ff,H1,aB,_,aR,bj⟩:=S3 kI ⟨fun p aC=>by simp at aC,fun p aC=>by simp at aC⟩ ad;obtain ⟨ow,dQ,a2,bo,cI,ez,jq⟩:=S3 MC aB (af x2);obtain ⟨C,bt,ch⟩:=ox bo;refine wpIn_seq (Eh (jf.lE (J:=cQ) (rl:=none) (.inl ⟨rfl,rfl⟩)) dH bt (by simpa [th] using b7) dW (aR C fun p aC=>ch p (cI p aC)) (ez C ch) b' fun aF gZ aH bT dM=>?_);obtain ⟨bn,cg,bH,cj,jM,oV⟩:=dM;rcases gZ with rfl | rfl
     ·exact og dH rest 0 _ _ (xa Xc bj) bk Fence.wide Q B N cg bT bn bH aH (.inl ⟨rfl,rfl⟩) aO oV fun e s av aR rR C7=>bl e s av aR rR ((C7.trans cj jM).trans aJ aP)
     ·exact og dH rest 0 _ _ (xa Xc jq) bk Fence.wide Q B N cg bT bn bH aH (.inl ⟨rfl,rfl⟩) aO oV fun e s av aR rR C7=>bl e s av aR rR ((C7.trans cj jM).trans aJ aP)
    ·cases ak
   ·cases ak
  ·cases ak
 ·cases ak
end
end Go.Proofs.YtfakoboiahbhaaaGreat.Ab


namespace Go.Proofs.YtfakoboiahbhaaaGreat.Ab
open Go
set_option maxRecDepth 20000
set_option maxHeartbeats 4000000
noncomputable def aaq:ey:=.j0 false [gL 6 [.iA (.bool false)] .iQ]
noncomputable def aar:List cx:=[gL 9 [.sl 0] .iQ,gL 10 [.hJ 9] .zB,gL 11 [.hJ 10] (.oP 0),gL 12 [.hJ 11] (.oP 1),gL 13 [.hJ 12] (.pT .one),gL 14 [.hG 1] .iQ,gL 15 [.hJ 13,.hJ 14] (.pM 2),gL 16 [.hJ 15] (.pT (.str 2)),gL 17 [.sl 0] .iQ,gL 18 [.hJ 17] .zB,gL 19 [.hJ 18] (.oP 0),gL 20 [.hJ 19] (.oP 1),gL 21 [.hJ 20] (.zb .one),gL 22 [.hG 2] .iQ,gL 23 [.hJ 21,.hJ 22] (.pM 2),gL 24 [.hJ 23] (.zb (.str 2)),gL 7 [] (.alloc [.int .i64 0,.int .i64 0]),gL 8 [] (.alloc [.int .i64 0,.int .i64 0]),⟨none,[.sl 7,.hG 16],none,none,.st 2⟩,⟨none,[.sl 8,.hG 24],none,none,.st 2⟩]
noncomputable def aas:List cx:=[gL 9 [.sl 0] .iQ,gL 10 [.hJ 9] .zB,gL 11 [.hJ 10] (.oP 0),gL 12 [.hJ 11] (.oP 1),gL 13 [.hJ 12] (.pT .one),gL 14 [.hG 1] .iQ,gL 15 [.hJ 13,.hJ 14] (.pM 2),gL 16 [.hJ 15] (.pT (.str 2)),gL 17 [.sl 0] .iQ,gL 18 [.hJ 17] .zB,gL 19 [.hJ 18] (.oP 0),gL 20 [.hJ 19] (.oP 1),gL 21 [.hJ 20] (.zb .one),gL 22 [.hG 2] .iQ,gL 23 [.hJ 21,.hJ 22] (.pM 2),gL 24 [.hJ 23] (.zb (.str 2)),gL 8 [] (.alloc [.int .i64 0,.int .i64 0]),gL 7 [] (.alloc [.int .i64 0,.int .i64 0]),⟨none,[.sl 7,.hG 16],none,none,.st 2⟩,⟨none,[.sl 8,.hG 24],none,none,.st 2⟩]
noncomputable def ak0:ey:=.seq (.j0 false [gL 25 [.sl 7] (.oP 0),gL 26 [.hJ 25] (.pT .one),gL 27 [.sl 8] (.oP 0),gL 28 [.hJ 27] (.pT .one),gL 29 [.hJ 26,.hJ 28] (.bin .eql),gL 30 [.hG 29] .iQ,⟨some 31,[.sl 7],some (30,false),none,.oP 0⟩,⟨some 32,[.hJ 31],some (30,false),none,.pT .one⟩,⟨some 33,[.sl 8],some (30,false),none,.oP 1⟩,⟨some 34,[.hJ 33],some (30,false),none,.pT .one⟩,⟨some 35,[.hJ 32,.hJ 34],some (30,false),none,.bin .eql⟩,gL 36 [.hJ 30,.iA (.bool true),.hJ 35] .pick,gL 37 [.hG 36] .iQ,⟨some 38,[.sl 7],some (37,false),none,.oP 1⟩,⟨some 39,[.hJ 38],some (37,false),none,.pT .one⟩,⟨some 40,[.sl 8],some (37,false),none,.oP 0⟩,⟨some 41,[.hJ 40],some (37,false),none,.pT .one⟩,⟨some 42,[.hJ 39,.hJ 41],some (37,false),none,.bin .eql⟩,gL 43 [.hJ 37,.iA (.bool true),.hJ 42] .pick,gL 44 [.hG 43] .iQ,⟨some 45,[.hJ 7],some (44,false),none,.oP 1⟩,⟨some 46,[.hJ 45],some (44,false),none,.pT .one⟩,⟨some 47,[.hJ 8],some (44,false),none,.oP 1⟩,⟨some 48,[.hJ 47],some (44,false),none,.pT .one⟩,⟨some 49,[.hJ 46,.hJ 48],some (44,false),none,.bin .eql⟩,gL 50 [.hJ 44,.iA (.bool true),.hJ 49] .pick,gL 6 [.hG 50] .iQ]) .ret
theorem afB:S4 Tryz.prog Vk 100 16=some (aaq,aar,aas,ak0,51,[.tmp 6]):=by kernel_rfl
def IB (a b:Int×Int):Bool:=decide (a.1=b.1) || decide (a.1=b.2) || decide (a.2=b.1) || decide (a.2=b.2)
def UG (t:p3) (i k:Int):Option Bool :=
 p5 (0≤i∧i<(t.2.length:Int)) <|
 p5 (0≤k∧k<(t.2.length:Int)) <|
 some (IB (ix t.2 i) (ix t.2 k))
theorem ajJ {t:p3} {i k:Int} {v:Bool} (h:UG t i k=some v):qp 100 [.bU [hP t.1,.ay (t.2.flatMap pY) t.2.length .shared],hP i,hP k] (B v):=by
 obtain ⟨eT,h⟩:=qn h;obtain ⟨fj,h⟩:=qn h;obtain rfl:=Option.some.inj h;refine adI dH afB rfl rfl fun Q bl=>?_;have jw:∀ T H,H5 [.tmp 6] (B (IB (ix t.2 i) (ix t.2 k))) .ret T H→Q .ret T H:=fun T H bI=>bl _ T H bI;unfold aaq;conv=>whnf
 refine ⟨rfl,?_,fun acc=>?_⟩
 ·unfold aar;conv=>whnf
  refine ⟨eT,?_⟩;rw [qU pY 2 ql t.2 i eT];conv=>whnf
  refine ⟨fj,?_⟩;rw [qU pY 2 ql t.2 k fj];conv=>whnf
  rcases Lk (decide ((ix t.2 i).1=(ix t.2 k).1)) with fQ | fQ
  ·rw [fQ];(conv=>whnf);exact jw _ _ ⟨.inr rfl,_,rfl,_,oR rfl,(by unfold IB;rw [fQ];rfl)⟩
  ·rw [fQ];(conv=>whnf);rcases Lk (decide ((ix t.2 i).1=(ix t.2 k).2)) with e1 | e1
   ·rw [e1];(conv=>whnf);exact jw _ _ ⟨.inr rfl,_,rfl,_,oR rfl,(by unfold IB;rw [fQ,e1];rfl)⟩
   ·rw [e1];(conv=>whnf);rcases Lk (decide ((ix t.2 i).2=(ix t.2 k).1)) with ck | ck
    ·rw [ck];(conv=>whnf);exact jw _ _ ⟨.inr rfl,_,rfl,_,oR rfl,(by unfold IB;rw [fQ,e1,ck];rfl)⟩
    ·rw [ck];(conv=>whnf);exact jw _ _ ⟨.inr rfl,_,rfl,_,oR rfl,(by unfold IB;rw [fQ,e1,ck];rfl)⟩
 ·unfold aas;conv=>whnf
  refine ⟨eT,?_⟩;rw [qU pY 2 ql t.2 i eT];conv=>whnf
  refine ⟨fj,?_⟩;rw [qU pY 2 ql t.2 k fj];conv=>whnf
  rcases Lk (decide ((ix t.2 i).1=(ix t.2 k).1)) with fQ | fQ
  ·rw [fQ];(conv=>whnf);exact jw _ _ ⟨.inr rfl,_,rfl,_,oR rfl,(by unfold IB;rw [fQ];rfl)⟩
  ·rw [fQ];(conv=>whnf);rcases Lk (decide ((ix t.2 i).1=(ix t.2 k).2)) with e1 | e1
   ·rw [e1];(conv=>whnf);exact jw _ _ ⟨.inr rfl,_,rfl,_,oR rfl,(by unfold IB;rw [fQ,e1];rfl)⟩
   ·rw [e1];(conv=>whnf);rcases Lk (decide ((ix t.2 i).2=(ix t.2 k).1)) with ck | ck
    ·rw [ck];(conv=>whnf);exact jw _ _ ⟨.inr rfl,_,rfl,_,oR rfl,(by unfold IB;rw [fQ,e1,ck];rfl)⟩
    ·rw [ck];(conv=>whnf);exact jw _ _ ⟨.inr rfl,_,rfl,_,oR rfl,(by unfold IB;rw [fQ,e1,ck];rfl)⟩

noncomputable def abb:ey :=
 Gz [gL 4 [.iA (.bool false)] .iQ] (Gz [Gl 5 1,Gl 6 2,Gp 7 0,gL 8 [.iA (.func 100 [] []),.sl 5,.sl 6,.sl 7] (.call 3),Gp 4 8] .ret)
theorem agl:zf Tryz.prog VV 99=some (abb,9,[.tmp 4]):=by kernel_rfl
def QJ (k:Int) (gO:qb) (a':Int):Option Bool :=
 (UG gO a' k).bind fun r1 =>
 some r1
theorem akZ {k:Int} {gO:qb} {a':Int} {v:Bool} (h:QJ k gO a'=some v):qp 99 [(hP k),(.bU [(.bU [(hP gO.1),(.ay (gO.2.flatMap pY) gO.2.length .shared)])]),(.bU [(hP a')])] (B v):=by
 refine qN dH agl rfl rfl fun Q bl=>?_;have jw:qv [.tmp 4] Q (fun v=>(B v)) v:=fun T H bI=>bl _ T H bI;unfold QJ at h;unfold abb;conv=>whnf
 obtain ⟨r1,eT,h⟩:=qa h;refine ⟨qc.pl,_,ajJ eT,?_⟩;conv=>whnf
 exact p7 h jw rfl rfl

noncomputable def aba:ey :=
 Gz [gL 4 [.iA (.bool false)] .iQ] (Gz [Gp 5 0,gL 6 [.hJ 1,.hJ 2] (.zv 99 0 2),gL 7 [.iA (.func 92 [] []),.sl 5,.sl 6] (.call 6),Gp 4 7] .ret)
theorem agk:zf Tryz.prog VU 98=some (aba,8,[.tmp 4]):=by kernel_rfl
def Mg (part:p8) (gO:qb) (a':Int):Option Bool :=
 (JQ part (fun qF=>QJ qF gO a')).bind fun r1 =>
 some r1
theorem aap {part:p8} {gO:qb} {a':Int} {v:Bool} (h:Mg part gO a'=some v):qp 98 [(.ay (part.map hP) part.length .shared),(.bU [(.bU [(hP gO.1),(.ay (gO.2.flatMap pY) gO.2.length .shared)])]),(.bU [(hP a')])] (B v):=by
 refine qN dH agk rfl rfl fun Q bl=>?_;have jw:qv [.tmp 4] Q (fun v=>(B v)) v:=fun T H bI=>bl _ T H bI;unfold Mg at h;unfold aba;conv=>whnf
 obtain ⟨r1,eT,h⟩:=qa h;refine ⟨_,_,Is (cs:=[(qg part .shared),(.func 99 [] [(.bU [(.bU [(hP gO.1),(p2 gO.2 .shared)])]),(.bU [(hP a')])])]) (bs:=[(qg part .shared),(.func 99 [] [(.bU [(.bU [(hP gO.1),(p2 gO.2 .shared)])]),(.bU [(hP a')])])]) (rn rfl (rn (Kg rQ (rn rfl (rn rfl rQ))) rQ)) (by rfl) (by exact (pZ (rK (fun _=>rfl) _ _ _) (pZ (JB rfl (pZ (ra (pZ (ra (pZ rfl (pZ (qX (fun _=>(pZ rfl (pZ rfl rfl))) _ _ _) rfl))) rfl)) (pZ (ra (pZ rfl rfl)) rfl))) rfl))) (aam ⟨(pZ (ra (pZ (ra (pZ rfl (pZ (qX (fun _=>(pZ rfl (pZ rfl rfl))) _ _ _) rfl))) rfl)) (pZ (ra (pZ rfl rfl)) rfl)),by simp⟩ (fun _ _ a0=>akZ a0) eT) rfl,?_⟩;conv=>whnf
 exact p7 h jw rfl rfl

abbrev HZ (tab:p3):I:=.bU [hP tab.1,.ay (tab.2.flatMap pY) tab.2.length .shared]
abbrev H0 (tab:p3):au:=.cells [HZ tab]
def PB (tab:p3) (s:Int) (own r:List Int):Option (List Int):=(Mg r tab s).bind fun b=>if b=true then p5 ((own.length+r.length)*8≤140737488355328) (some (own++r)) else some own
def Od (tab:p3) (out:List (List Int)) (s:Int):Option (List (List Int)) :=
 (HD (PB tab s) out [s]).bind fun own=>p5 (own.length≤12∧own.length≠0∧out.length≤1000) ((Lm (fun r=>Mg r tab s) out).bind fun rest=>some (rest++[rY own]))
def JN (tab:p3) (qd:List Int):Option (List (List Int)) :=
 p5 (qd.length≤1000) ((HD (Od tab) qd []).bind fun out=>p5 (out.length≤12∧out.all MU=true) (some (HY out)))
theorem V7 {H:List au} {tab:p3} {c:Nat} {s:Int} (aS:H[0]?=some (H0 tab)) (ao:H[c]?=some (.cells [hP s])):[I.ptr 0 0,.ptr c 0].map (ij H)=[.bU [HZ tab],.bU [hP s]] :=
 rn (Ji aS rfl) (rn (Ji ao rfl) rQ)
theorem V6 (tab:p3) (s:Int):[I.bU [HZ tab],.bU [hP s]].all (cq 8)=true :=
 pZ (ra (pZ (ra (pZ rfl (pZ (qX (fun _=>(pZ rfl (pZ rfl rfl))) _ _ _) rfl))) rfl)) (pZ rfl rfl)
theorem ad5 {tab:p3} {s:Int} {out:List (List Int)} {own:List Int} {x c i n:Nat} {sl:I} {H1:List au} (bB:HD (PB tab s) out [s]=some own) (hlen:out.length≤1000) (Ls:H1[x]?=some (.grow (out.map jh) (x+1) 1)) (aS:H1[0]?=some (H0 tab)) (ao:H1[c]?=some (.cells [hP s]))
  {Q:cB→List I→List au→Prop} (av:Q (.exit 2) (GG 46 [(2,.ptr 0 0),(5,.cl x (x+1) out.length 1),(8,.func 98 [] [.ptr 0 0,.ptr c 0]),(9,.ay (own.map hP) own.length (.uniq 1)),(12,sl),(13,hP n),(14,hP i),(21,.ref x 0 out.length none 1),(22,hP out.length),(23,hP out.length),(24,B (decide ((out.length:Int)<(out.length:Int))))]) H1)
  {T:List I} (bX:eQ [false,false,true,false,false,true,false,false,true,true,false,false,true,true,true,false,false,false,false,false,false,true,true,true,false,false,false,false,false,false,false,false,false,false,false,false,false,false,false,false,false,false,false,false,false,false] T=GG 46 [(2,.ptr 0 0),(5,.cl x (x+1) out.length 1),(8,.func 98 [] [.ptr 0 0,.ptr c 0]),(9,.ay [hP s] 1 (.uniq 1)),(12,sl),(13,hP n),(14,hP i),(21,.ref x 0 out.length none 1),(22,hP out.length),(23,hP (0:Nat))]) :
  dB Tryz.prog Mo 79 0 none MS T H1 Q:=by
 unfold MS;obtain ⟨bk,b8⟩:∃ c,P9=c:=⟨_,rfl⟩;rw [b8];refine wp_loop bX ?_;obtain ⟨F,Rf,Fn,Rg⟩:=Pr bB;refine .intro (fun m T H=>∃ k:Nat,k≤out.length∧m=out.length-k∧T=GG 46 [(2,.ptr 0 0),(5,.cl x (x+1) out.length 1),(8,.func 98 [] [.ptr 0 0,.ptr c 0]),(9,.ay ((F k).map hP) (F k).length (.uniq 1)),(12,sl),(13,hP n),(14,hP i),(21,.ref x 0 out.length none 1),(22,hP out.length),(23,hP k)]∧H=H1) out.length ⟨0,by omega,by omega,by rw [Rf];rfl,rfl⟩ ?_;clear bX;rintro m T H ⟨k,alz,rfl,rfl,rfl⟩;conv=>whnf
 refine It (fun aU=>?_) (fun aU=>?_)
 ·have aU:k<out.length:=by omega
  conv=>whnf
  subst b8;unfold P9;obtain ⟨a',cb⟩:∃ c,Uh=c:=⟨_,rfl⟩;rw [cb];refine Il fun mS G2=>?_;conv=>whnf
  refine ⟨by omega,?_⟩;conv=>whnf
  refine DW Ls ?_;conv=>whnf
  refine DW (Ur out rfl aU) ?_;conv=>whnf
  obtain ⟨b,ag,ai⟩:=qa (Rg k aU);refine ⟨_,_,Is (cs:=[jh out[k],.bU [HZ tab],.bU [hP s]]) (bs:=[jh out[k],.bU [HZ tab],.bU [hP s]]) (rn rfl (V7 aS ao)) rfl (pZ (rK (fun _=>rfl) _ _ _) (V6 tab s)) (aap ag) rfl,?_⟩;conv=>whnf
  cases b with
  | true =>
    rw [if_pos rfl] at ai;obtain ⟨ak,ai⟩:=qn ai;have ai:=Option.some.inj ai;(conv=>whnf);subst cb;unfold Uh;(conv=>whnf);refine ⟨by simp,by omega,rfl,ak,?_⟩;erw [acv hP (F k) out[k]];rw [ai];(conv=>whnf);refine G2 _ _ _ ?_;(conv=>whnf);exact ⟨out.length-(k+1),by omega,k+1,by omega,rfl,by rw [←GY k (by omega)] <;> rfl,rfl⟩
  | false =>
    have ai:=Option.some.inj ai;(conv=>whnf);refine G2 _ _ _ ?_;(conv=>whnf);exact ⟨out.length-(k+1),by omega,k+1,by omega,rfl,by rw [←ai,←GY k (by omega)] <;> rfl,rfl⟩
 ·obtain rfl:k=out.length:=by omega
  conv=>whnf
  rw [Fn];exact av
theorem ad6 {s:Int} {c i n:Nat} {sl:I} {H1:List au}
  {Q:cB→List I→List au→Prop} (av:Q (.exit 2) (GG 46 [(2,.ptr 0 0),(5,.ay [] 0 .full),(8,.func 98 [] [.ptr 0 0,.ptr c 0]),(9,.ay [hP s] 1 (.uniq 1)),(12,sl),(13,hP n),(14,hP i),(21,.ay [] 0 .full),(22,hP 0),(23,hP 0),(24,B false)]) H1)
  {T:List I} (bX:eQ [false,false,true,false,false,true,false,false,true,true,false,false,true,true,true,false,false,false,false,false,false,true,true,true,false,false,false,false,false,false,false,false,false,false,false,false,false,false,false,false,false,false,false,false,false,false] T=GG 46 [(2,.ptr 0 0),(5,.ay [] 0 .full),(8,.func 98 [] [.ptr 0 0,.ptr c 0]),(9,.ay [hP s] 1 (.uniq 1)),(12,sl),(13,hP n),(14,hP i),(21,.ay [] 0 .full),(22,hP 0),(23,hP 0)]) :
  dB Tryz.prog Mo 79 0 none MS T H1 Q:=by
 unfold MS;obtain ⟨bk,b8⟩:∃ c,P9=c:=⟨_,rfl⟩;rw [b8];refine wp_loop bX ?_;refine .intro (fun m T H=>T=GG 46 [(2,.ptr 0 0),(5,.ay [] 0 .full),(8,.func 98 [] [.ptr 0 0,.ptr c 0]),(9,.ay [hP s] 1 (.uniq 1)),(12,sl),(13,hP n),(14,hP i),(21,.ay [] 0 .full),(22,hP 0),(23,hP 0)]∧H=H1) 0 ⟨rfl,rfl⟩ ?_;clear bX;rintro m T H ⟨rfl,rfl⟩;conv=>whnf
 exact av
def JX (tab:p3) (out:List (List Int)) (v5:I) (H:List au):Prop :=
 H[0]?=some (H0 tab)∧((out=[]∧v5=.ay [] 0 .full)∨∃ X:List au,0<X.length∧v5=.cl X.length (X.length+1) out.length 1∧H=X++[.grow (out.map jh) (X.length+1) 1,.dead])
theorem JX.mk' {tab:p3} {out:List (List Int)} {X:List au} (h:X[0]?=some (H0 tab)) {l:List I} (ak:l=out.map jh) {n:Nat} (aN:n=out.length):JX tab out (.cl X.length (X.length+1) n 1) (X++[.grow l (X.length+1) 1,.dead]):=by
 subst ak aN;have ad:=(sa.1 h).1;exact ⟨qH h,.inr ⟨X,ad,rfl,rfl⟩⟩
theorem qA {H:List au} {i j:Nat} {o c:au} (h:H[i]?=some o) (aN:j≠i):(H.set j c)[i]?=some o:=by rw [List.getElem?_set_ne aN];exact h
theorem Ww {P:Program} {C:b6} {id n:Nat} {o:Oper} {x:Operand} {H:List au} (l:List Int) (aq:o.op=.move x) (aN:n=l.length) (ah:H[id]?=some (.cells (l.map hP))) :
  a8 P C 0 o 2 [.ref id 0 n none 1] H=some (jh l,H.set id .dead) :=
 adL (cs:=l.map hP) (sz:=1) aq (sq _) ah aN (by simp) (ajc (fun _=>rfl) _)
theorem XE {tab:p3} {s:Int} {out rest:List (List Int)} {own:List Int} {v5:I} {H:List au} {i n:Nat} {sl:I} (cm:JX tab out v5 H) (Ms:own.length≤12) (bM:own.length≠0) (hlen:out.length≤1000) (aZ:Lm (fun r=>Mg r tab s) out=some rest)
  {v21 v22 v23 v24:I} {Q:cB→List I→List au→Prop} (av:∀ MY H' UA IC ID IE IF HI HJ HK IG,JX tab (rest++[rY own]) MY H'→Q .normal (GG 46 [(2,.ptr 0 0),(5,MY),(9,UA),(12,sl),(13,hP n),(14,hP i),(21,v21),(22,v22),(23,v23),(24,v24),(34,IC),(35,ID),(36,IE),(37,IF),(38,HI),(39,HJ),(40,HK),(41,IG)]) H') :
  dB Tryz.prog Mo 79 0 none P' (GG 46 [(2,.ptr 0 0),(5,v5),(8,.func 98 [] [.ptr 0 0,.ptr H.length 0]),(9,.ay (own.map hP) own.length (.uniq 1)),(12,sl),(13,hP n),(14,hP i),(21,v21),(22,v22),(23,v23),(24,v24)]) (H++[.cells [hP s]]) Q:=by
 unfold P';obtain ⟨bq,dY⟩:∃ c,Ui=c:=⟨_,rfl⟩;rw [dY];obtain ⟨aS,cm⟩:=cm;have fA:=(sa.1 aS).1;conv=>whnf
 refine .inl ⟨bM,?_⟩;conv=>whnf
 refine ⟨_,_,G9 (Yj own (sq _) Ms rfl (Iv _ _)),?_⟩;rw [q5];conv=>whnf
 subst dY;unfold Ui;rcases cm with ⟨rfl,rfl⟩ | ⟨X,WN,rfl,rfl⟩
 ·obtain rfl:rest=[]:=(Option.some.inj aZ).symm;conv=>whnf
  refine ⟨_,_,G9 adk,?_⟩;conv=>whnf
  refine ⟨_,_,fun C=>Ww (rY own) rfl (Qg own).symm (Iv _ _),?_⟩;rw [q5];conv=>whnf
  refine ⟨⟨rfl,by decide⟩,?_⟩;conv=>whnf
  refine ⟨⟨by decide,by decide,rfl⟩,?_⟩;conv=>whnf
  exact av _ _ _ _ _ _ _ _ _ _ _ (JX.mk' (qH (qH aS)) rfl rfl)
 ·conv=>whnf
  refine ⟨_,_,G9 (adl (g:=X.length+1) (cs:=[.bU [HZ tab],.bU [hP s]]) aZ (sq _) (fun c=>V7 (qA (qH (qH aS)) (by omega)) (qA (qH (Iv _ _)) (by simp))) rfl (V6 tab s) hlen rfl (fun _ _ ag=>aap ag) (qH (qH (Mr _ _)))),?_⟩;conv=>whnf
  refine ⟨_,_,fun C=>Ww (rY own) rfl (Qg own).symm (qA (Iv _ _) (by simp <;> omega)),?_⟩;conv=>whnf
  refine ⟨⟨rfl,by decide⟩,?_⟩;conv=>whnf
  have aj:rest.length≤out.length:=by
   obtain ⟨p,_,e⟩:=Wd aZ;rw [e];exact List.length_filter_le _ _
  refine ⟨⟨rfl,by decide,by omega⟩,?_⟩;conv=>whnf
  exact av _ _ _ _ _ _ _ _ _ _ _ (JX.mk' (qA (qA (qH (qH aS)) (by omega)) (by simp)) (by rw [List.map_append];rfl) (by simp))
theorem agF {tab:p3} {qd:List Int} {MF:List (List Int)} {H:List au} (bB:HD (Od tab) qd []=some MF) (C_:qd.length≤1000) (aS:H[0]?=some (H0 tab))
  {Q:cB→List I→List au→Prop} (av:∀ v5 H',JX tab MF v5 H'→Q (.exit 0) (GG 46 [(2,.ptr 0 0),(5,v5),(12,jh qd),(13,hP qd.length),(14,hP qd.length),(15,B (decide ((qd.length:Int)<(qd.length:Int))))]) H')
  {T:List I} (bX:eQ [false,false,true,false,false,true,false,false,false,false,false,false,true,true,true,false,false,false,false,false,false,false,false,false,false,false,false,false,false,false,false,false,false,false,false,false,false,false,false,false,false,false,false,false,false,false] T=GG 46 [(2,.ptr 0 0),(5,.ay [] 0 .full),(12,jh qd),(13,hP qd.length),(14,hP (0:Nat))]) :
  dB Tryz.prog Mo 79 0 none P_ T H Q:=by
 unfold P_;obtain ⟨fO,Hf⟩:∃ c,Ul=c:=⟨_,rfl⟩;rw [Hf];refine wp_loop bX ?_;obtain ⟨F,Rf,Fn,Rg⟩:=Pr bB;refine .intro (fun m T H=>∃ (i:Nat) (v5:I),i≤qd.length∧m=qd.length-i∧JX tab (F i) v5 H∧T=GG 46 [(2,.ptr 0 0),(5,v5),(12,jh qd),(13,hP qd.length),(14,hP i)]) qd.length ⟨0,_,by omega,by omega,⟨aS,.inl ⟨Rf,rfl⟩⟩,rfl⟩ ?_;clear bX aS;rintro m T H ⟨i,v5,hi,rfl,cm,rfl⟩;conv=>whnf
 refine It (fun aU=>?_) (fun aU=>?_)
 ·have aU:i<qd.length:=by omega
  obtain ⟨own,np,aC⟩:=qa (Rg i aU);obtain ⟨⟨Ms,bM,hlen⟩,aC⟩:=qn aC;obtain ⟨rest,aZ,aC⟩:=qa aC;have aC:=Option.some.inj aC;conv=>whnf
  subst Hf;unfold Ul;obtain ⟨dW,B1⟩:∃ c,Uk=c:=⟨_,rfl⟩;rw [B1];refine Il fun mS G2=>?_;conv=>whnf
  refine ⟨by omega,?_⟩;conv=>whnf
  refine agt _ _ _ (aU) ?_;conv=>whnf
  refine DW (Iv _ _) ?_;conv=>whnf
  rw [q5];conv=>whnf
  subst B1;unfold Uk;obtain ⟨b7,hn⟩:∃ c,Uj=c:=⟨_,rfl⟩;rw [hn];conv=>whnf
  refine DW (Iv _ _) ?_;conv=>whnf
  subst hn;unfold Uj;obtain ⟨Ry,Iu⟩:∃ c,MS=c:=⟨_,rfl⟩;obtain ⟨alg,RL⟩:∃ c,P'=c:=⟨_,rfl⟩;rw [Iu,RL];have oY:=cm;obtain ⟨aS,cm⟩:=cm;rcases cm with ⟨aq,rfl⟩ | ⟨X,WN,rfl,ah⟩
  ·(conv=>whnf);subst Iu;have CS:own=[qd[i]]:=by
    rw [aq] at np;exact (Option.some.inj np).symm
   refine ad6 (s:=qd[i]) (c:=H.length) (n:=qd.length) (i:=i) (sl:=jh qd) ?_ (by exact rfl);(conv=>whnf);subst RL;refine XE (own:=own) (v5:=.ay [] 0 .full) oY Ms bM hlen aZ (v21:=.ay [] 0 .full) (v22:=hP 0) (v23:=hP 0) (v24:=B false) ?_ |> cast (by rw [CS];rfl)
   intro MY H' UA IC ID IE IF HI HJ HK IG I8;(conv=>whnf);refine G2 _ _ _ ?_;(conv=>whnf);exact ⟨qd.length-(i+1),by omega,i+1,MY,by omega,rfl,by rw [←aC];exact I8,by rw [←GY i (by omega)] <;> rfl⟩
  ·(conv=>whnf);subst Iu;refine ad5 (x:=X.length) (c:=H.length) (n:=qd.length) (i:=i) (sl:=jh qd) np hlen (qH (by rw [ah];exact Mr _ _)) (qH aS) (Iv _ _) ?_ (by exact rfl);(conv=>whnf);subst RL;refine XE (own:=own) oY Ms bM hlen aZ ?_;intro MY H' UA IC ID IE IF HI HJ HK IG I8;(conv=>whnf);refine G2 _ _ _ ?_;(conv=>whnf);exact ⟨qd.length-(i+1),by omega,i+1,MY,by omega,rfl,by rw [←aC];exact I8,by rw [←GY i (by omega)] <;> rfl⟩
 ·obtain rfl:i=qd.length:=by omega
  conv=>whnf
  exact av _ _ (by rw [←Fn];exact cm)
theorem aac {t:p3} {qd:List Int} {v:List (List Int)} (h:JN t qd=some v):qp 79 [HZ t,.ay (qd.map hP) qd.length .shared] (.ay (v.map jh) v.length .shared):=by
 obtain ⟨C_,h⟩:=qn h;obtain ⟨out,bB,h⟩:=qa h;obtain ⟨⟨Ms,cS⟩,h⟩:=qn h;obtain rfl:=Option.some.inj h;refine qN dH afz rfl (rK (fun _=>(rK (fun _=>rfl) _ _ _)) _ _ _) fun Q bl=>?_;have jw:∀ T H,H5 [.tmp 4] (.ay ((HY out).map jh) (HY out).length .shared) .ret T H→Q .ret T H:=fun T H bI=>bl _ T H bI;unfold X0;obtain ⟨m0,GR⟩:∃ c,Un=c:=⟨_,rfl⟩;rw [GR];conv=>whnf
 subst GR;unfold Un;obtain ⟨Ry,Iu⟩:∃ c,P_=c:=⟨_,rfl⟩;obtain ⟨mZ,HQ⟩:∃ c,Um=c:=⟨_,rfl⟩;rw [Iu,HQ];conv=>whnf
 subst Iu;refine agF (tab:=t) bB C_ rfl ?_ (by exact rfl);intro v5 H' cm;conv=>whnf
 subst HQ;unfold Um;obtain ⟨aS,cm⟩:=cm;rcases cm with ⟨rfl,rfl⟩ | ⟨X,WN,rfl,rfl⟩
 ·have e:HY []=[]:=List.eq_nil_of_length_eq_zero (by rw [Uv];rfl);rw [e] at jw;conv=>whnf
  refine ⟨_,_,G9 aif,?_⟩;conv=>whnf
  refine ⟨_,_,fun C=>rfl,?_⟩;conv=>whnf
  exact jw _ _ ⟨.inr rfl,_,rfl,_,oR rfl,rfl⟩
 ·conv=>whnf
  refine ⟨_,_,G9 (aik out (sq _) Ms cS rfl (Mr X _)),?_⟩;rw [Yd];conv=>whnf
  refine ⟨_,_,fun C=>Wx rfl (sq _) (Mr X _) (by rw [List.length_map,Uv,Nat.mul_one]),?_⟩;rw [UE (fun _=>rfl),Yd];conv=>whnf
  rw [Uv] at jw;exact jw _ _ ⟨.inr rfl,_,rfl,_,oR (rK (fun _=>(rK (fun _=>rfl) _ _ _)) _ _ _),rfl⟩
end Go.Proofs.YtfakoboiahbhaaaGreat.Ab


namespace Go.Proofs.YtfakoboiahbhaaaGreat.Ab
open Go
def Yq:qt:=.pure 100 [.bU [.int .i64 4,.ay [.int .i64 0,.int .i64 1,.int .i64 1,.int .i64 2,.int .i64 2,.int .i64 0,.int .i64 2,.int .i64 3] 4 .shared],.int .i64 0,.int .i64 0] (.bool true)
theorem aiq:qz Go.Proofs.Tryz.prog Yq:=rL (p:=16) (by kernel_rfl)
def Yr:qt:=.pure 100 [.bU [.int .i64 4,.ay [.int .i64 0,.int .i64 1,.int .i64 1,.int .i64 2,.int .i64 2,.int .i64 0,.int .i64 2,.int .i64 3] 4 .shared],.int .i64 0,.int .i64 1] (.bool true)
theorem air:qz Go.Proofs.Tryz.prog Yr:=rL (p:=16) (by kernel_rfl)
def Ys:qt:=.pure 100 [.bU [.int .i64 4,.ay [.int .i64 0,.int .i64 1,.int .i64 1,.int .i64 2,.int .i64 2,.int .i64 0,.int .i64 2,.int .i64 3] 4 .shared],.int .i64 0,.int .i64 2] (.bool true)
theorem ais:qz Go.Proofs.Tryz.prog Ys:=rL (p:=16) (by kernel_rfl)
def Yt:qt:=.pure 100 [.bU [.int .i64 4,.ay [.int .i64 0,.int .i64 1,.int .i64 1,.int .i64 2,.int .i64 2,.int .i64 0,.int .i64 2,.int .i64 3] 4 .shared],.int .i64 0,.int .i64 3] (.bool false)
theorem ait:qz Go.Proofs.Tryz.prog Yt:=rL (p:=16) (by kernel_rfl)
def Yu:qt:=.pure 100 [.bU [.int .i64 4,.ay [.int .i64 0,.int .i64 1,.int .i64 1,.int .i64 2,.int .i64 2,.int .i64 0,.int .i64 2,.int .i64 3] 4 .shared],.int .i64 1,.int .i64 0] (.bool true)
theorem aiu:qz Go.Proofs.Tryz.prog Yu:=rL (p:=16) (by kernel_rfl)
def Yv:qt:=.pure 100 [.bU [.int .i64 4,.ay [.int .i64 0,.int .i64 1,.int .i64 1,.int .i64 2,.int .i64 2,.int .i64 0,.int .i64 2,.int .i64 3] 4 .shared],.int .i64 1,.int .i64 1] (.bool true)
theorem aiv:qz Go.Proofs.Tryz.prog Yv:=rL (p:=16) (by kernel_rfl)
def Yw:qt:=.pure 100 [.bU [.int .i64 4,.ay [.int .i64 0,.int .i64 1,.int .i64 1,.int .i64 2,.int .i64 2,.int .i64 0,.int .i64 2,.int .i64 3] 4 .shared],.int .i64 1,.int .i64 2] (.bool true)
theorem aiw:qz Go.Proofs.Tryz.prog Yw:=rL (p:=16) (by kernel_rfl)
def Yx:qt:=.pure 100 [.bU [.int .i64 4,.ay [.int .i64 0,.int .i64 1,.int .i64 1,.int .i64 2,.int .i64 2,.int .i64 0,.int .i64 2,.int .i64 3] 4 .shared],.int .i64 1,.int .i64 3] (.bool true)
theorem aix:qz Go.Proofs.Tryz.prog Yx:=rL (p:=16) (by kernel_rfl)
def Yy:qt:=.pure 100 [.bU [.int .i64 4,.ay [.int .i64 0,.int .i64 1,.int .i64 1,.int .i64 2,.int .i64 2,.int .i64 0,.int .i64 2,.int .i64 3] 4 .shared],.int .i64 2,.int .i64 0] (.bool true)
theorem aiy:qz Go.Proofs.Tryz.prog Yy:=rL (p:=16) (by kernel_rfl)
def Yz:qt:=.pure 100 [.bU [.int .i64 4,.ay [.int .i64 0,.int .i64 1,.int .i64 1,.int .i64 2,.int .i64 2,.int .i64 0,.int .i64 2,.int .i64 3] 4 .shared],.int .i64 2,.int .i64 1] (.bool true)
theorem aiz:qz Go.Proofs.Tryz.prog Yz:=rL (p:=16) (by kernel_rfl)
def YA:qt:=.pure 100 [.bU [.int .i64 4,.ay [.int .i64 0,.int .i64 1,.int .i64 1,.int .i64 2,.int .i64 2,.int .i64 0,.int .i64 2,.int .i64 3] 4 .shared],.int .i64 2,.int .i64 2] (.bool true)
theorem aiA:qz Go.Proofs.Tryz.prog YA:=rL (p:=16) (by kernel_rfl)
def YB:qt:=.pure 100 [.bU [.int .i64 4,.ay [.int .i64 0,.int .i64 1,.int .i64 1,.int .i64 2,.int .i64 2,.int .i64 0,.int .i64 2,.int .i64 3] 4 .shared],.int .i64 2,.int .i64 3] (.bool true)
theorem aiB:qz Go.Proofs.Tryz.prog YB:=rL (p:=16) (by kernel_rfl)
def YC:qt:=.pure 100 [.bU [.int .i64 4,.ay [.int .i64 0,.int .i64 1,.int .i64 1,.int .i64 2,.int .i64 2,.int .i64 0,.int .i64 2,.int .i64 3] 4 .shared],.int .i64 3,.int .i64 0] (.bool false)
theorem aiC:qz Go.Proofs.Tryz.prog YC:=rL (p:=16) (by kernel_rfl)
def YD:qt:=.pure 100 [.bU [.int .i64 4,.ay [.int .i64 0,.int .i64 1,.int .i64 1,.int .i64 2,.int .i64 2,.int .i64 0,.int .i64 2,.int .i64 3] 4 .shared],.int .i64 3,.int .i64 1] (.bool true)
theorem aiD:qz Go.Proofs.Tryz.prog YD:=rL (p:=16) (by kernel_rfl)
def YE:qt:=.pure 100 [.bU [.int .i64 4,.ay [.int .i64 0,.int .i64 1,.int .i64 1,.int .i64 2,.int .i64 2,.int .i64 0,.int .i64 2,.int .i64 3] 4 .shared],.int .i64 3,.int .i64 2] (.bool true)
theorem aiE:qz Go.Proofs.Tryz.prog YE:=rL (p:=16) (by kernel_rfl)
def YF:qt:=.pure 100 [.bU [.int .i64 4,.ay [.int .i64 0,.int .i64 1,.int .i64 1,.int .i64 2,.int .i64 2,.int .i64 0,.int .i64 2,.int .i64 3] 4 .shared],.int .i64 3,.int .i64 3] (.bool true)
theorem aiF:qz Go.Proofs.Tryz.prog YF:=rL (p:=16) (by kernel_rfl)
def YH:qt:=.pure 100 [.bU [.int .i64 5,.ay [.int .i64 0,.int .i64 1,.int .i64 2,.int .i64 3,.int .i64 4,.int .i64 4] 3 .shared],.int .i64 0,.int .i64 0] (.bool true)
theorem aiJ:qz Go.Proofs.Tryz.prog YH:=rL (p:=16) (by kernel_rfl)
def YI:qt:=.pure 100 [.bU [.int .i64 5,.ay [.int .i64 0,.int .i64 1,.int .i64 2,.int .i64 3,.int .i64 4,.int .i64 4] 3 .shared],.int .i64 0,.int .i64 1] (.bool false)
theorem aiK:qz Go.Proofs.Tryz.prog YI:=rL (p:=16) (by kernel_rfl)
def YJ:qt:=.pure 100 [.bU [.int .i64 5,.ay [.int .i64 0,.int .i64 1,.int .i64 2,.int .i64 3,.int .i64 4,.int .i64 4] 3 .shared],.int .i64 0,.int .i64 2] (.bool false)
theorem aiL:qz Go.Proofs.Tryz.prog YJ:=rL (p:=16) (by kernel_rfl)
def YK:qt:=.pure 100 [.bU [.int .i64 5,.ay [.int .i64 0,.int .i64 1,.int .i64 2,.int .i64 3,.int .i64 4,.int .i64 4] 3 .shared],.int .i64 1,.int .i64 0] (.bool false)
theorem aiM:qz Go.Proofs.Tryz.prog YK:=rL (p:=16) (by kernel_rfl)
def YL:qt:=.pure 100 [.bU [.int .i64 5,.ay [.int .i64 0,.int .i64 1,.int .i64 2,.int .i64 3,.int .i64 4,.int .i64 4] 3 .shared],.int .i64 1,.int .i64 1] (.bool true)
theorem aiN:qz Go.Proofs.Tryz.prog YL:=rL (p:=16) (by kernel_rfl)
def YM:qt:=.pure 100 [.bU [.int .i64 5,.ay [.int .i64 0,.int .i64 1,.int .i64 2,.int .i64 3,.int .i64 4,.int .i64 4] 3 .shared],.int .i64 1,.int .i64 2] (.bool false)
theorem aiO:qz Go.Proofs.Tryz.prog YM:=rL (p:=16) (by kernel_rfl)
def YN:qt:=.pure 100 [.bU [.int .i64 5,.ay [.int .i64 0,.int .i64 1,.int .i64 2,.int .i64 3,.int .i64 4,.int .i64 4] 3 .shared],.int .i64 2,.int .i64 0] (.bool false)
theorem aiP:qz Go.Proofs.Tryz.prog YN:=rL (p:=16) (by kernel_rfl)
def YO:qt:=.pure 100 [.bU [.int .i64 5,.ay [.int .i64 0,.int .i64 1,.int .i64 2,.int .i64 3,.int .i64 4,.int .i64 4] 3 .shared],.int .i64 2,.int .i64 1] (.bool false)
theorem aiQ:qz Go.Proofs.Tryz.prog YO:=rL (p:=16) (by kernel_rfl)
def YP:qt:=.pure 100 [.bU [.int .i64 5,.ay [.int .i64 0,.int .i64 1,.int .i64 2,.int .i64 3,.int .i64 4,.int .i64 4] 3 .shared],.int .i64 2,.int .i64 2] (.bool true)
theorem aiR:qz Go.Proofs.Tryz.prog YP:=rL (p:=16) (by kernel_rfl)
def YQ:qt:=.pure 100 [.bU [.int .i64 2,.ay [.int .i64 0,.int .i64 1,.int .i64 1,.int .i64 0] 2 .shared],.int .i64 0,.int .i64 0] (.bool true)
theorem aiS:qz Go.Proofs.Tryz.prog YQ:=rL (p:=16) (by kernel_rfl)
def YR:qt:=.pure 100 [.bU [.int .i64 2,.ay [.int .i64 0,.int .i64 1,.int .i64 1,.int .i64 0] 2 .shared],.int .i64 0,.int .i64 1] (.bool true)
theorem aiT:qz Go.Proofs.Tryz.prog YR:=rL (p:=16) (by kernel_rfl)
def YS:qt:=.pure 100 [.bU [.int .i64 2,.ay [.int .i64 0,.int .i64 1,.int .i64 1,.int .i64 0] 2 .shared],.int .i64 1,.int .i64 0] (.bool true)
theorem aiU:qz Go.Proofs.Tryz.prog YS:=rL (p:=16) (by kernel_rfl)
def YT:qt:=.pure 100 [.bU [.int .i64 2,.ay [.int .i64 0,.int .i64 1,.int .i64 1,.int .i64 0] 2 .shared],.int .i64 1,.int .i64 1] (.bool true)
theorem aiV:qz Go.Proofs.Tryz.prog YT:=rL (p:=16) (by kernel_rfl)
def YZ:List qt:=[Yq,Yr,Ys,Yt,Yu,Yv,Yw,Yx,Yy,Yz,YA,YB,YC,YD,YE,YF,YH,YI,YJ,YK,YL,YM,YN,YO,YP,YQ,YR,YS,YT]
theorem G1:∀ e∈YZ,qz Go.Proofs.Tryz.prog e:=by
 simp only [YZ,List.forall_mem_cons];exact ⟨aiq,air,ais,ait,aiu,aiv,aiw,aix,aiy,aiz,aiA,aiB,aiC,aiD,aiE,aiF,aiJ,aiK,aiL,aiM,aiN,aiO,aiP,aiQ,aiR,aiS,aiT,aiU,aiV,by simp⟩
end Go.Proofs.YtfakoboiahbhaaaGreat.Ab


namespace Go.Proofs.YtfakoboiahbhaaaGreat.Ab
open Go
def bC:qt:=.pure 18 [.agg [.int .i64 4,.ay [.int .i64 0,.int .i64 1,.int .i64 1,.int .i64 2,.int .i64 2,.int .i64 0,.int .i64 2,.int .i64 3] 4 .shared],.ay [.int .i64 0,.int .i64 0,.int .i64 1,.int .i64 0,.int .i64 3,.int .i64 0] 3 .shared] (.tuple [.int .i64 0,.int .i64 3,.int .i64 0])
theorem ajq:qz Go.Proofs.Tryz.prog bC:=rX G1 (by kernel_rfl)
def bT:qt:=.pure 18 [.agg [.int .i64 4,.ay [.int .i64 0,.int .i64 1,.int .i64 1,.int .i64 2,.int .i64 2,.int .i64 0,.int .i64 2,.int .i64 3] 4 .shared],.ay [.int .i64 0,.int .i64 0,.int .i64 1,.int .i64 0,.int .i64 2,.int .i64 0,.int .i64 0,.int .i64 0] 4 .shared] (.tuple [.int .i64 0,.int .i64 0,.int .i64 11])
theorem ajv:qz Go.Proofs.Tryz.prog bT:=rX G1 (by kernel_rfl)
def rR:qt:=.pure 18 [.agg [.int .i64 4,.ay [.int .i64 0,.int .i64 1,.int .i64 1,.int .i64 2,.int .i64 2,.int .i64 0,.int .i64 2,.int .i64 3] 4 .shared],.ay [.int .i64 0,.int .i64 0,.int .i64 2,.int .i64 0] 2 .shared] (.tuple [.int .i64 0,.int .i64 0,.int .i64 27])
theorem ajw:qz Go.Proofs.Tryz.prog rR:=rX G1 (by kernel_rfl)
def IX:qt:=.pure 18 [.agg [.int .i64 4,.ay [.int .i64 0,.int .i64 1,.int .i64 1,.int .i64 2,.int .i64 2,.int .i64 0,.int .i64 2,.int .i64 3] 4 .shared],.ay [.int .i64 0,.int .i64 0,.int .i64 4,.int .i64 0] 2 .shared] (.tuple [.int .i64 0,.int .i64 0,.int .i64 3])
theorem ajx:qz Go.Proofs.Tryz.prog IX:=rX G1 (by kernel_rfl)
def M0:qt:=.pure 18 [.agg [.int .i64 4,.ay [.int .i64 0,.int .i64 1,.int .i64 1,.int .i64 2,.int .i64 2,.int .i64 0,.int .i64 2,.int .i64 3] 4 .shared],.ay [] 0 .shared] (.tuple [.int .i64 0,.int .i64 0,.int .i64 6])
theorem ajy:qz Go.Proofs.Tryz.prog M0:=rX G1 (by kernel_rfl)
def Zh:qt:=.pure 25 [.agg [.int .i64 4,.ay [.int .i64 0,.int .i64 1,.int .i64 1,.int .i64 2,.int .i64 2,.int .i64 0,.int .i64 2,.int .i64 3] 4 .shared],.ay [.ay [.int .i64 0,.int .i64 0,.int .i64 1,.int .i64 0,.int .i64 3,.int .i64 0] 3 .shared,.ay [.int .i64 2,.int .i64 0] 1 .shared] 2 .shared] (.tuple [.int .i64 2,.int .i64 0])
theorem ajz:qz Go.Proofs.Tryz.prog Zh:=rX G1 (by kernel_rfl)
def Zi:qt:=.pure 25 [.agg [.int .i64 4,.ay [.int .i64 0,.int .i64 1,.int .i64 1,.int .i64 2,.int .i64 2,.int .i64 0,.int .i64 2,.int .i64 3] 4 .shared],.ay [.ay [.int .i64 0,.int .i64 0,.int .i64 1,.int .i64 0,.int .i64 3,.int .i64 0] 3 .shared] 1 .shared] (.tuple [.int .i64 0,.int .i64 15])
theorem ajA:qz Go.Proofs.Tryz.prog Zi:=rX G1 (by kernel_rfl)
def Zj:qt:=.pure 25 [.agg [.int .i64 4,.ay [.int .i64 0,.int .i64 1,.int .i64 1,.int .i64 2,.int .i64 2,.int .i64 0,.int .i64 2,.int .i64 3] 4 .shared],.ay [.ay [.int .i64 0,.int .i64 0,.int .i64 1,.int .i64 0,.int .i64 3,.int .i64 0] 3 .shared,.ay [.int .i64 2,.int .i64 0,.int .i64 0,.int .i64 0] 2 .shared] 2 .shared] (.tuple [.int .i64 0,.int .i64 11])
theorem ajB:qz Go.Proofs.Tryz.prog Zj:=rX G1 (by kernel_rfl)
def Zk:qt:=.pure 22 [.agg [.int .i64 2,.ay [.int .i64 0,.int .i64 1,.int .i64 1,.int .i64 0] 2 .shared],.ay [.int .i64 0,.int .i64 0,.int .i64 1,.int .i64 0] 2 .shared] (.int .i64 0)
theorem ajC:qz Go.Proofs.Tryz.prog Zk:=rX G1 (by kernel_rfl)
def Y5:qt:=.pure 22 [.agg [.int .i64 2,.ay [.int .i64 0,.int .i64 1,.int .i64 1,.int .i64 0] 2 .shared],.ay [.int .i64 0,.int .i64 0] 1 .shared] (.int .i64 15)
theorem ajg:qz Go.Proofs.Tryz.prog Y5:=rX G1 (by kernel_rfl)
def Y6:qt:=.pure 27 [.agg [.int .i64 4,.ay [.int .i64 0,.int .i64 1,.int .i64 1,.int .i64 2,.int .i64 2,.int .i64 0,.int .i64 2,.int .i64 3] 4 .shared]] (.tuple [.ay [.int .i64 2,.int .i64 3] 2 .full,.int .i64 0])
theorem ajh:qz Go.Proofs.Tryz.prog Y6:=rX G1 (by kernel_rfl)
def Y7:qt:=.pure 29 [.agg [.int .i64 5,.ay [.int .i64 0,.int .i64 1,.int .i64 2,.int .i64 3,.int .i64 4,.int .i64 4] 3 .shared]] (.tuple [.ay [.ay [.int .i64 0] 1 .shared,.ay [.int .i64 1] 1 .shared,.ay [.int .i64 2] 1 .shared] 3 .shared,.int .i64 0])
theorem aji:qz Go.Proofs.Tryz.prog Y7:=rX G1 (by kernel_rfl)
def Y8:qt:=.pure 35 [.agg [.int .i64 5,.ay [.int .i64 0,.int .i64 1,.int .i64 2,.int .i64 3,.int .i64 4,.int .i64 4] 3 .shared]] (.tuple [.int .i64 3,.int .i64 0])
theorem ajj:qz Go.Proofs.Tryz.prog Y8:=rX G1 (by kernel_rfl)
def Y9:qt:=.pure 41 [.agg [.int .i64 5,.ay [.int .i64 0,.int .i64 1,.int .i64 2,.int .i64 3,.int .i64 4,.int .i64 4] 3 .shared]] (.tuple [.ay [.ay [.int .i64 0,.int .i64 0] 1 .shared,.ay [.int .i64 1,.int .i64 0] 1 .shared,.ay [.int .i64 2,.int .i64 0] 1 .shared] 3 .shared,.int .i64 0])
theorem ajk:qz Go.Proofs.Tryz.prog Y9:=rX G1 (by kernel_rfl)
def Y':qt:=.pure 37 [.agg [.int .i64 5,.ay [.int .i64 0,.int .i64 1,.int .i64 2,.int .i64 3,.int .i64 4,.int .i64 4] 3 .shared]] (.tuple [.ay [] 0 .shared,.int .i64 27])
theorem ajm:qz Go.Proofs.Tryz.prog Y':=rX G1 (by kernel_rfl)
def Za:qt:=.pure 42 [.agg [.int .i64 2,.ay [.int .i64 0,.int .i64 1,.int .i64 1,.int .i64 0] 2 .shared]] (.tuple [.ay [.int .i64 0,.int .i64 0,.int .i64 1,.int .i64 0] 2 .shared,.int .i64 0])
theorem ajn:qz Go.Proofs.Tryz.prog Za:=rX G1 (by kernel_rfl)
def Zc:qt:=.pure 39 [.agg [.int .i64 5,.ay [.int .i64 0,.int .i64 1,.int .i64 2,.int .i64 3,.int .i64 4,.int .i64 4] 3 .shared]] (.tuple [.int .i64 3,.int .i64 0])
theorem ajp:qz Go.Proofs.Tryz.prog Zc:=rX G1 (by kernel_rfl)
def Zd:qt:=.pure 31 [.agg [.int .i64 4,.ay [.int .i64 0,.int .i64 1,.int .i64 1,.int .i64 2,.int .i64 2,.int .i64 0,.int .i64 2,.int .i64 3] 4 .shared]] (.tuple [.ay [.int .i64 3] 1 .shared,.int .i64 0])
theorem ajr:qz Go.Proofs.Tryz.prog Zd:=rX G1 (by kernel_rfl)
def Ze:qt:=.pure 45 [.agg [.int .i64 4,.ay [.int .i64 0,.int .i64 1,.int .i64 1,.int .i64 2,.int .i64 2,.int .i64 0,.int .i64 2,.int .i64 3] 4 .shared],.int .i64 0,.int .i64 3] (.tuple [.ay [.int .i64 2,.int .i64 1,.int .i64 3,.int .i64 0] 2 .shared,.int .i64 0])
theorem ajs:qz Go.Proofs.Tryz.prog Ze:=rX G1 (by kernel_rfl)
def Zf:qt:=.pure 45 [.agg [.int .i64 4,.ay [.int .i64 0,.int .i64 1,.int .i64 1,.int .i64 2,.int .i64 2,.int .i64 0,.int .i64 2,.int .i64 3] 4 .shared],.int .i64 1,.int .i64 1] (.tuple [.ay [] 0 .shared,.int .i64 2])
theorem ajt:qz Go.Proofs.Tryz.prog Zf:=rX G1 (by kernel_rfl)
def Zg:qt:=.pure 45 [.agg [.int .i64 5,.ay [.int .i64 0,.int .i64 1,.int .i64 2,.int .i64 3,.int .i64 4,.int .i64 4] 3 .shared],.int .i64 0,.int .i64 2] (.tuple [.ay [] 0 .shared,.int .i64 5])
theorem aju:qz Go.Proofs.Tryz.prog Zg:=rX G1 (by kernel_rfl)
end Go.Proofs.YtfakoboiahbhaaaGreat.Ab
