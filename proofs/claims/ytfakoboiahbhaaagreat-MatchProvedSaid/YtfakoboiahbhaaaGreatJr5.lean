
import Derived.Test.YtfakoboiahbhaaaGreatJr4
import Derived.Test.YtfakoboiahbhaaaGreatProg
import Derived.KernelRfl
import Derived.Test.YtfakoboiahbhaaaGreatJr3
set_option linter.unusedSimpArgs false
set_option linter.unusedVariables false
set_option linter.unusedSectionVars false

open List renaming getElem?_eq_some_iff→ss,map_cons→sy
open Nat renaming blt_eq→tR,zero_le→sK
open Option renaming bind_eq_some_iff→sC
namespace Go.Proofs.YtfakoboiahbhaaaGreat.Ab
open Go
noncomputable def UR:eE :=
 .j_ false [Gt 30 9,Gt 31 11,gV 32 [.hP 30,.hP 31] (.app 1 8),Gt 9 32]
noncomputable def QB:eE :=
 .block 3 (GD [gV 25 [.sl 21,.sl 23] (.pV 1),Gq 26 25,Gt 11 26] (GD [Gs 27 8,Gs 28 11,gV 29 [.sl 27,.sl 28] (.call 6)] (.cond (.sl 29) UR .skip)))
noncomputable def US:eE :=
 .j_ false [Gt 36 5, Gt 37 8, gV 38 [.iK (.func 101 [] []), .hP 36, .hP 37] (.call 1), ⟨some 39, [.hP 9], none, some 9, .other (Oper.mk (some 39) (Op.move (Operand.tmp 9)) 38 "table.go:86" (Array.mk []) none) 2⟩, gV 40 [.hS 39] (.yg 1 1 [.ay [] 0 .full] [0]), gV 41 [.hP 38, .hP 40] (.x_ 1 24), Gt 5 41]
noncomputable def Nu:eE :=
 .loop (some (ED false [2,1,2,1,2,2,2,3,6,3,22])) (GD [gV 24 [.sl 23,.sl 22] (.bin .lss)] (.seq (.cond (.sl 24) .skip (.exit 2)) (.seq QB (Gw [F3 33 23 1,Gt 23 33]))))
noncomputable def QD:eE :=
 GD [⟨some 34,[.hP 9],none,some 9,.A'⟩,gV 35 [.iK (.func 73 [] []),.hP 34] (.call 1)] US
noncomputable def UT:eE :=
 .seq (GD [Gs 21 5,gV 22 [.sl 21] .xe,Gr 23 0] (.block 2 Nu)) QD
noncomputable def UU:eE :=
 GD [gV 18 [.sl 2,.sl 7] (.zC 98 0 2),Gt 8 18] (GD [Gq 19 7,gV 20 [.hS 19] (.yg 1 1 [.int .i64 0] [0]),Gt 9 20] UT)
noncomputable def UW:eE :=
 .block 1 (GD [gV 16 [.sl 12,.sl 14] (.pV 1),Gq 17 16,gV 7 [] (.alloc [.int .i64 0]),⟨none,[.sl 7,.hP 17],none,none,.st 1⟩] UU)
noncomputable def UX:eE :=
 GD [Gs 43 5, gV 44 [.iK (.func 102 [] []), .hP 43, .iK (.func 103 [] [])] (.call 1)] (GD [⟨some 45, [.hP 5], none, some 5, .other (Oper.mk (some 45) (Op.move (Operand.tmp 5)) 41 "table.go:89" (Array.mk []) none) 2⟩, Gt 4 45] .ret)
noncomputable def QC:eE :=
 .loop (some (ED false [2,1,2,1,6,3,31])) (GD [gV 15 [.sl 14,.sl 13] (.bin .lss)] (.seq (.cond (.sl 15) .skip (.exit 0)) (.seq UW (Gw [F3 42 14 1,Gt 14 42]))))
noncomputable def UY:eE :=
 .seq (GD [Gt 12 1,gV 13 [.sl 12] .xe,Gr 14 0] (.block 0 QC)) UX
noncomputable def Zr:eE :=
 GD [gV 2 [.hP 0] .box,gV 4 [.iK (.ay [] 0 .full)] (.nil 1)] (GD [gV 5 [.iK (.ay [] 0 .full)] .A'] UY)
theorem ag9:zm Go.Proofs.Tryz.prog MT 79=some (Zr,46,[.tmp 4]):=by kernel_rfl
end Go.Proofs.YtfakoboiahbhaaaGreat.Ab


namespace Go.Proofs.YtfakoboiahbhaaaGreat.Ab
open Go
set_option maxRecDepth 20000
set_option maxHeartbeats 4000000
noncomputable def Rq:eE :=
 .loop (some (ED false [0,2,5,2,10])) (GD [gV 9 [.sl 8,.sl 7] (.bin .lss)] (.seq (.cond (.sl 9) .skip (.exit 0)) (.seq (.block 1 (GD [Gs 10 8,Gt 5 10] (GD [Gs 11 1,Gs 12 0,Gs 13 5,Gl 14 12 13 1,Gq 15 14,gV 16 [.sl 11,.sl 15] (.call 6)] (.cond (.sl 16) (GD [Gt 17 5,Gt 4 17] .ret) .skip)))) (Gw [F3 18 8 1,Gt 8 18]))))
noncomputable def acr:eE :=
 GD [Gr 4 0] (.seq (GD [Gs 6 0,Gp 7 6,Gr 8 0] (.block 0 Rq)) (GD [Gr 4 (-1)] .ret))
theorem ahl:zm Tryz.prog R8 114=some (acr,19,[.tmp 4]):=by kernel_rfl
def Mi (s:ql) (f:(Int→Option Bool)) (qi:Unit→Option Int):Nat→Int→Option Int
 | 0,_=>none
 | m+1,s1 =>
   if (decide (s1<(s.length:Int)))=true then
    qh (0≤s1∧s1<(s.length:Int)) <|
    (f (ix s s1)).bind fun r1 =>
    if r1=true then
     some s1
    else
     Mi s f qi m (w (s1+(1:Int)))
   else
    qi ()
def NL (s:ql) (f:(Int→Option Bool)):Option Int :=
 Mi s f (fun _ =>
   some (-1:Int)) qe (0:Int)
theorem alI {s:ql} {f:(Int→Option Bool)} {qi:Unit→Option Int} {s1:Int} {r5:FuncId} {rp:List I} (sd:GN rp) (Ig:∀ (q1:Int) (r:Bool),f q1=some r→qD r5 ((hY q1)::rp) (B r)) {v:Int} {Q:q8}   (jG:qK [.tmp 4] Q (fun v=>(hY v)) v) (rD:∀ (p8:List I),qi ()=some v→qO 19 [] p8→Q (.exit 0) p8 []) {T:List I} (bZ:eX (ED false [0,2,5,2,10]) T=GI 19 [(0,(qG s .shared)),(1,(.func r5 [] rp)),(7,(hY (s.length:Int))),(8,(hY s1))]) (h:Mi s f qi qe s1=some v) :
  dG Tryz.prog R8 114 0 none Rq T [] Q:=by
 unfold Rq;refine wp_loop bZ ?_;refine .intro (fun m T H=>∃ (s1:Int),T=GI 19 [(0,(qG s .shared)),(1,(.func r5 [] rp)),(7,(hY (s.length:Int))),(8,(hY s1))]∧H=[]∧Mi s f qi m s1=some v) qe ⟨s1,rfl,rfl,h⟩ ?_;clear h bZ;rintro m T H ⟨s1,rfl,rfl,h⟩;cases m
 ·exact q_ h
 rename_i m;rw [Mi.eq_2] at h;conv=>whnf
 refine bs h (fun e0 h=>?_) fun e0 h=>?_
 ·rw [e0];conv=>whnf
  refine qw h id fun fs h=>?_;rw [rS hY s s1 fs];conv=>whnf
  obtain ⟨r1,qp,h⟩:=qj h;refine ⟨_,_,call6 (bs:=((hY (ix s s1))::rp)) (by simp only [sy,sd.iz,sd.cu];rfl) (by simp only [sy,sd.iz];exact (p5 rfl sd.MS)) (Ig _ _ qp) rfl,?_⟩;conv=>whnf
  cases r1
  ·(conv=>whnf);replace h:=r0 rfl h;exact ⟨m,Nat.lt_succ_self m,(w (s1+(1:Int))),rfl,rfl,h⟩
  ·(conv=>whnf);replace h:=rZ rfl h;exact qc h jG rfl rfl
 ·rw [e0];conv=>whnf
  exact rD  _ h ⟨rfl,rfl⟩
theorem VE {s:ql} {f:(Int→Option Bool)} {r5:FuncId} {rp:List I} (sd:GN rp) (Ig:∀ (q1:Int) (r:Bool),f q1=some r→qD r5 ((hY q1)::rp) (B r)) {v:Int} (h:NL s f=some v):qD 114 [(.ay (s.map hY) s.length .shared),(.func r5 [] rp)] (hY v):=by
 refine qZ dM ahl rfl rfl fun Q bo=>?_;have jG:qK [.tmp 4] Q (fun v=>(hY v)) v:=fun T H bK=>bo _ T H bK;unfold NL at h;unfold acr;obtain ⟨HD,qS⟩:∃ c,Rq=c:=⟨_,rfl⟩;rw [qS];conv=>whnf
 subst qS;refine alI sd Ig ?_ ?_ (by exact rfl) h
 ·exact fun T H bK=>jG T H bK
 ·intro  p8 h qf;obtain ⟨qJ,rfl⟩:=qf.ex;conv=>whnf
  exact qc h jG rfl rfl

noncomputable def ac7:eE :=
 GD [gV 4 [.iK (.bool false)] .i_] (GD [Gt 5 0,Gt 6 1,gV 7 [.iK (.func 114 [] []),.sl 5,.sl 6] (.call 6),F4 8 7 0 .geq,Gt 4 8] .ret)
theorem ah0:zm Tryz.prog W2 92=some (ac7,9,[.tmp 4]):=by kernel_rfl
def K4 (s:ql) (f:(Int→Option Bool)):Option Bool :=
 (NL s f).bind fun r1 =>
 some (decide ((0:Int)≤r1))
theorem Ri {s:ql} {f:(Int→Option Bool)} {r5:FuncId} {rp:List I} (sd:GN rp) (Ig:∀ (q1:Int) (r:Bool),f q1=some r→qD r5 ((hY q1)::rp) (B r)) {v:Bool} (h:K4 s f=some v):qD 92 [(.ay (s.map hY) s.length .shared),(.func r5 [] rp)] (B v):=by
 refine qZ dM ah0 rfl rfl fun Q bo=>?_;have jG:qK [.tmp 4] Q (fun v=>(B v)) v:=fun T H bK=>bo _ T H bK;unfold K4 at h;unfold ac7;conv=>whnf
 obtain ⟨r1,e0,h⟩:=qj h;refine ⟨_,_,IS (cs:=[(qG s .shared),(.func r5 [] rp)]) (bs:=[(qG s .shared),(.func r5 [] rp)]) (rB rfl (rB (sd.fn _ _) r6)) (by rfl) (by exact (p5 (rO (fun _=>rfl) _ _ _) (p5 (sd.OQ _) rfl))) (VE sd Ig e0) rfl,?_⟩;conv=>whnf
 exact qc h jG rfl rfl
end Go.Proofs.YtfakoboiahbhaaaGreat.Ab


namespace Go.Proofs.YtfakoboiahbhaaaGreat.Ab
open Go
section
variable {P:Program} {B N:Nat} {J:List Nat} {w:World} {U:Nat→Option aI} {S:Nat→Nat→Prop}
theorem aiO {k : Nat} {f : Func} {c : Code} (aQ : P.funcs[k]? = some f) (ag : f.body = some c) (aN : f.name ≠ "runtime.NumGoroutine")
  {args:List I} {v:I} (aC:ct 8 v=true) {K:cE→a7→Prop}
  (ai:∀ (Q:Exit→Act→World→Prop) (B N:Nat) (J:List Nat) (w:World) (U:Nat→Option aI) (S:Nat→Nat→Prop) (a:Act),(∀ l a w,¬ Q (.goto l) a w)→cv B N U J S w ⟨args++List.replicate (f.ntmps-args.length) .junk,[]⟩ a →
   (∀ e aF,K e aF→∀ aM w',Step B N U J S w aF aM w'→Q (toExit e) aM w')→c.wpIn Fence.wide 0 P Q a w)
  (fJ:∀ e s,K e s→(e=.normal∨e=.ret)∧∃ vs r,fl P s.H s.T f.results.toList=some vs∧bL s.H 0 s.H.length 0 8 (hk vs)=some r∧(r=v∨r.settle=v)):lv P k args v:=by
 refine ⟨⟨bd.refl _ _,⟨f,aQ,by simp [ag],aN⟩,fun B U J S w xs ah _ ae=>?_⟩,aC⟩;refine callsIn_of_wp_marks aQ ag trivial ?_;have aK:=xU ah ae f.ntmps;have de:=(oq ah).1;refine ai _ B w.heap.size J w (hR U) S _ (fun l a w aO=>aO.elim) aK fun e s av aM w' ai=>?_;obtain ⟨he,vs,r,aj,Cx,eo⟩:=fJ e s av;obtain ⟨b4,cT,a6,aJ,aP,cb⟩:=ai;have iS:LeavesInM Fence.wide 0 P f aM.tmps (fA B U J S w [] v) aM.defers .returning w':=by
  refine nN (U:=b4) (S:=a6) (J:=cT) (B:=B) (H:=s.H) (lu:=U) (S0:=S) (w0:=w) aM.defers w' cb.M.2.1 cb.M.2.2 (de.trans aP) cb.H fun bV dx dq mu mv=>?_
  have bZ:a' .slot b4 cT a6 bV s.T aM.tmps.toList:=⟨cb.T.len,fun i u v hu ae=>(cb.T.rel i u v hu ae).mono (Ext.refl _) (fun b o h=>⟨h,dq b o h⟩),fun i u v hu ae =>
   (cb.T.own i u v hu ae).mono (Ext.refl _) (fun b o h=>⟨h,dq b o h⟩) fun b ag=>⟨ag,dx b _ ag,fun _ h=>h⟩⟩
  obtain ⟨x,aV,aX⟩:=xy mv bZ aj;have nA:=xo ah (fun id aE=>by simp at aE) Cx (a3.after aJ mu aX);refine ⟨x,aV,?_⟩;rcases eo with rfl | eo
  ·exact nA
  ·cases r with
   | ay cells len gE =>
     cases gE with
     | uniq z=>simp only [I.settle] at eo;subst eo;exact nA.settle
     | _=>simp only [I.settle] at eo;subst eo;exact nA
   | _=>simp only [I.settle] at eo;subst eo;exact nA
 rcases he with rfl | rfl
 ·exact iS
 ·exact iS
end
theorem Qi (P:Program):dc P (fun _ _ _ _=>none):=⟨fun h=>by simp at h,fun h=>by simp at h⟩
noncomputable def Qm (f:Func):Option (cE×a7)→Option I
 | some (.normal,s) | some (.ret,s)=>(fl Go.Proofs.Tryz.prog s.H s.T f.results.toList).bind fun vs=>bL s.H 0 s.H.length 0 8 (hk vs)
 | _=>none
theorem Y1 {f:Func} {x:Option (cE×a7)} {v:I} (h:Qm f x=some v):∃ e s,x=some (e,s)∧(e=.normal∨e=.ret)∧∃ vs,fl Go.Proofs.Tryz.prog s.H s.T f.results.toList=some vs∧bL s.H 0 s.H.length 0 8 (hk vs)=some v:=by
 unfold Qm at h;split at h
 ·simp only [sC] at h;obtain ⟨vs,ad,af⟩:=h;exact ⟨_,_,rfl,.inl rfl,vs,ad,af⟩
 ·simp only [sC] at h;obtain ⟨vs,ad,af⟩:=h;exact ⟨_,_,rfl,.inr rfl,vs,ad,af⟩
 ·cases h
noncomputable def ZH (k p:Nat) (args:List I):Option I:=match Go.Proofs.Tryz.prog.funcs[k]? with
 | some f=>match f.body with
   | some (.seq hK (.seq (.region id ops true) rest)) =>
     match codeOk (jz k) hK, codeOk (jz k) rest, f.name == "runtime.NumGoroutine", Nat.blt (p + 1) ops.size, ng ops ((jz k).ops.getD id []) p (p + 1) with
     | true,true,false,true,true =>
       match exec Go.Proofs.Tryz.prog (jz k) (fun _ _ _ _=>none) k 0 9 none hK 0 ⟨args++List.replicate (f.ntmps-args.length) .junk,[]⟩ with
       | some (.normal,Vg) =>
         match cy Go.Proofs.Tryz.prog (fun _ _ _ _=>none) 0 ops ((jz k).ops.getD id []) (List.range ops.size) Vg,cy Go.Proofs.Tryz.prog (fun _ _ _ _=>none) 0 ops ((jz k).ops.getD id []) (fm ops.size p (p+1)) Vg with
         | some s1,some s2 =>
           match Qm f (exec Go.Proofs.Tryz.prog (jz k) (fun _ _ _ _=>none) k 0 9 none rest 0 s1),Qm f (exec Go.Proofs.Tryz.prog (jz k) (fun _ _ _ _=>none) k 0 9 none rest 0 s2) with
           | some u,some v=>match IQ 20 u v,ct 8 u with
             | true,true=>some u
             | _,_=>none
           | _,_=>none
         | _,_=>none
       | _=>none
     | _,_,_,_,_=>none
   | _=>none
 | none=>none
theorem GR {k p:Nat} {args:List I} {v:I} (h:ZH k p args=some v):lv Go.Proofs.Tryz.prog k args v:=by
 unfold ZH at h;split at h
 ·rename_i f aQ;split at h
  ·rename_i hK id ops rest ag;split at h
   ·rename_i bc bn bu b9 d';split at h
    ·rename_i Vg agJ;split at h
     ·rename_i s1 s2 dv C0;split at h
      ·rename_i u bw jR pI;split at h
       ·rename_i heq aC;have e:=MU 20 _ _ heq;subst e;cases h;obtain ⟨e1,t1,y9,OD,akZ,ed,M8⟩:=Y1 jR;obtain ⟨cm,t2,iX,M7,mZ,dF,Cr⟩:=Y1 pI;refine aiO aQ ag (by simpa using bu) aC (K:=fun e s=>(e=e1∧s=t1)∨(e=cm∧s=t2)) (fun Q B N J w U S a aO aK bo=>?_) (fun e s av=>?_)
        ·have Gi:=dM;refine wpIn_seq (nj (Qi _) Gi hK 0 _ _ _ agJ bc Fence.wide _ B N J w U S a (.inl ⟨rfl,rfl⟩) (fun l a w=>aO l a w) aK fun aM w' ai=>?_);obtain ⟨b4,cT,a6,aJ,aP,cb⟩:=ai;refine wpIn_seq (El (jq.lN (J:=cT) (rl:=none) (.inl ⟨rfl,rfl⟩)) Gi (Qi _) (by simpa [tR] using b9) d' dv C0 cb fun aF g8 aH bV dR=>?_);obtain ⟨bq,cj,bJ,cl,jW,o4⟩:=dR;rcases g8 with rfl | rfl
         ·exact nj (Qi _) Gi rest 0 _ _ _ y9 bn Fence.wide Q B N cj bV bq bJ aH (.inl ⟨rfl,rfl⟩) aO o4 fun aR GZ C_=>bo _ _ (.inl ⟨rfl,rfl⟩) aR GZ ((C_.trans cl jW).trans aJ aP)
         ·exact nj (Qi _) Gi rest 0 _ _ _ iX bn Fence.wide Q B N cj bV bq bJ aH (.inl ⟨rfl,rfl⟩) aO o4 fun aR GZ C_=>bo _ _ (.inr ⟨rfl,rfl⟩) aR GZ ((C_.trans cl jW).trans aJ aP)
        ·rcases av with ⟨rfl,rfl⟩ | ⟨rfl,rfl⟩
         ·exact ⟨OD,akZ,_,ed,M8,.inl rfl⟩
         ·exact ⟨M7,mZ,_,dF,Cr,.inl rfl⟩
       ·cases h
      ·cases h
     ·cases h
    ·cases h
   ·cases h
  ·cases h
 ·cases h
end Go.Proofs.YtfakoboiahbhaaaGreat.Ab


namespace Go.Proofs.YtfakoboiahbhaaaGreat.Ab
open Go
section
variable {P:Program}
theorem TI {lo:Nat} {ops:Array Oper} {an:List b7}:∀ {O:List Nat} {rl:List cz} {acc:dm} {T:List I} {H:List au} {K:List I→List au→Prop},fj P ops an O=some rl→ht P acc→gO P lo true rl acc T H K →
  ∃ dB a9 H',ht P dB∧(∀ p∈acc,p∈dB)∧(∀ C,hV C dB→cy P C lo ops an O ⟨T,H⟩=some ⟨a9,H'⟩)∧K a9 H'
 | [],rl,acc,T,H,K,ak,cg,h=>by simp only [fj,Option.some.injEq] at ak;subst ak;exact ⟨acc,T,H,cg,fun _ h=>h,fun _ _=>rfl,h⟩
 | i::r,rl,acc,T,H,K,ak,cg,h=>by
   simp only [fj] at ak;split at ak
   ·rename_i o hi;split at ak
    ·rename_i cS l' ad af;simp only [Option.some.injEq] at ak;subst ak;obtain ⟨x9,fo,H1,aB,aH,aR,bm⟩:=x3 ad cg h;obtain ⟨oF,dV,a4,br,cL,eF,jA⟩:=TI af aB bm;refine ⟨oF,dV,a4,br,fun p aC=>cL p (aH p aC),fun C ck=>?_,jA⟩;simp only [cy,hi];rw [aR C (fun p aC=>ck p (cL p aC)),Option.bind_some];exact eF C ck
    ·cases ak
   ·cases ak
theorem aiP {k : Nat} {f : Func} {c : Code} (aQ : P.funcs[k]? = some f) (ag : f.body = some c) (aN : f.name ≠ "runtime.NumGoroutine")
  {args:List I} {v:I} (aC:ct 8 v=true) {K:cE→a7→Prop}
  (ai:∀ (Q:Exit→Act→World→Prop) (B N:Nat) (J:List Nat) (w:World) (U:Nat→Option aI) (S:Nat→Nat→Prop) (a:Act),(∀ l a w,¬ Q (.goto l) a w)→cv B N U J S w ⟨args++List.replicate (f.ntmps-args.length) .junk,[]⟩ a →
   (∀ e aF,K e aF→∀ aM w',Step B N U J S w aF aM w'→Q (toExit e) aM w')→c.wpIn Fence.wide 0 P Q a w)
  (fJ:∀ e s,K e s→(e=.normal∨e=.ret)∧∃ vs r,fl P s.H s.T f.results.toList=some vs∧bL s.H 0 s.H.length 0 8 (hk vs)=some r∧r.settle.view.cu=v):lv P k args v:=by
 refine ⟨⟨bd.refl _ _,⟨f,aQ,by simp [ag],aN⟩,fun B U J S w xs ah _ ae=>?_⟩,aC⟩;refine callsIn_of_wp_marks aQ ag trivial ?_;have aK:=xU ah ae f.ntmps;have de:=(oq ah).1;refine ai _ B w.heap.size J w (hR U) S _ (fun l a w aO=>aO.elim) aK fun e s av aM w' ai=>?_;obtain ⟨he,vs,r,aj,Cx,eo⟩:=fJ e s av;obtain ⟨b4,cT,a6,aJ,aP,cb⟩:=ai;have iS:LeavesInM Fence.wide 0 P f aM.tmps (fA B U J S w [] v) aM.defers .returning w':=by
  refine nN (U:=b4) (S:=a6) (J:=cT) (B:=B) (H:=s.H) (lu:=U) (S0:=S) (w0:=w) aM.defers w' cb.M.2.1 cb.M.2.2 (de.trans aP) cb.H fun bV dx dq mu mv=>?_
  have bZ:a' .slot b4 cT a6 bV s.T aM.tmps.toList:=⟨cb.T.len,fun i u v hu ae=>(cb.T.rel i u v hu ae).mono (Ext.refl _) (fun b o h=>⟨h,dq b o h⟩),fun i u v hu ae =>
   (cb.T.own i u v hu ae).mono (Ext.refl _) (fun b o h=>⟨h,dq b o h⟩) fun b ag=>⟨ag,dx b _ ag,fun _ h=>h⟩⟩
  obtain ⟨x,aV,aX⟩:=xy mv bZ aj;have nA:=xo ah (fun id aE=>by simp at aE) Cx (a3.after aJ mu aX);refine ⟨x,aV,?_⟩;rw [←eo];exact nA.aa4
 rcases he with rfl | rfl
 ·exact iS
 ·exact iS
noncomputable def TJ (P:Program) (A:c') (k p:Nat):Option (eE×List cz×List cz×eE×Nat×List jt):=match P.funcs[k]? with
 | some f=>match f.body with
   | some (.seq hK (.seq (.region id ops true) rest)) =>
     match codeOk A hK, codeOk A rest, f.name == "runtime.NumGoroutine", Nat.blt (p + 1) ops.size, ng ops (A.ops.getD id []) p (p + 1) with
     | true,true,false,true,true =>
       match dX P A hK 0,fj P ops (A.ops.getD id []) (List.range ops.size),fj P ops (A.ops.getD id []) (fm ops.size p (p+1)),dX P A rest 0,j' P f.results.toList with
       | some a,some b,some c,some d,some rs=>some (a,b,c,d,f.ntmps,rs)
       | _,_,_,_,_=>none
     | _,_,_,_,_=>none
   | _=>none
 | none=>none
theorem afq (dM:P.follows .mixedOrders=true) {k p:Nat} {A:c'} {zZ rd:eE} {z2 rc:List cz} {n:Nat} {rs:List jt} (ak:TJ P A k p=some (zZ,z2,rc,rd,n,rs)) {args T:List I} (bZ:args++List.replicate (n-args.length) .junk=T) {v:I} (aC:ct 8 v=true)
  (h:∀ Q:cE→List I→List au→Prop,(∀ e T H,IP rs v e T H→Q e T H)→dG P A k 0 none zZ T [] fun e T H=>e=.normal∧gO P 0 true z2 [] T H (fun T H=>dG P A k 0 none rd T H Q)∧∀ acc,gO P 0 true rc acc T H (fun T H=>dG P A k 0 none rd T H Q)):lv P k args v:=by
 unfold TJ at ak;split at ak
 ·rename_i f aQ;split at ak
  ·rename_i hK id ops rest ag;split at ak
   ·rename_i bc bn bu b9 d';split at ak
    ·rename_i a b c d ZC dO kS Nd Yp agZ;simp only [Option.some.injEq,Prod.mk.injEq] at ak;obtain ⟨rfl,rfl,rfl,rfl,rfl,rfl⟩:=ak;subst bZ;have h:=h (fun e T H=>IP ZC v e T H) fun _ _ _ h=>h;refine aiP aQ ag (by simpa using bu) aC (K:=fun e s=>IP ZC v e s.T s.H) (fun Q B N J w U S a aO aK bo=>?_) (fun e s ⟨cd,vs,B3,r,b_,eb⟩=>⟨cd,vs,r,by rw [xr _ _ agZ,B3],b_,eb⟩);refine wpIn_seq (ov dM hK 0 _ _ (xg dO h) bc Fence.wide _ B N J w U S a (.inl ⟨rfl,rfl⟩) (fun l a w=>aO l a w) aK fun e aF av aM w' ai=>?_);obtain ⟨rfl,ad,af⟩:=av;obtain ⟨b4,cT,a6,aJ,aP,cb⟩:=ai;obtain ⟨x9,fo,H1,aB,_,aR,bm⟩:=TI kS ⟨fun p aC=>by simp at aC,fun p aC=>by simp at aC⟩ ad;obtain ⟨oF,dV,a4,br,cL,eF,jA⟩:=TI Nd aB (af x9);obtain ⟨C,bx,ck⟩:=oG br;refine wpIn_seq (El (jq.lN (J:=cT) (rl:=none) (.inl ⟨rfl,rfl⟩)) dM bx (by simpa [tR] using b9) d' (aR C fun p aC=>ck p (cL p aC)) (eF C ck) cb fun aF g8 aH bV dR=>?_);obtain ⟨bq,cj,bJ,cl,jW,o4⟩:=dR;rcases g8 with rfl | rfl
     ·exact ov dM rest 0 _ _ (xg Yp bm) bn Fence.wide Q B N cj bV bq bJ aH (.inl ⟨rfl,rfl⟩) aO o4 fun e s av aR GZ C_=>bo e s av aR GZ ((C_.trans cl jW).trans aJ aP)
     ·exact ov dM rest 0 _ _ (xg Yp jA) bn Fence.wide Q B N cj bV bq bJ aH (.inl ⟨rfl,rfl⟩) aO o4 fun e s av aR GZ C_=>bo e s av aR GZ ((C_.trans cl jW).trans aJ aP)
    ·cases ak
   ·cases ak
  ·cases ak
 ·cases ak
end
end Go.Proofs.YtfakoboiahbhaaaGreat.Ab


namespace Go.Proofs.YtfakoboiahbhaaaGreat.Ab
open Go
set_option maxRecDepth 20000
set_option maxHeartbeats 4000000
noncomputable def ace:eE:=.j_ false [gV 6 [.iK (.bool false)] .i_]
noncomputable def acf:List cz:=[gV 9 [.sl 0] .i_,gV 10 [.hS 9] .zI,gV 11 [.hS 10] (.oY 0),gV 12 [.hS 11] (.oY 1),gV 13 [.hS 12] (.p2 .one),gV 14 [.hP 1] .i_,gV 15 [.hS 13,.hS 14] (.pV 2),gV 16 [.hS 15] (.p2 (.str 2)),gV 17 [.sl 0] .i_,gV 18 [.hS 17] .zI,gV 19 [.hS 18] (.oY 0),gV 20 [.hS 19] (.oY 1),gV 21 [.hS 20] (.zi .one),gV 22 [.hP 2] .i_,gV 23 [.hS 21,.hS 22] (.pV 2),gV 24 [.hS 23] (.zi (.str 2)),gV 7 [] (.alloc [.int .i64 0,.int .i64 0]),gV 8 [] (.alloc [.int .i64 0,.int .i64 0]),⟨none,[.sl 7,.hP 16],none,none,.st 2⟩,⟨none,[.sl 8,.hP 24],none,none,.st 2⟩]
noncomputable def ach:List cz:=[gV 9 [.sl 0] .i_,gV 10 [.hS 9] .zI,gV 11 [.hS 10] (.oY 0),gV 12 [.hS 11] (.oY 1),gV 13 [.hS 12] (.p2 .one),gV 14 [.hP 1] .i_,gV 15 [.hS 13,.hS 14] (.pV 2),gV 16 [.hS 15] (.p2 (.str 2)),gV 17 [.sl 0] .i_,gV 18 [.hS 17] .zI,gV 19 [.hS 18] (.oY 0),gV 20 [.hS 19] (.oY 1),gV 21 [.hS 20] (.zi .one),gV 22 [.hP 2] .i_,gV 23 [.hS 21,.hS 22] (.pV 2),gV 24 [.hS 23] (.zi (.str 2)),gV 8 [] (.alloc [.int .i64 0,.int .i64 0]),gV 7 [] (.alloc [.int .i64 0,.int .i64 0]),⟨none,[.sl 7,.hP 16],none,none,.st 2⟩,⟨none,[.sl 8,.hP 24],none,none,.st 2⟩]
noncomputable def am2:eE:=.seq (.j_ false [gV 25 [.sl 7] (.oY 0),gV 26 [.hS 25] (.p2 .one),gV 27 [.sl 8] (.oY 0),gV 28 [.hS 27] (.p2 .one),gV 29 [.hS 26,.hS 28] (.bin .eql),gV 30 [.hP 29] .i_,⟨some 31,[.sl 7],some (30,false),none,.oY 0⟩,⟨some 32,[.hS 31],some (30,false),none,.p2 .one⟩,⟨some 33,[.sl 8],some (30,false),none,.oY 1⟩,⟨some 34,[.hS 33],some (30,false),none,.p2 .one⟩,⟨some 35,[.hS 32,.hS 34],some (30,false),none,.bin .eql⟩,gV 36 [.hS 30,.iK (.bool true),.hS 35] .pick,gV 37 [.hP 36] .i_,⟨some 38,[.sl 7],some (37,false),none,.oY 1⟩,⟨some 39,[.hS 38],some (37,false),none,.p2 .one⟩,⟨some 40,[.sl 8],some (37,false),none,.oY 0⟩,⟨some 41,[.hS 40],some (37,false),none,.p2 .one⟩,⟨some 42,[.hS 39,.hS 41],some (37,false),none,.bin .eql⟩,gV 43 [.hS 37,.iK (.bool true),.hS 42] .pick,gV 44 [.hP 43] .i_,⟨some 45,[.hS 7],some (44,false),none,.oY 1⟩,⟨some 46,[.hS 45],some (44,false),none,.p2 .one⟩,⟨some 47,[.hS 8],some (44,false),none,.oY 1⟩,⟨some 48,[.hS 47],some (44,false),none,.p2 .one⟩,⟨some 49,[.hS 46,.hS 48],some (44,false),none,.bin .eql⟩,gV 50 [.hS 44,.iK (.bool true),.hS 49] .pick,gV 6 [.hP 50] .i_]) .ret
theorem ahc:TJ Tryz.prog Wh 100 16=some (ace,acf,ach,am2,51,[.tmp 6]):=by kernel_rfl
def JF (a b:Int×Int):Bool:=decide (a.1=b.1) || decide (a.1=b.2) || decide (a.2=b.1) || decide (a.2=b.2)
def Vy (t:qb) (i k:Int):Option Bool :=
 qh (0≤i∧i<(t.2.length:Int)) <|
 qh (0≤k∧k<(t.2.length:Int)) <|
 some (JF (ix t.2 i) (ix t.2 k))
theorem als {t:qb} {i k:Int} {v:Bool} (h:Vy t i k=some v):qD 100 [.bW [hY t.1,.ay (t.2.flatMap p4) t.2.length .shared],hY i,hY k] (B v):=by
 obtain ⟨e0,h⟩:=qF h;obtain ⟨fs,h⟩:=qF h;obtain rfl:=Option.some.inj h;refine afq dM ahc rfl rfl fun Q bo=>?_;have jG:∀ T H,IP [.tmp 6] (B (JF (ix t.2 i) (ix t.2 k))) .ret T H→Q .ret T H:=fun T H bK=>bo _ T H bK;unfold ace;conv=>whnf
 refine ⟨rfl,?_,fun acc=>?_⟩
 ·unfold acf;conv=>whnf
  refine ⟨e0,?_⟩;rw [qY p4 2 qy t.2 i e0];conv=>whnf
  refine ⟨fs,?_⟩;rw [qY p4 2 qy t.2 k fs];conv=>whnf
  rcases Ja (decide ((ix t.2 i).1=(ix t.2 k).1)) with fY | fY
  ·rw [fY];(conv=>whnf);exact jG _ _ ⟨.inr rfl,_,rfl,_,o0 rfl,(by unfold JF;rw [fY];rfl)⟩
  ·rw [fY];(conv=>whnf);rcases Ja (decide ((ix t.2 i).1=(ix t.2 k).2)) with e1 | e1
   ·rw [e1];(conv=>whnf);exact jG _ _ ⟨.inr rfl,_,rfl,_,o0 rfl,(by unfold JF;rw [fY,e1];rfl)⟩
   ·rw [e1];(conv=>whnf);rcases Ja (decide ((ix t.2 i).2=(ix t.2 k).1)) with cm | cm
    ·rw [cm];(conv=>whnf);exact jG _ _ ⟨.inr rfl,_,rfl,_,o0 rfl,(by unfold JF;rw [fY,e1,cm];rfl)⟩
    ·rw [cm];(conv=>whnf);exact jG _ _ ⟨.inr rfl,_,rfl,_,o0 rfl,(by unfold JF;rw [fY,e1,cm];rfl)⟩
 ·unfold ach;conv=>whnf
  refine ⟨e0,?_⟩;rw [qY p4 2 qy t.2 i e0];conv=>whnf
  refine ⟨fs,?_⟩;rw [qY p4 2 qy t.2 k fs];conv=>whnf
  rcases Ja (decide ((ix t.2 i).1=(ix t.2 k).1)) with fY | fY
  ·rw [fY];(conv=>whnf);exact jG _ _ ⟨.inr rfl,_,rfl,_,o0 rfl,(by unfold JF;rw [fY];rfl)⟩
  ·rw [fY];(conv=>whnf);rcases Ja (decide ((ix t.2 i).1=(ix t.2 k).2)) with e1 | e1
   ·rw [e1];(conv=>whnf);exact jG _ _ ⟨.inr rfl,_,rfl,_,o0 rfl,(by unfold JF;rw [fY,e1];rfl)⟩
   ·rw [e1];(conv=>whnf);rcases Ja (decide ((ix t.2 i).2=(ix t.2 k).1)) with cm | cm
    ·rw [cm];(conv=>whnf);exact jG _ _ ⟨.inr rfl,_,rfl,_,o0 rfl,(by unfold JF;rw [fY,e1,cm];rfl)⟩
    ·rw [cm];(conv=>whnf);exact jG _ _ ⟨.inr rfl,_,rfl,_,o0 rfl,(by unfold JF;rw [fY,e1,cm];rfl)⟩

noncomputable def adb:eE :=
 GD [gV 4 [.iK (.bool false)] .i_] (GD [Gq 5 1,Gq 6 2,Gt 7 0,gV 8 [.iK (.func 100 [] []),.sl 5,.sl 6,.sl 7] (.call 3),Gt 4 8] .ret)
theorem ah5:zm Tryz.prog W6 99=some (adb,9,[.tmp 4]):=by kernel_rfl
def Rl (k:Int) (c0:qk) (bc:Int):Option Bool :=
 (Vy c0 bc k).bind fun r1 =>
 some r1
theorem am1 {k:Int} {c0:qk} {bc:Int} {v:Bool} (h:Rl k c0 bc=some v):qD 99 [(hY k),(.bW [(.bW [(hY c0.1),(.ay (c0.2.flatMap p4) c0.2.length .shared)])]),(.bW [(hY bc)])] (B v):=by
 refine qZ dM ah5 rfl rfl fun Q bo=>?_;have jG:qK [.tmp 4] Q (fun v=>(B v)) v:=fun T H bK=>bo _ T H bK;unfold Rl at h;unfold adb;conv=>whnf
 obtain ⟨r1,e0,h⟩:=qj h;refine ⟨qt.pl,_,als e0,?_⟩;conv=>whnf
 exact qc h jG rfl rfl

noncomputable def ada:eE :=
 GD [gV 4 [.iK (.bool false)] .i_] (GD [Gt 5 0,gV 6 [.hS 1,.hS 2] (.zC 99 0 2),gV 7 [.iK (.func 92 [] []),.sl 5,.sl 6] (.call 6),Gt 4 7] .ret)
theorem ah4:zm Tryz.prog W5 98=some (ada,8,[.tmp 4]):=by kernel_rfl
def MK (part:ql) (c0:qk) (bc:Int):Option Bool :=
 (K4 part (fun q1=>Rl q1 c0 bc)).bind fun r1 =>
 some r1
theorem acd {part:ql} {c0:qk} {bc:Int} {v:Bool} (h:MK part c0 bc=some v):qD 98 [(.ay (part.map hY) part.length .shared),(.bW [(.bW [(hY c0.1),(.ay (c0.2.flatMap p4) c0.2.length .shared)])]),(.bW [(hY bc)])] (B v):=by
 refine qZ dM ah4 rfl rfl fun Q bo=>?_;have jG:qK [.tmp 4] Q (fun v=>(B v)) v:=fun T H bK=>bo _ T H bK;unfold MK at h;unfold ada;conv=>whnf
 obtain ⟨r1,e0,h⟩:=qj h;refine ⟨_,_,IS (cs:=[(qG part .shared),(.func 99 [] [(.bW [(.bW [(hY c0.1),(p9 c0.2 .shared)])]),(.bW [(hY bc)])])]) (bs:=[(qG part .shared),(.func 99 [] [(.bW [(.bW [(hY c0.1),(p9 c0.2 .shared)])]),(.bW [(hY bc)])])]) (rB rfl (rB (Kt r6 (rB rfl (rB rfl r6))) r6)) (by rfl) (by exact (p5 (rO (fun _=>rfl) _ _ _) (p5 (JT rfl (p5 (rj (p5 (rj (p5 rfl (p5 (q7 (fun _=>(p5 rfl (p5 rfl rfl))) _ _ _) rfl))) rfl)) (p5 (rj (p5 rfl rfl)) rfl))) rfl))) (Ri ⟨(p5 (rj (p5 (rj (p5 rfl (p5 (q7 (fun _=>(p5 rfl (p5 rfl rfl))) _ _ _) rfl))) rfl)) (p5 (rj (p5 rfl rfl)) rfl)),by simp⟩ (fun _ _ a2=>am1 a2) e0) rfl,?_⟩;conv=>whnf
 exact qc h jG rfl rfl

abbrev Hg (tab:qb):I:=.bW [hY tab.1,.ay (tab.2.flatMap p4) tab.2.length .shared]
abbrev I6 (tab:qb):au:=.cells [Hg tab]
def PY (tab:qb) (s:Int) (own r:List Int):Option (List Int):=(MK r tab s).bind fun b=>if b=true then qh ((own.length+r.length)*8≤140737488355328) (some (own++r)) else some own
def OO (tab:qb) (out:List (List Int)) (s:Int):Option (List (List Int)) :=
 (IC (PY tab s) out [s]).bind fun own=>qh (own.length≤12∧own.length≠0∧out.length≤1000) ((LR (fun r=>MK r tab s) out).bind fun rest=>some (rest++[G6 own]))
def K2 (tab:qb) (qm:List Int):Option (List (List Int)) :=
 qh (qm.length≤1000) ((IC (OO tab) qm []).bind fun out=>qh (out.length≤12∧out.all Nw=true) (some (I4 out)))
theorem Xf {H:List au} {tab:qb} {c:Nat} {s:Int} (aS:H[0]?=some (I6 tab)) (ao:H[c]?=some (.cells [hY s])):[I.ptr 0 0,.ptr c 0].map (iz H)=[.bW [Hg tab],.bW [hY s]] :=
 rB (I3 aS rfl) (rB (I3 ao rfl) r6)
theorem Xe (tab:qb) (s:Int):[I.bW [Hg tab],.bW [hY s]].all (ct 8)=true :=
 p5 (rj (p5 (rj (p5 rfl (p5 (q7 (fun _=>(p5 rfl (p5 rfl rfl))) _ _ _) rfl))) rfl)) (p5 rfl rfl)
theorem afM {tab:qb} {s:Int} {out:List (List Int)} {own:List Int} {x c i n:Nat} {sl:I} {H1:List au} (bE:IC (PY tab s) out [s]=some own) (hlen:out.length≤1000) (Hx:H1[x]?=some (.grow (out.map js) (x+1) 1)) (aS:H1[0]?=some (I6 tab)) (ao:H1[c]?=some (.cells [hY s]))
  {Q:cE→List I→List au→Prop} (av:Q (.exit 2) (GI 46 [(2,.ptr 0 0),(5,.cn x (x+1) out.length 1),(8,.func 98 [] [.ptr 0 0,.ptr c 0]),(9,.ay (own.map hY) own.length (.uniq 1)),(12,sl),(13,hY n),(14,hY i),(21,.ref x 0 out.length none 1),(22,hY out.length),(23,hY out.length),(24,B (decide ((out.length:Int)<(out.length:Int))))]) H1)
  {T:List I} (bZ:eX [false,false,true,false,false,true,false,false,true,true,false,false,true,true,true,false,false,false,false,false,false,true,true,true,false,false,false,false,false,false,false,false,false,false,false,false,false,false,false,false,false,false,false,false,false,false] T=GI 46 [(2,.ptr 0 0),(5,.cn x (x+1) out.length 1),(8,.func 98 [] [.ptr 0 0,.ptr c 0]),(9,.ay [hY s] 1 (.uniq 1)),(12,sl),(13,hY n),(14,hY i),(21,.ref x 0 out.length none 1),(22,hY out.length),(23,hY (0:Nat))]) :
  dG Tryz.prog MT 79 0 none Nu T H1 Q:=by
 unfold Nu;obtain ⟨bn,b_⟩:∃ c,QB=c:=⟨_,rfl⟩;rw [b_];refine wp_loop bZ ?_;obtain ⟨F,RU,Fn,RW⟩:=SL bE;refine .intro (fun m T H=>∃ k:Nat,k≤out.length∧m=out.length-k∧T=GI 46 [(2,.ptr 0 0),(5,.cn x (x+1) out.length 1),(8,.func 98 [] [.ptr 0 0,.ptr c 0]),(9,.ay ((F k).map hY) (F k).length (.uniq 1)),(12,sl),(13,hY n),(14,hY i),(21,.ref x 0 out.length none 1),(22,hY out.length),(23,hY k)]∧H=H1) out.length ⟨0,by omega,by omega,by rw [RU];rfl,rfl⟩ ?_;clear bZ;rintro m T H ⟨k,anE,rfl,rfl,rfl⟩;conv=>whnf
 refine H6 (fun aU=>?_) (fun aU=>?_)
 ·have aU:k<out.length:=by omega
  conv=>whnf
  subst b_;unfold QB;obtain ⟨bc,cd⟩:∃ c,UR=c:=⟨_,rfl⟩;rw [cd];refine IK fun m2 Hc=>?_;conv=>whnf
  refine ⟨by omega,?_⟩;conv=>whnf
  refine D1 Hx ?_;conv=>whnf
  refine D1 (Ve out rfl aU) ?_;conv=>whnf
  obtain ⟨b,ag,ai⟩:=qj (RW k aU);refine ⟨_,_,IS (cs:=[js out[k],.bW [Hg tab],.bW [hY s]]) (bs:=[js out[k],.bW [Hg tab],.bW [hY s]]) (rB rfl (Xf aS ao)) rfl (p5 (rO (fun _=>rfl) _ _ _) (Xe tab s)) (acd ag) rfl,?_⟩;conv=>whnf
  cases b with
  | true =>
    rw [if_pos rfl] at ai;obtain ⟨ak,ai⟩:=qF ai;have ai:=Option.some.inj ai;(conv=>whnf);subst cd;unfold UR;(conv=>whnf);refine ⟨by simp,by omega,rfl,ak,?_⟩;erw [aej hY (F k) out[k]];rw [ai];(conv=>whnf);refine Hc _ _ _ ?_;(conv=>whnf);exact ⟨out.length-(k+1),by omega,k+1,by omega,rfl,by rw [←rJ k (by omega)] <;> rfl,rfl⟩
  | false =>
    have ai:=Option.some.inj ai;(conv=>whnf);refine Hc _ _ _ ?_;(conv=>whnf);exact ⟨out.length-(k+1),by omega,k+1,by omega,rfl,by rw [←ai,←rJ k (by omega)] <;> rfl,rfl⟩
 ·obtain rfl:k=out.length:=by omega
  conv=>whnf
  rw [Fn];exact av
theorem afN {s:Int} {c i n:Nat} {sl:I} {H1:List au}
  {Q:cE→List I→List au→Prop} (av:Q (.exit 2) (GI 46 [(2,.ptr 0 0),(5,.ay [] 0 .full),(8,.func 98 [] [.ptr 0 0,.ptr c 0]),(9,.ay [hY s] 1 (.uniq 1)),(12,sl),(13,hY n),(14,hY i),(21,.ay [] 0 .full),(22,hY 0),(23,hY 0),(24,B false)]) H1)
  {T:List I} (bZ:eX [false,false,true,false,false,true,false,false,true,true,false,false,true,true,true,false,false,false,false,false,false,true,true,true,false,false,false,false,false,false,false,false,false,false,false,false,false,false,false,false,false,false,false,false,false,false] T=GI 46 [(2,.ptr 0 0),(5,.ay [] 0 .full),(8,.func 98 [] [.ptr 0 0,.ptr c 0]),(9,.ay [hY s] 1 (.uniq 1)),(12,sl),(13,hY n),(14,hY i),(21,.ay [] 0 .full),(22,hY 0),(23,hY 0)]) :
  dG Tryz.prog MT 79 0 none Nu T H1 Q:=by
 unfold Nu;obtain ⟨bn,b_⟩:∃ c,QB=c:=⟨_,rfl⟩;rw [b_];refine wp_loop bZ ?_;refine .intro (fun m T H=>T=GI 46 [(2,.ptr 0 0),(5,.ay [] 0 .full),(8,.func 98 [] [.ptr 0 0,.ptr c 0]),(9,.ay [hY s] 1 (.uniq 1)),(12,sl),(13,hY n),(14,hY i),(21,.ay [] 0 .full),(22,hY 0),(23,hY 0)]∧H=H1) 0 ⟨rfl,rfl⟩ ?_;clear bZ;rintro m T H ⟨rfl,rfl⟩;conv=>whnf
 exact av
def K_ (tab:qb) (out:List (List Int)) (v5:I) (H:List au):Prop :=
 H[0]?=some (I6 tab)∧((out=[]∧v5=.ay [] 0 .full)∨∃ X:List au,0<X.length∧v5=.cn X.length (X.length+1) out.length 1∧H=X++[.grow (out.map js) (X.length+1) 1,.dead])
theorem K_.mk' {tab:qb} {out:List (List Int)} {X:List au} (h:X[0]?=some (I6 tab)) {l:List I} (ak:l=out.map js) {n:Nat} (aN:n=out.length):K_ tab out (.cn X.length (X.length+1) n 1) (X++[.grow l (X.length+1) 1,.dead]):=by
 subst ak aN;have ad:=(ss.1 h).1;exact ⟨q2 h,.inr ⟨X,ad,rfl,rfl⟩⟩
theorem q5 {H:List au} {i j:Nat} {o c:au} (h:H[i]?=some o) (aN:j≠i):(H.set j c)[i]?=some o:=by rw [List.getElem?_set_ne aN];exact h
theorem XL {P:Program} {C:b8} {id n:Nat} {o:Oper} {x:Operand} {H:List au} (l:List Int) (aq:o.op=.move x) (aN:n=l.length) (ah:H[id]?=some (.cells (l.map hY))) :
  a_ P C 0 o 2 [.ref id 0 n none 1] H=some (js l,H.set id .dead) :=
 aft (cs:=l.map hY) (sz:=1) aq (sK _) ah aN (by simp) (akX (fun _=>rfl) _)
theorem Y5 {tab:qb} {s:Int} {out rest:List (List Int)} {own:List Int} {v5:I} {H:List au} {i n:Nat} {sl:I} (cp:K_ tab out v5 H) (M1:own.length≤12) (bO:own.length≠0) (hlen:out.length≤1000) (a1:LR (fun r=>MK r tab s) out=some rest)
  {v21 v22 v23 v24:I} {Q:cE→List I→List au→Prop} (av:∀ NG H' Vu Vp Vq Vr Vs NC ND NF Vt,K_ tab (rest++[G6 own]) NG H'→Q .normal (GI 46 [(2,.ptr 0 0),(5,NG),(9,Vu),(12,sl),(13,hY n),(14,hY i),(21,v21),(22,v22),(23,v23),(24,v24),(34,Vp),(35,Vq),(36,Vr),(37,Vs),(38,NC),(39,ND),(40,NF),(41,Vt)]) H') :
  dG Tryz.prog MT 79 0 none QD (GI 46 [(2,.ptr 0 0),(5,v5),(8,.func 98 [] [.ptr 0 0,.ptr H.length 0]),(9,.ay (own.map hY) own.length (.uniq 1)),(12,sl),(13,hY n),(14,hY i),(21,v21),(22,v22),(23,v23),(24,v24)]) (H++[.cells [hY s]]) Q:=by
 unfold QD;obtain ⟨bu,eb⟩:∃ c,US=c:=⟨_,rfl⟩;rw [eb];obtain ⟨aS,cp⟩:=cp;have fI:=(ss.1 aS).1;conv=>whnf
 refine .inl ⟨bO,?_⟩;conv=>whnf
 refine ⟨_,_,Hv (ZT own (sK _) M1 rfl (JA _ _)),?_⟩;rw [rE];conv=>whnf
 subst eb;unfold US;rcases cp with ⟨rfl,rfl⟩ | ⟨X,KL,rfl,rfl⟩
 ·obtain rfl:rest=[]:=(Option.some.inj a1).symm;conv=>whnf
  refine ⟨_,_,Hv aeZ,?_⟩;conv=>whnf
  refine ⟨_,_,fun C=>XL (G6 own) rfl (QP own).symm (JA _ _),?_⟩;rw [rE];conv=>whnf
  refine ⟨⟨rfl,by decide⟩,?_⟩;conv=>whnf
  refine ⟨⟨by decide,by decide,rfl⟩,?_⟩;conv=>whnf
  exact av _ _ _ _ _ _ _ _ _ _ _ (K_.mk' (q2 (q2 aS)) rfl rfl)
 ·conv=>whnf
  refine ⟨_,_,Hv (ae1 (g:=X.length+1) (cs:=[.bW [Hg tab],.bW [hY s]]) a1 (sK _) (fun c=>Xf (q5 (q2 (q2 aS)) (by omega)) (q5 (q2 (JA _ _)) (by simp))) rfl (Xe tab s) hlen rfl (fun _ _ ag=>acd ag) (q2 (q2 (M0 _ _)))),?_⟩;conv=>whnf
  refine ⟨_,_,fun C=>XL (G6 own) rfl (QP own).symm (q5 (JA _ _) (by simp <;> omega)),?_⟩;conv=>whnf
  refine ⟨⟨rfl,by decide⟩,?_⟩;conv=>whnf
  have aj:rest.length≤out.length:=by
   obtain ⟨p,_,e⟩:=Xp a1;rw [e];exact List.length_filter_le _ _
  refine ⟨⟨rfl,by decide,by omega⟩,?_⟩;conv=>whnf
  exact av _ _ _ _ _ _ _ _ _ _ _ (K_.mk' (q5 (q5 (q2 (q2 aS)) (by omega)) (by simp)) (by rw [List.map_append];rfl) (by simp))
theorem aiB {tab:qb} {qm:List Int} {Nh:List (List Int)} {H:List au} (bE:IC (OO tab) qm []=some Nh) (Db:qm.length≤1000) (aS:H[0]?=some (I6 tab))
  {Q:cE→List I→List au→Prop} (av:∀ v5 H',K_ tab Nh v5 H'→Q (.exit 0) (GI 46 [(2,.ptr 0 0),(5,v5),(12,js qm),(13,hY qm.length),(14,hY qm.length),(15,B (decide ((qm.length:Int)<(qm.length:Int))))]) H')
  {T:List I} (bZ:eX [false,false,true,false,false,true,false,false,false,false,false,false,true,true,true,false,false,false,false,false,false,false,false,false,false,false,false,false,false,false,false,false,false,false,false,false,false,false,false,false,false,false,false,false,false,false] T=GI 46 [(2,.ptr 0 0),(5,.ay [] 0 .full),(12,js qm),(13,hY qm.length),(14,hY (0:Nat))]) :
  dG Tryz.prog MT 79 0 none QC T H Q:=by
 unfold QC;obtain ⟨fW,GX⟩:∃ c,UW=c:=⟨_,rfl⟩;rw [GX];refine wp_loop bZ ?_;obtain ⟨F,RU,Fn,RW⟩:=SL bE;refine .intro (fun m T H=>∃ (i:Nat) (v5:I),i≤qm.length∧m=qm.length-i∧K_ tab (F i) v5 H∧T=GI 46 [(2,.ptr 0 0),(5,v5),(12,js qm),(13,hY qm.length),(14,hY i)]) qm.length ⟨0,_,by omega,by omega,⟨aS,.inl ⟨RU,rfl⟩⟩,rfl⟩ ?_;clear bZ aS;rintro m T H ⟨i,v5,hi,rfl,cp,rfl⟩;conv=>whnf
 refine H6 (fun aU=>?_) (fun aU=>?_)
 ·have aU:i<qm.length:=by omega
  obtain ⟨own,ny,aC⟩:=qj (RW i aU);obtain ⟨⟨M1,bO,hlen⟩,aC⟩:=qF aC;obtain ⟨rest,a1,aC⟩:=qj aC;have aC:=Option.some.inj aC;conv=>whnf
  subst GX;unfold UW;obtain ⟨d',B4⟩:∃ c,UU=c:=⟨_,rfl⟩;rw [B4];refine IK fun m2 Hc=>?_;conv=>whnf
  refine ⟨by omega,?_⟩;conv=>whnf
  refine aic _ _ _ (aU) ?_;conv=>whnf
  refine D1 (JA _ _) ?_;conv=>whnf
  rw [rE];conv=>whnf
  subst B4;unfold UU;obtain ⟨b9,hy⟩:∃ c,UT=c:=⟨_,rfl⟩;rw [hy];conv=>whnf
  refine D1 (JA _ _) ?_;conv=>whnf
  subst hy;unfold UT;obtain ⟨Sn,Jz⟩:∃ c,Nu=c:=⟨_,rfl⟩;obtain ⟨ank,SN⟩:∃ c,QD=c:=⟨_,rfl⟩;rw [Jz,SN];have o7:=cp;obtain ⟨aS,cp⟩:=cp;rcases cp with ⟨aq,rfl⟩ | ⟨X,KL,rfl,ah⟩
  ·(conv=>whnf);subst Jz;have CV:own=[qm[i]]:=by
    rw [aq] at ny;exact (Option.some.inj ny).symm
   refine afN (s:=qm[i]) (c:=H.length) (n:=qm.length) (i:=i) (sl:=js qm) ?_ (by exact rfl);(conv=>whnf);subst SN;refine Y5 (own:=own) (v5:=.ay [] 0 .full) o7 M1 bO hlen a1 (v21:=.ay [] 0 .full) (v22:=hY 0) (v23:=hY 0) (v24:=B false) ?_ |> cast (by rw [CV];rfl)
   intro NG H' Vu Vp Vq Vr Vs NC ND NF Vt Kg;(conv=>whnf);refine Hc _ _ _ ?_;(conv=>whnf);exact ⟨qm.length-(i+1),by omega,i+1,NG,by omega,rfl,by rw [←aC];exact Kg,by rw [←rJ i (by omega)] <;> rfl⟩
  ·(conv=>whnf);subst Jz;refine afM (x:=X.length) (c:=H.length) (n:=qm.length) (i:=i) (sl:=js qm) ny hlen (q2 (by rw [ah];exact M0 _ _)) (q2 aS) (JA _ _) ?_ (by exact rfl);(conv=>whnf);subst SN;refine Y5 (own:=own) o7 M1 bO hlen a1 ?_;intro NG H' Vu Vp Vq Vr Vs NC ND NF Vt Kg;(conv=>whnf);refine Hc _ _ _ ?_;(conv=>whnf);exact ⟨qm.length-(i+1),by omega,i+1,NG,by omega,rfl,by rw [←aC];exact Kg,by rw [←rJ i (by omega)] <;> rfl⟩
 ·obtain rfl:i=qm.length:=by omega
  conv=>whnf
  exact av _ _ (by rw [←Fn];exact cp)
theorem Q' {t:qb} {qm:List Int} {v:List (List Int)} (h:K2 t qm=some v):qD 79 [Hg t,.ay (qm.map hY) qm.length .shared] (.ay (v.map js) v.length .shared):=by
 obtain ⟨Db,h⟩:=qF h;obtain ⟨out,bE,h⟩:=qj h;obtain ⟨⟨M1,cV⟩,h⟩:=qF h;obtain rfl:=Option.some.inj h;refine qZ dM ag9 rfl (rO (fun _=>(rO (fun _=>rfl) _ _ _)) _ _ _) fun Q bo=>?_;have jG:∀ T H,IP [.tmp 4] (.ay ((I4 out).map js) (I4 out).length .shared) .ret T H→Q .ret T H:=fun T H bK=>bo _ T H bK;unfold Zr;obtain ⟨m_,G0⟩:∃ c,UY=c:=⟨_,rfl⟩;rw [G0];conv=>whnf
 subst G0;unfold UY;obtain ⟨Sn,Jz⟩:∃ c,QC=c:=⟨_,rfl⟩;obtain ⟨m9,Hk⟩:∃ c,UX=c:=⟨_,rfl⟩;rw [Jz,Hk];conv=>whnf
 subst Jz;refine aiB (tab:=t) bE Db rfl ?_ (by exact rfl);intro v5 H' cp;conv=>whnf
 subst Hk;unfold UX;obtain ⟨aS,cp⟩:=cp;rcases cp with ⟨rfl,rfl⟩ | ⟨X,KL,rfl,rfl⟩
 ·have e:I4 []=[]:=List.eq_nil_of_length_eq_zero (by rw [Vk];rfl);rw [e] at jG;conv=>whnf
  refine ⟨_,_,Hv akc,?_⟩;conv=>whnf
  refine ⟨_,_,fun C=>rfl,?_⟩;conv=>whnf
  exact jG _ _ ⟨.inr rfl,_,rfl,_,o0 rfl,rfl⟩
 ·conv=>whnf
  refine ⟨_,_,Hv (akg out (sK _) M1 cV rfl (M0 X _)),?_⟩;rw [ZK];conv=>whnf
  refine ⟨_,_,fun C=>XM rfl (sK _) (M0 X _) (by rw [List.length_map,Vk,Nat.mul_one]),?_⟩;rw [aaL (fun _=>rfl),ZK];conv=>whnf
  rw [Vk] at jG;exact jG _ _ ⟨.inr rfl,_,rfl,_,o0 (rO (fun _=>(rO (fun _=>rfl) _ _ _)) _ _ _),rfl⟩
end Go.Proofs.YtfakoboiahbhaaaGreat.Ab


namespace Go.Proofs.YtfakoboiahbhaaaGreat.Ab
open Go
def Z0:qR:=.pure 100 [.bW [.int .i64 4,.ay [.int .i64 0,.int .i64 1,.int .i64 1,.int .i64 2,.int .i64 2,.int .i64 0,.int .i64 2,.int .i64 3] 4 .shared],.int .i64 0,.int .i64 0] (.bool true)
theorem akl:q4 Go.Proofs.Tryz.prog Z0:=GR (p:=16) (by kernel_rfl)
def Z1:qR:=.pure 100 [.bW [.int .i64 4,.ay [.int .i64 0,.int .i64 1,.int .i64 1,.int .i64 2,.int .i64 2,.int .i64 0,.int .i64 2,.int .i64 3] 4 .shared],.int .i64 0,.int .i64 1] (.bool true)
theorem akm:q4 Go.Proofs.Tryz.prog Z1:=GR (p:=16) (by kernel_rfl)
def Z2:qR:=.pure 100 [.bW [.int .i64 4,.ay [.int .i64 0,.int .i64 1,.int .i64 1,.int .i64 2,.int .i64 2,.int .i64 0,.int .i64 2,.int .i64 3] 4 .shared],.int .i64 0,.int .i64 2] (.bool true)
theorem akn:q4 Go.Proofs.Tryz.prog Z2:=GR (p:=16) (by kernel_rfl)
def Z3:qR:=.pure 100 [.bW [.int .i64 4,.ay [.int .i64 0,.int .i64 1,.int .i64 1,.int .i64 2,.int .i64 2,.int .i64 0,.int .i64 2,.int .i64 3] 4 .shared],.int .i64 0,.int .i64 3] (.bool false)
theorem ako:q4 Go.Proofs.Tryz.prog Z3:=GR (p:=16) (by kernel_rfl)
def Z4:qR:=.pure 100 [.bW [.int .i64 4,.ay [.int .i64 0,.int .i64 1,.int .i64 1,.int .i64 2,.int .i64 2,.int .i64 0,.int .i64 2,.int .i64 3] 4 .shared],.int .i64 1,.int .i64 0] (.bool true)
theorem akp:q4 Go.Proofs.Tryz.prog Z4:=GR (p:=16) (by kernel_rfl)
def Z5:qR:=.pure 100 [.bW [.int .i64 4,.ay [.int .i64 0,.int .i64 1,.int .i64 1,.int .i64 2,.int .i64 2,.int .i64 0,.int .i64 2,.int .i64 3] 4 .shared],.int .i64 1,.int .i64 1] (.bool true)
theorem akq:q4 Go.Proofs.Tryz.prog Z5:=GR (p:=16) (by kernel_rfl)
def Z6:qR:=.pure 100 [.bW [.int .i64 4,.ay [.int .i64 0,.int .i64 1,.int .i64 1,.int .i64 2,.int .i64 2,.int .i64 0,.int .i64 2,.int .i64 3] 4 .shared],.int .i64 1,.int .i64 2] (.bool true)
theorem akr:q4 Go.Proofs.Tryz.prog Z6:=GR (p:=16) (by kernel_rfl)
def Z7:qR:=.pure 100 [.bW [.int .i64 4,.ay [.int .i64 0,.int .i64 1,.int .i64 1,.int .i64 2,.int .i64 2,.int .i64 0,.int .i64 2,.int .i64 3] 4 .shared],.int .i64 1,.int .i64 3] (.bool true)
theorem aks:q4 Go.Proofs.Tryz.prog Z7:=GR (p:=16) (by kernel_rfl)
def Z8:qR:=.pure 100 [.bW [.int .i64 4,.ay [.int .i64 0,.int .i64 1,.int .i64 1,.int .i64 2,.int .i64 2,.int .i64 0,.int .i64 2,.int .i64 3] 4 .shared],.int .i64 2,.int .i64 0] (.bool true)
theorem akt:q4 Go.Proofs.Tryz.prog Z8:=GR (p:=16) (by kernel_rfl)
def Z9:qR:=.pure 100 [.bW [.int .i64 4,.ay [.int .i64 0,.int .i64 1,.int .i64 1,.int .i64 2,.int .i64 2,.int .i64 0,.int .i64 2,.int .i64 3] 4 .shared],.int .i64 2,.int .i64 1] (.bool true)
theorem aku:q4 Go.Proofs.Tryz.prog Z9:=GR (p:=16) (by kernel_rfl)
def Z_:qR:=.pure 100 [.bW [.int .i64 4,.ay [.int .i64 0,.int .i64 1,.int .i64 1,.int .i64 2,.int .i64 2,.int .i64 0,.int .i64 2,.int .i64 3] 4 .shared],.int .i64 2,.int .i64 2] (.bool true)
theorem akv:q4 Go.Proofs.Tryz.prog Z_:=GR (p:=16) (by kernel_rfl)
def Z':qR:=.pure 100 [.bW [.int .i64 4,.ay [.int .i64 0,.int .i64 1,.int .i64 1,.int .i64 2,.int .i64 2,.int .i64 0,.int .i64 2,.int .i64 3] 4 .shared],.int .i64 2,.int .i64 3] (.bool true)
theorem akw:q4 Go.Proofs.Tryz.prog Z':=GR (p:=16) (by kernel_rfl)
def aac:qR:=.pure 100 [.bW [.int .i64 4,.ay [.int .i64 0,.int .i64 1,.int .i64 1,.int .i64 2,.int .i64 2,.int .i64 0,.int .i64 2,.int .i64 3] 4 .shared],.int .i64 3,.int .i64 0] (.bool false)
theorem akx:q4 Go.Proofs.Tryz.prog aac:=GR (p:=16) (by kernel_rfl)
def aad:qR:=.pure 100 [.bW [.int .i64 4,.ay [.int .i64 0,.int .i64 1,.int .i64 1,.int .i64 2,.int .i64 2,.int .i64 0,.int .i64 2,.int .i64 3] 4 .shared],.int .i64 3,.int .i64 1] (.bool true)
theorem aky:q4 Go.Proofs.Tryz.prog aad:=GR (p:=16) (by kernel_rfl)
def aae:qR:=.pure 100 [.bW [.int .i64 4,.ay [.int .i64 0,.int .i64 1,.int .i64 1,.int .i64 2,.int .i64 2,.int .i64 0,.int .i64 2,.int .i64 3] 4 .shared],.int .i64 3,.int .i64 2] (.bool true)
theorem akz:q4 Go.Proofs.Tryz.prog aae:=GR (p:=16) (by kernel_rfl)
def aaf:qR:=.pure 100 [.bW [.int .i64 4,.ay [.int .i64 0,.int .i64 1,.int .i64 1,.int .i64 2,.int .i64 2,.int .i64 0,.int .i64 2,.int .i64 3] 4 .shared],.int .i64 3,.int .i64 3] (.bool true)
theorem akA:q4 Go.Proofs.Tryz.prog aaf:=GR (p:=16) (by kernel_rfl)
def aah:qR:=.pure 100 [.bW [.int .i64 5,.ay [.int .i64 0,.int .i64 1,.int .i64 2,.int .i64 3,.int .i64 4,.int .i64 4] 3 .shared],.int .i64 0,.int .i64 0] (.bool true)
theorem akE:q4 Go.Proofs.Tryz.prog aah:=GR (p:=16) (by kernel_rfl)
def aai:qR:=.pure 100 [.bW [.int .i64 5,.ay [.int .i64 0,.int .i64 1,.int .i64 2,.int .i64 3,.int .i64 4,.int .i64 4] 3 .shared],.int .i64 0,.int .i64 1] (.bool false)
theorem akF:q4 Go.Proofs.Tryz.prog aai:=GR (p:=16) (by kernel_rfl)
def aaj:qR:=.pure 100 [.bW [.int .i64 5,.ay [.int .i64 0,.int .i64 1,.int .i64 2,.int .i64 3,.int .i64 4,.int .i64 4] 3 .shared],.int .i64 0,.int .i64 2] (.bool false)
theorem akG:q4 Go.Proofs.Tryz.prog aaj:=GR (p:=16) (by kernel_rfl)
def aak:qR:=.pure 100 [.bW [.int .i64 5,.ay [.int .i64 0,.int .i64 1,.int .i64 2,.int .i64 3,.int .i64 4,.int .i64 4] 3 .shared],.int .i64 1,.int .i64 0] (.bool false)
theorem akH:q4 Go.Proofs.Tryz.prog aak:=GR (p:=16) (by kernel_rfl)
def aal:qR:=.pure 100 [.bW [.int .i64 5,.ay [.int .i64 0,.int .i64 1,.int .i64 2,.int .i64 3,.int .i64 4,.int .i64 4] 3 .shared],.int .i64 1,.int .i64 1] (.bool true)
theorem akI:q4 Go.Proofs.Tryz.prog aal:=GR (p:=16) (by kernel_rfl)
def aam:qR:=.pure 100 [.bW [.int .i64 5,.ay [.int .i64 0,.int .i64 1,.int .i64 2,.int .i64 3,.int .i64 4,.int .i64 4] 3 .shared],.int .i64 1,.int .i64 2] (.bool false)
theorem akJ:q4 Go.Proofs.Tryz.prog aam:=GR (p:=16) (by kernel_rfl)
def aan:qR:=.pure 100 [.bW [.int .i64 5,.ay [.int .i64 0,.int .i64 1,.int .i64 2,.int .i64 3,.int .i64 4,.int .i64 4] 3 .shared],.int .i64 2,.int .i64 0] (.bool false)
theorem akK:q4 Go.Proofs.Tryz.prog aan:=GR (p:=16) (by kernel_rfl)
def aao:qR:=.pure 100 [.bW [.int .i64 5,.ay [.int .i64 0,.int .i64 1,.int .i64 2,.int .i64 3,.int .i64 4,.int .i64 4] 3 .shared],.int .i64 2,.int .i64 1] (.bool false)
theorem akL:q4 Go.Proofs.Tryz.prog aao:=GR (p:=16) (by kernel_rfl)
def aap:qR:=.pure 100 [.bW [.int .i64 5,.ay [.int .i64 0,.int .i64 1,.int .i64 2,.int .i64 3,.int .i64 4,.int .i64 4] 3 .shared],.int .i64 2,.int .i64 2] (.bool true)
theorem akM:q4 Go.Proofs.Tryz.prog aap:=GR (p:=16) (by kernel_rfl)
def aaq:qR:=.pure 100 [.bW [.int .i64 2,.ay [.int .i64 0,.int .i64 1,.int .i64 1,.int .i64 0] 2 .shared],.int .i64 0,.int .i64 0] (.bool true)
theorem akN:q4 Go.Proofs.Tryz.prog aaq:=GR (p:=16) (by kernel_rfl)
def aar:qR:=.pure 100 [.bW [.int .i64 2,.ay [.int .i64 0,.int .i64 1,.int .i64 1,.int .i64 0] 2 .shared],.int .i64 0,.int .i64 1] (.bool true)
theorem akO:q4 Go.Proofs.Tryz.prog aar:=GR (p:=16) (by kernel_rfl)
def aas:qR:=.pure 100 [.bW [.int .i64 2,.ay [.int .i64 0,.int .i64 1,.int .i64 1,.int .i64 0] 2 .shared],.int .i64 1,.int .i64 0] (.bool true)
theorem akP:q4 Go.Proofs.Tryz.prog aas:=GR (p:=16) (by kernel_rfl)
def aat:qR:=.pure 100 [.bW [.int .i64 2,.ay [.int .i64 0,.int .i64 1,.int .i64 1,.int .i64 0] 2 .shared],.int .i64 1,.int .i64 1] (.bool true)
theorem akQ:q4 Go.Proofs.Tryz.prog aat:=GR (p:=16) (by kernel_rfl)
def aaz:List qR:=[Z0,Z1,Z2,Z3,Z4,Z5,Z6,Z7,Z8,Z9,Z_,Z',aac,aad,aae,aaf,aah,aai,aaj,aak,aal,aam,aan,aao,aap,aaq,aar,aas,aat]
theorem Hr:∀ e∈aaz,q4 Go.Proofs.Tryz.prog e:=by
 simp only [aaz,List.forall_mem_cons];exact ⟨akl,akm,akn,ako,akp,akq,akr,aks,akt,aku,akv,akw,akx,aky,akz,akA,akE,akF,akG,akH,akI,akJ,akK,akL,akM,akN,akO,akP,akQ,by simp⟩
end Go.Proofs.YtfakoboiahbhaaaGreat.Ab


namespace Go.Proofs.YtfakoboiahbhaaaGreat.Ab
open Go
def bF:qR:=.pure 18 [.agg [.int .i64 4,.ay [.int .i64 0,.int .i64 1,.int .i64 1,.int .i64 2,.int .i64 2,.int .i64 0,.int .i64 2,.int .i64 3] 4 .shared],.ay [.int .i64 0,.int .i64 0,.int .i64 1,.int .i64 0,.int .i64 3,.int .i64 0] 3 .shared] (.tuple [.int .i64 0,.int .i64 3,.int .i64 0])
theorem ak_:q4 Go.Proofs.Tryz.prog bF:=G5 Hr (by kernel_rfl)
def bV:qR:=.pure 18 [.agg [.int .i64 4,.ay [.int .i64 0,.int .i64 1,.int .i64 1,.int .i64 2,.int .i64 2,.int .i64 0,.int .i64 2,.int .i64 3] 4 .shared],.ay [.int .i64 0,.int .i64 0,.int .i64 1,.int .i64 0,.int .i64 2,.int .i64 0,.int .i64 0,.int .i64 0] 4 .shared] (.tuple [.int .i64 0,.int .i64 0,.int .i64 11])
theorem ale:q4 Go.Proofs.Tryz.prog bV:=G5 Hr (by kernel_rfl)
def GZ:qR:=.pure 18 [.agg [.int .i64 4,.ay [.int .i64 0,.int .i64 1,.int .i64 1,.int .i64 2,.int .i64 2,.int .i64 0,.int .i64 2,.int .i64 3] 4 .shared],.ay [.int .i64 0,.int .i64 0,.int .i64 2,.int .i64 0] 2 .shared] (.tuple [.int .i64 0,.int .i64 0,.int .i64 27])
theorem alf:q4 Go.Proofs.Tryz.prog GZ:=G5 Hr (by kernel_rfl)
def JW:qR:=.pure 18 [.agg [.int .i64 4,.ay [.int .i64 0,.int .i64 1,.int .i64 1,.int .i64 2,.int .i64 2,.int .i64 0,.int .i64 2,.int .i64 3] 4 .shared],.ay [.int .i64 0,.int .i64 0,.int .i64 4,.int .i64 0] 2 .shared] (.tuple [.int .i64 0,.int .i64 0,.int .i64 3])
theorem alg:q4 Go.Proofs.Tryz.prog JW:=G5 Hr (by kernel_rfl)
def NH:qR:=.pure 18 [.agg [.int .i64 4,.ay [.int .i64 0,.int .i64 1,.int .i64 1,.int .i64 2,.int .i64 2,.int .i64 0,.int .i64 2,.int .i64 3] 4 .shared],.ay [] 0 .shared] (.tuple [.int .i64 0,.int .i64 0,.int .i64 6])
theorem alh:q4 Go.Proofs.Tryz.prog NH:=G5 Hr (by kernel_rfl)
def aa0:qR:=.pure 25 [.agg [.int .i64 4,.ay [.int .i64 0,.int .i64 1,.int .i64 1,.int .i64 2,.int .i64 2,.int .i64 0,.int .i64 2,.int .i64 3] 4 .shared],.ay [.ay [.int .i64 0,.int .i64 0,.int .i64 1,.int .i64 0,.int .i64 3,.int .i64 0] 3 .shared,.ay [.int .i64 2,.int .i64 0] 1 .shared] 2 .shared] (.tuple [.int .i64 2,.int .i64 0])
theorem ali:q4 Go.Proofs.Tryz.prog aa0:=G5 Hr (by kernel_rfl)
def aa1:qR:=.pure 25 [.agg [.int .i64 4,.ay [.int .i64 0,.int .i64 1,.int .i64 1,.int .i64 2,.int .i64 2,.int .i64 0,.int .i64 2,.int .i64 3] 4 .shared],.ay [.ay [.int .i64 0,.int .i64 0,.int .i64 1,.int .i64 0,.int .i64 3,.int .i64 0] 3 .shared] 1 .shared] (.tuple [.int .i64 0,.int .i64 15])
theorem alj:q4 Go.Proofs.Tryz.prog aa1:=G5 Hr (by kernel_rfl)
def aa2:qR:=.pure 25 [.agg [.int .i64 4,.ay [.int .i64 0,.int .i64 1,.int .i64 1,.int .i64 2,.int .i64 2,.int .i64 0,.int .i64 2,.int .i64 3] 4 .shared],.ay [.ay [.int .i64 0,.int .i64 0,.int .i64 1,.int .i64 0,.int .i64 3,.int .i64 0] 3 .shared,.ay [.int .i64 2,.int .i64 0,.int .i64 0,.int .i64 0] 2 .shared] 2 .shared] (.tuple [.int .i64 0,.int .i64 11])
theorem alk:q4 Go.Proofs.Tryz.prog aa2:=G5 Hr (by kernel_rfl)
def aa3:qR:=.pure 22 [.agg [.int .i64 2,.ay [.int .i64 0,.int .i64 1,.int .i64 1,.int .i64 0] 2 .shared],.ay [.int .i64 0,.int .i64 0,.int .i64 1,.int .i64 0] 2 .shared] (.int .i64 0)
theorem alm:q4 Go.Proofs.Tryz.prog aa3:=G5 Hr (by kernel_rfl)
def aaM:qR:=.pure 22 [.agg [.int .i64 2,.ay [.int .i64 0,.int .i64 1,.int .i64 1,.int .i64 0] 2 .shared],.ay [.int .i64 0,.int .i64 0] 1 .shared] (.int .i64 15)
theorem ak0:q4 Go.Proofs.Tryz.prog aaM:=G5 Hr (by kernel_rfl)
def aaN:qR:=.pure 27 [.agg [.int .i64 4,.ay [.int .i64 0,.int .i64 1,.int .i64 1,.int .i64 2,.int .i64 2,.int .i64 0,.int .i64 2,.int .i64 3] 4 .shared]] (.tuple [.ay [.int .i64 2,.int .i64 3] 2 .full,.int .i64 0])
theorem ak1:q4 Go.Proofs.Tryz.prog aaN:=G5 Hr (by kernel_rfl)
def aaO:qR:=.pure 29 [.agg [.int .i64 5,.ay [.int .i64 0,.int .i64 1,.int .i64 2,.int .i64 3,.int .i64 4,.int .i64 4] 3 .shared]] (.tuple [.ay [.ay [.int .i64 0] 1 .shared,.ay [.int .i64 1] 1 .shared,.ay [.int .i64 2] 1 .shared] 3 .shared,.int .i64 0])
theorem ak2:q4 Go.Proofs.Tryz.prog aaO:=G5 Hr (by kernel_rfl)
def aaP:qR:=.pure 35 [.agg [.int .i64 5,.ay [.int .i64 0,.int .i64 1,.int .i64 2,.int .i64 3,.int .i64 4,.int .i64 4] 3 .shared]] (.tuple [.int .i64 3,.int .i64 0])
theorem ak3:q4 Go.Proofs.Tryz.prog aaP:=G5 Hr (by kernel_rfl)
def aaQ:qR:=.pure 41 [.agg [.int .i64 5,.ay [.int .i64 0,.int .i64 1,.int .i64 2,.int .i64 3,.int .i64 4,.int .i64 4] 3 .shared]] (.tuple [.ay [.ay [.int .i64 0,.int .i64 0] 1 .shared,.ay [.int .i64 1,.int .i64 0] 1 .shared,.ay [.int .i64 2,.int .i64 0] 1 .shared] 3 .shared,.int .i64 0])
theorem ak4:q4 Go.Proofs.Tryz.prog aaQ:=G5 Hr (by kernel_rfl)
def aaS:qR:=.pure 37 [.agg [.int .i64 5,.ay [.int .i64 0,.int .i64 1,.int .i64 2,.int .i64 3,.int .i64 4,.int .i64 4] 3 .shared]] (.tuple [.ay [] 0 .shared,.int .i64 27])
theorem ak6:q4 Go.Proofs.Tryz.prog aaS:=G5 Hr (by kernel_rfl)
def aaT:qR:=.pure 42 [.agg [.int .i64 2,.ay [.int .i64 0,.int .i64 1,.int .i64 1,.int .i64 0] 2 .shared]] (.tuple [.ay [.int .i64 0,.int .i64 0,.int .i64 1,.int .i64 0] 2 .shared,.int .i64 0])
theorem ak7:q4 Go.Proofs.Tryz.prog aaT:=G5 Hr (by kernel_rfl)
def aaV:qR:=.pure 39 [.agg [.int .i64 5,.ay [.int .i64 0,.int .i64 1,.int .i64 2,.int .i64 3,.int .i64 4,.int .i64 4] 3 .shared]] (.tuple [.int .i64 3,.int .i64 0])
theorem ak9:q4 Go.Proofs.Tryz.prog aaV:=G5 Hr (by kernel_rfl)
def aaW:qR:=.pure 31 [.agg [.int .i64 4,.ay [.int .i64 0,.int .i64 1,.int .i64 1,.int .i64 2,.int .i64 2,.int .i64 0,.int .i64 2,.int .i64 3] 4 .shared]] (.tuple [.ay [.int .i64 3] 1 .shared,.int .i64 0])
theorem ala:q4 Go.Proofs.Tryz.prog aaW:=G5 Hr (by kernel_rfl)
def aaX:qR:=.pure 45 [.agg [.int .i64 4,.ay [.int .i64 0,.int .i64 1,.int .i64 1,.int .i64 2,.int .i64 2,.int .i64 0,.int .i64 2,.int .i64 3] 4 .shared],.int .i64 0,.int .i64 3] (.tuple [.ay [.int .i64 2,.int .i64 1,.int .i64 3,.int .i64 0] 2 .shared,.int .i64 0])
theorem alb:q4 Go.Proofs.Tryz.prog aaX:=G5 Hr (by kernel_rfl)
def aaY:qR:=.pure 45 [.agg [.int .i64 4,.ay [.int .i64 0,.int .i64 1,.int .i64 1,.int .i64 2,.int .i64 2,.int .i64 0,.int .i64 2,.int .i64 3] 4 .shared],.int .i64 1,.int .i64 1] (.tuple [.ay [] 0 .shared,.int .i64 2])
theorem alc:q4 Go.Proofs.Tryz.prog aaY:=G5 Hr (by kernel_rfl)
def aaZ:qR:=.pure 45 [.agg [.int .i64 5,.ay [.int .i64 0,.int .i64 1,.int .i64 2,.int .i64 3,.int .i64 4,.int .i64 4] 3 .shared],.int .i64 0,.int .i64 2] (.tuple [.ay [] 0 .shared,.int .i64 5])
theorem ald:q4 Go.Proofs.Tryz.prog aaZ:=G5 Hr (by kernel_rfl)
end Go.Proofs.YtfakoboiahbhaaaGreat.Ab
