
import Derived.Test.YtfakoboiahbhaaaGreatJr4
import Derived.Test.YtfakoboiahbhaaaGreatProg
import Derived.KernelRfl
import Derived.Test.YtfakoboiahbhaaaGreatJr3
set_option linter.unusedSimpArgs false
set_option linter.unusedVariables false
set_option linter.unusedSectionVars false

open List renaming getElem?_eq_some_iff→sa,map_cons→se
open Nat renaming blt_eq→tC,zero_le→sr
open Option renaming bind_eq_some_iff→sf
namespace Go.Proofs.YtfakoboiahbhaaaGreat.Ab
open Go
noncomputable def Td:eA :=
 .j2 false [Gm 30 9,Gm 31 11,gO 32 [.hI 30,.hI 31] (.app 1 8),Gm 9 32]
noncomputable def O':eA :=
 .block 3 (Gx [gO 25 [.sl 21,.sl 23] (.pO 1),Gj 26 25,Gm 11 26] (Gx [Gl 27 8,Gl 28 11,gO 29 [.sl 27,.sl 28] (.call 6)] (.cond (.sl 29) Td .skip)))
noncomputable def Te:eA :=
 .j2 false [Gm 36 5, Gm 37 8, gO 38 [.iC (.func 101 [] []), .hI 36, .hI 37] (.call 1), ⟨some 39, [.hI 9], none, some 9, .other (Oper.mk (some 39) (Op.move (Operand.tmp 9)) 38 "table.go:86" (Array.mk []) none) 2⟩, gO 40 [.hL 39] (.x_ 1 1 [.ay [] 0 .full] [0]), gO 41 [.hI 38, .hI 40] (.x2 1 24), Gm 5 41]
noncomputable def L8:eA :=
 .loop (some (Ex false [2,1,2,1,2,2,2,3,6,3,22])) (Gx [gO 24 [.sl 23,.sl 22] (.bin .lss)] (.seq (.cond (.sl 24) .skip (.exit 2)) (.seq O' (Gq [FX 33 23 1,Gm 23 33]))))
noncomputable def Pb:eA :=
 Gx [⟨some 34,[.hI 9],none,some 9,.A5⟩,gO 35 [.iC (.func 73 [] []),.hI 34] (.call 1)] Te
noncomputable def Tf:eA :=
 .seq (Gx [Gl 21 5,gO 22 [.sl 21] .w8,Gk 23 0] (.block 2 L8)) Pb
noncomputable def Tg:eA :=
 Gx [gO 18 [.sl 2,.sl 7] (.zu 98 0 2),Gm 8 18] (Gx [Gj 19 7,gO 20 [.hL 19] (.x_ 1 1 [.int .i64 0] [0]),Gm 9 20] Tf)
noncomputable def Th:eA :=
 .block 1 (Gx [gO 16 [.sl 12,.sl 14] (.pO 1),Gj 17 16,gO 7 [] (.alloc [.int .i64 0]),⟨none,[.sl 7,.hI 17],none,none,.st 1⟩] Tg)
noncomputable def Ti:eA :=
 Gx [Gl 43 5, gO 44 [.iC (.func 102 [] []), .hI 43, .iC (.func 103 [] [])] (.call 1)] (Gx [⟨some 45, [.hI 5], none, some 5, .other (Oper.mk (some 45) (Op.move (Operand.tmp 5)) 41 "table.go:89" (Array.mk []) none) 2⟩, Gm 4 45] .ret)
noncomputable def Pa:eA :=
 .loop (some (Ex false [2,1,2,1,6,3,31])) (Gx [gO 15 [.sl 14,.sl 13] (.bin .lss)] (.seq (.cond (.sl 15) .skip (.exit 0)) (.seq Th (Gq [FX 42 14 1,Gm 14 42]))))
noncomputable def Tj:eA :=
 .seq (Gx [Gm 12 1,gO 13 [.sl 12] .w8,Gk 14 0] (.block 0 Pa)) Ti
noncomputable def XH:eA :=
 Gx [gO 2 [.hI 0] .box,gO 4 [.iC (.ay [] 0 .full)] (.nil 1)] (Gx [gO 5 [.iC (.ay [] 0 .full)] .A5] Tj)
theorem ae3:ze Go.Proofs.Tryz.prog Lx 79=some (XH,46,[.tmp 4]):=by kernel_rfl
end Go.Proofs.YtfakoboiahbhaaaGreat.Ab


namespace Go.Proofs.YtfakoboiahbhaaaGreat.Ab
open Go
set_option maxRecDepth 20000
set_option maxHeartbeats 4000000
noncomputable def PY:eA :=
 .loop (some (Ex false [0,2,5,2,10])) (Gx [gO 9 [.sl 8,.sl 7] (.bin .lss)] (.seq (.cond (.sl 9) .skip (.exit 0)) (.seq (.block 1 (Gx [Gl 10 8,Gm 5 10] (Gx [Gl 11 1,Gl 12 0,Gl 13 5,Gf 14 12 13 1,Gj 15 14,gO 16 [.sl 11,.sl 15] (.call 6)] (.cond (.sl 16) (Gx [Gm 17 5,Gm 4 17] .ret) .skip)))) (Gq [FX 18 8 1,Gm 8 18]))))
noncomputable def aau:eA :=
 Gx [Gk 4 0] (.seq (Gx [Gl 6 0,Gi 7 6,Gk 8 0] (.block 0 PY)) (Gx [Gk 4 (-1)] .ret))
theorem aff:ze Tryz.prog QC 114=some (aau,19,[.tmp 4]):=by kernel_rfl
def K5 (s:qa) (f:(Int→Option Bool)) (p9:Unit→Option Int):Nat→Int→Option Int
 | 0,_=>none
 | m+1,s1 =>
   if (decide (s1<(s.length:Int)))=true then
    p6 (0≤s1∧s1<(s.length:Int)) <|
    (f (ix s s1)).bind fun r1 =>
    if r1=true then
     some s1
    else
     K5 s f p9 m (w (s1+(1:Int)))
   else
    p9 ()
def Ml (s:qa) (f:(Int→Option Bool)):Option Int :=
 K5 s f (fun _ =>
   some (-1:Int)) p8 (0:Int)
theorem ajt {s:qa} {f:(Int→Option Bool)} {p9:Unit→Option Int} {s1:Int} {rk:FuncId} {qQ:List I} (rA:rL qQ) (Hv:∀ (qx:Int) (r:Bool),f qx=some r→qg rk ((hR qx)::qQ) (B r)) {v:Int} {Q:rp}   (jy:qn [.tmp 4] Q (fun v=>(hR v)) v) (rm:∀ (p5:List I),p9 ()=some v→q7 19 [] p5→Q (.exit 0) p5 []) {T:List I} (bX:eT (Ex false [0,2,5,2,10]) T=GD 19 [(0,(qj s .shared)),(1,(.func rk [] qQ)),(7,(hR (s.length:Int))),(8,(hR s1))]) (h:K5 s f p9 p8 s1=some v) :
  dD Tryz.prog QC 114 0 none PY T [] Q:=by
 unfold PY;refine wp_loop bX ?_;refine .intro (fun m T H=>∃ (s1:Int),T=GD 19 [(0,(qj s .shared)),(1,(.func rk [] qQ)),(7,(hR (s.length:Int))),(8,(hR s1))]∧H=[]∧K5 s f p9 m s1=some v) p8 ⟨s1,rfl,rfl,h⟩ ?_;clear h bX;rintro m T H ⟨s1,rfl,rfl,h⟩;cases m
 ·exact q9 h
 rename_i m;rw [K5.eq_2] at h;conv=>whnf
 refine bs h (fun eW h=>?_) fun eW h=>?_
 ·rw [eW];conv=>whnf
  refine qm h id fun fm h=>?_;rw [rP hR s s1 fm];conv=>whnf
  obtain ⟨r1,qd,h⟩:=p' h;refine ⟨_,_,call6 (bs:=((hR (ix s s1))::qQ)) (by simp only [se,rA.il,rA.cr];rfl) (by simp only [se,rA.il];exact (pY rfl rA.Lw)) (Hv _ _ qd) rfl,?_⟩;conv=>whnf
  cases r1
  ·(conv=>whnf);replace h:=GK rfl h;exact ⟨m,Nat.lt_succ_self m,(w (s1+(1:Int))),rfl,rfl,h⟩
  ·(conv=>whnf);replace h:=GL rfl h;exact p4 h jy rfl rfl
 ·rw [eW];conv=>whnf
  exact rm  _ h ⟨rfl,rfl⟩
theorem T2 {s:qa} {f:(Int→Option Bool)} {rk:FuncId} {qQ:List I} (rA:rL qQ) (Hv:∀ (qx:Int) (r:Bool),f qx=some r→qg rk ((hR qx)::qQ) (B r)) {v:Int} (h:Ml s f=some v):qg 114 [(.ay (s.map hR) s.length .shared),(.func rk [] qQ)] (hR v):=by
 refine qB dJ aff rfl rfl fun Q bl=>?_;have jy:qn [.tmp 4] Q (fun v=>(hR v)) v:=fun T H bI=>bl _ T H bI;unfold Ml at h;unfold aau;obtain ⟨Hn,qC⟩:∃ c,PY=c:=⟨_,rfl⟩;rw [qC];conv=>whnf
 subst qC;refine ajt rA Hv ?_ ?_ (by exact rfl) h
 ·exact fun T H bI=>jy T H bI
 ·intro  p5 h qi;obtain ⟨qZ,rfl⟩:=qi.ex;conv=>whnf
  exact p4 h jy rfl rfl

noncomputable def aa6:eA :=
 Gx [gO 4 [.iC (.bool false)] .iS] (Gx [Gm 5 0,Gm 6 1,gO 7 [.iC (.func 114 [] []),.sl 5,.sl 6] (.call 6),FY 8 7 0 .geq,Gm 4 8] .ret)
theorem afR:ze Tryz.prog Vf 92=some (aa6,9,[.tmp 4]):=by kernel_rfl
def JW (s:qa) (f:(Int→Option Bool)):Option Bool :=
 (Ml s f).bind fun r1 =>
 some (decide ((0:Int)≤r1))
theorem PQ {s:qa} {f:(Int→Option Bool)} {rk:FuncId} {qQ:List I} (rA:rL qQ) (Hv:∀ (qx:Int) (r:Bool),f qx=some r→qg rk ((hR qx)::qQ) (B r)) {v:Bool} (h:JW s f=some v):qg 92 [(.ay (s.map hR) s.length .shared),(.func rk [] qQ)] (B v):=by
 refine qB dJ afR rfl rfl fun Q bl=>?_;have jy:qn [.tmp 4] Q (fun v=>(B v)) v:=fun T H bI=>bl _ T H bI;unfold JW at h;unfold aa6;conv=>whnf
 obtain ⟨r1,eW,h⟩:=p' h;refine ⟨_,_,HZ (cs:=[(qj s .shared),(.func rk [] qQ)]) (bs:=[(qj s .shared),(.func rk [] qQ)]) (qX rfl (qX (rA.fn _ _) rn)) (by rfl) (by exact (pY (ra (fun _=>rfl) _ _ _) (pY (rA.Ni _) rfl))) (T2 rA Hv eW) rfl,?_⟩;conv=>whnf
 exact p4 h jy rfl rfl
end Go.Proofs.YtfakoboiahbhaaaGreat.Ab


namespace Go.Proofs.YtfakoboiahbhaaaGreat.Ab
open Go
section
variable {P:Program} {B N:Nat} {J:List Nat} {w:World} {U:Nat→Option aI} {S:Nat→Nat→Prop}
theorem agD {k : Nat} {f : Func} {c : Code} (aQ : P.funcs[k]? = some f) (ag : f.body = some c) (aN : f.name ≠ "runtime.NumGoroutine")
  {args:List I} {v:I} (aC:cq 8 v=true) {K:cB→a5→Prop}
  (ai:∀ (Q:Exit→Act→World→Prop) (B N:Nat) (J:List Nat) (w:World) (U:Nat→Option aI) (S:Nat→Nat→Prop) (a:Act),(∀ l a w,¬ Q (.goto l) a w)→ct B N U J S w ⟨args++List.replicate (f.ntmps-args.length) .junk,[]⟩ a →
   (∀ e aF,K e aF→∀ aM w',Step B N U J S w aF aM w'→Q (toExit e) aM w')→c.wpIn Fence.wide 0 P Q a w)
  (fE:∀ e s,K e s→(e=.normal∨e=.ret)∧∃ vs r,fg P s.H s.T f.results.toList=some vs∧bJ s.H 0 s.H.length 0 8 (hb vs)=some r∧(r=v∨r.settle=v)):lh P k args v:=by
 refine ⟨⟨ba.refl _ _,⟨f,aQ,by simp [ag],aN⟩,fun B U J S w xs ah _ ae=>?_⟩,aC⟩;refine callsIn_of_wp_marks aQ ag trivial ?_;have aK:=xM ah ae f.ntmps;have db:=(oe ah).1;refine ai _ B w.heap.size J w (hK U) S _ (fun l a w aO=>aO.elim) aK fun e s av aM w' ai=>?_;obtain ⟨he,vs,r,aj,Cs,ei⟩:=fE e s av;obtain ⟨b2,cQ,a4,aJ,aP,b'⟩:=ai;have iK:LeavesInM Fence.wide 0 P f aM.tmps (fv B U J S w [] v) aM.defers .returning w':=by
  refine nG (U:=b2) (S:=a4) (J:=cQ) (B:=B) (H:=s.H) (lg:=U) (S0:=S) (w0:=w) aM.defers w' b'.M.2.1 b'.M.2.2 (db.trans aP) b'.H fun bT du dm mi mj=>?_
  have bX:a9 .slot b2 cQ a4 bT s.T aM.tmps.toList:=⟨b'.T.len,fun i u v hu ae=>(b'.T.rel i u v hu ae).mono (Ext.refl _) (fun b o h=>⟨h,dm b o h⟩),fun i u v hu ae =>
   (b'.T.own i u v hu ae).mono (Ext.refl _) (fun b o h=>⟨h,dm b o h⟩) fun b ag=>⟨ag,du b _ ag,fun _ h=>h⟩⟩
  obtain ⟨x,q1,aW⟩:=xq mj bX aj;have nt:=xh ah (fun id aE=>by simp at aE) Cs (a1.after aJ mi aW);refine ⟨x,q1,?_⟩;rcases ei with rfl | ei
  ·exact nt
  ·cases r with
   | ay cells len gx =>
     cases gx with
     | uniq z=>simp only [I.settle] at ei;subst ei;exact nt.settle
     | _=>simp only [I.settle] at ei;subst ei;exact nt
   | _=>simp only [I.settle] at ei;subst ei;exact nt
 rcases he with rfl | rfl
 ·exact iK
 ·exact iK
end
theorem OS (P:Program):c' P (fun _ _ _ _=>none):=⟨fun h=>by simp at h,fun h=>by simp at h⟩
noncomputable def OY (f:Func):Option (cB×a5)→Option I
 | some (.normal,s) | some (.ret,s)=>(fg Go.Proofs.Tryz.prog s.H s.T f.results.toList).bind fun vs=>bJ s.H 0 s.H.length 0 8 (hb vs)
 | _=>none
theorem Xg {f:Func} {x:Option (cB×a5)} {v:I} (h:OY f x=some v):∃ e s,x=some (e,s)∧(e=.normal∨e=.ret)∧∃ vs,fg Go.Proofs.Tryz.prog s.H s.T f.results.toList=some vs∧bJ s.H 0 s.H.length 0 8 (hb vs)=some v:=by
 unfold OY at h;split at h
 ·simp only [sf] at h;obtain ⟨vs,ad,af⟩:=h;exact ⟨_,_,rfl,.inl rfl,vs,ad,af⟩
 ·simp only [sf] at h;obtain ⟨vs,ad,af⟩:=h;exact ⟨_,_,rfl,.inr rfl,vs,ad,af⟩
 ·cases h
noncomputable def XX (k p:Nat) (args:List I):Option I:=match Go.Proofs.Tryz.prog.funcs[k]? with
 | some f=>match f.body with
   | some (.seq hD (.seq (.region id ops true) rest)) =>
     match codeOk (jr k) hD, codeOk (jr k) rest, f.name == "runtime.NumGoroutine", Nat.blt (p + 1) ops.size, m8 ops ((jr k).ops.getD id []) p (p + 1) with
     | true,true,false,true,true =>
       match exec Go.Proofs.Tryz.prog (jr k) (fun _ _ _ _=>none) k 0 9 none hD 0 ⟨args++List.replicate (f.ntmps-args.length) .junk,[]⟩ with
       | some (.normal,TF) =>
         match cw Go.Proofs.Tryz.prog (fun _ _ _ _=>none) 0 ops ((jr k).ops.getD id []) (List.range ops.size) TF,cw Go.Proofs.Tryz.prog (fun _ _ _ _=>none) 0 ops ((jr k).ops.getD id []) (fh ops.size p (p+1)) TF with
         | some s1,some s2 =>
           match OY f (exec Go.Proofs.Tryz.prog (jr k) (fun _ _ _ _=>none) k 0 9 none rest 0 s1),OY f (exec Go.Proofs.Tryz.prog (jr k) (fun _ _ _ _=>none) k 0 9 none rest 0 s2) with
           | some u,some v=>match HY 20 u v,cq 8 u with
             | true,true=>some u
             | _,_=>none
           | _,_=>none
         | _,_=>none
       | _=>none
     | _,_,_,_,_=>none
   | _=>none
 | none=>none
theorem rM {k p:Nat} {args:List I} {v:I} (h:XX k p args=some v):lh Go.Proofs.Tryz.prog k args v:=by
 unfold XX at h;split at h
 ·rename_i f aQ;split at h
  ·rename_i hD id ops rest ag;split at h
   ·rename_i a' bk bq b7 dY;split at h
    ·rename_i TF aeF;split at h
     ·rename_i s1 s2 dr CV;split at h
      ·rename_i u br jJ pB;split at h
       ·rename_i heq aC;have e:=Lz 20 _ _ heq;subst e;cases h;obtain ⟨e1,t1,y1,M7,aiM,ea,LL⟩:=Xg jJ;obtain ⟨ck,t2,iP,ad3,mR,dC,Cm⟩:=Xg pB;refine agD aQ ag (by simpa using bq) aC (K:=fun e s=>(e=e1∧s=t1)∨(e=ck∧s=t2)) (fun Q B N J w U S a aO aK bl=>?_) (fun e s av=>?_)
        ·have Gc:=dJ;refine wpIn_seq (na (OS _) Gc hD 0 _ _ _ aeF a' Fence.wide _ B N J w U S a (.inl ⟨rfl,rfl⟩) (fun l a w=>aO l a w) aK fun aM w' ai=>?_);obtain ⟨b2,cQ,a4,aJ,aP,b'⟩:=ai;refine wpIn_seq (Ef (jh.lF (J:=cQ) (rl:=none) (.inl ⟨rfl,rfl⟩)) Gc (OS _) (by simpa [tC] using b7) dY dr CV b' fun aF g1 aH bT dO=>?_);obtain ⟨bn,cg,bH,cj,jO,oX⟩:=dO;rcases g1 with rfl | rfl
         ·exact na (OS _) Gc rest 0 _ _ _ y1 bk Fence.wide Q B N cg bT bn bH aH (.inl ⟨rfl,rfl⟩) aO oX fun aR rR C5=>bl _ _ (.inl ⟨rfl,rfl⟩) aR rR ((C5.trans cj jO).trans aJ aP)
         ·exact na (OS _) Gc rest 0 _ _ _ iP bk Fence.wide Q B N cg bT bn bH aH (.inl ⟨rfl,rfl⟩) aO oX fun aR rR C5=>bl _ _ (.inr ⟨rfl,rfl⟩) aR rR ((C5.trans cj jO).trans aJ aP)
        ·rcases av with ⟨rfl,rfl⟩ | ⟨rfl,rfl⟩
         ·exact ⟨M7,aiM,_,ea,LL,.inl rfl⟩
         ·exact ⟨ad3,mR,_,dC,Cm,.inl rfl⟩
       ·cases h
      ·cases h
     ·cases h
    ·cases h
   ·cases h
  ·cases h
 ·cases h
end Go.Proofs.YtfakoboiahbhaaaGreat.Ab


namespace Go.Proofs.YtfakoboiahbhaaaGreat.Ab
open Go
section
variable {P:Program}
theorem R3 {lo:Nat} {ops:Array Oper} {an:List b5}:∀ {O:List Nat} {rl:List cx} {acc:di} {T:List I} {H:List au} {K:List I→List au→Prop},fe P ops an O=some rl→hl P acc→gH P lo true rl acc T H K →
  ∃ dy a7 H',hl P dy∧(∀ p∈acc,p∈dy)∧(∀ C,hO C dy→cw P C lo ops an O ⟨T,H⟩=some ⟨a7,H'⟩)∧K a7 H'
 | [],rl,acc,T,H,K,ak,cd,h=>by simp only [fe,Option.some.injEq] at ak;subst ak;exact ⟨acc,T,H,cd,fun _ h=>h,fun _ _=>rfl,h⟩
 | i::r,rl,acc,T,H,K,ak,cd,h=>by
   simp only [fe] at ak;split at ak
   ·rename_i o hi;split at ak
    ·rename_i cP l' ad af;simp only [Option.some.injEq] at ak;subst ak;obtain ⟨x1,fi,H1,aB,aH,aR,bj⟩:=xV ad cd h;obtain ⟨oy,dS,a2,bo,cI,eB,js⟩:=R3 af aB bj;refine ⟨oy,dS,a2,bo,fun p aC=>cI p (aH p aC),fun C ch=>?_,js⟩;simp only [cw,hi];rw [aR C (fun p aC=>ch p (cI p aC)),Option.bind_some];exact eB C ch
    ·cases ak
   ·cases ak
theorem agE {k : Nat} {f : Func} {c : Code} (aQ : P.funcs[k]? = some f) (ag : f.body = some c) (aN : f.name ≠ "runtime.NumGoroutine")
  {args:List I} {v:I} (aC:cq 8 v=true) {K:cB→a5→Prop}
  (ai:∀ (Q:Exit→Act→World→Prop) (B N:Nat) (J:List Nat) (w:World) (U:Nat→Option aI) (S:Nat→Nat→Prop) (a:Act),(∀ l a w,¬ Q (.goto l) a w)→ct B N U J S w ⟨args++List.replicate (f.ntmps-args.length) .junk,[]⟩ a →
   (∀ e aF,K e aF→∀ aM w',Step B N U J S w aF aM w'→Q (toExit e) aM w')→c.wpIn Fence.wide 0 P Q a w)
  (fE:∀ e s,K e s→(e=.normal∨e=.ret)∧∃ vs r,fg P s.H s.T f.results.toList=some vs∧bJ s.H 0 s.H.length 0 8 (hb vs)=some r∧r.settle.view.cr=v):lh P k args v:=by
 refine ⟨⟨ba.refl _ _,⟨f,aQ,by simp [ag],aN⟩,fun B U J S w xs ah _ ae=>?_⟩,aC⟩;refine callsIn_of_wp_marks aQ ag trivial ?_;have aK:=xM ah ae f.ntmps;have db:=(oe ah).1;refine ai _ B w.heap.size J w (hK U) S _ (fun l a w aO=>aO.elim) aK fun e s av aM w' ai=>?_;obtain ⟨he,vs,r,aj,Cs,ei⟩:=fE e s av;obtain ⟨b2,cQ,a4,aJ,aP,b'⟩:=ai;have iK:LeavesInM Fence.wide 0 P f aM.tmps (fv B U J S w [] v) aM.defers .returning w':=by
  refine nG (U:=b2) (S:=a4) (J:=cQ) (B:=B) (H:=s.H) (lg:=U) (S0:=S) (w0:=w) aM.defers w' b'.M.2.1 b'.M.2.2 (db.trans aP) b'.H fun bT du dm mi mj=>?_
  have bX:a9 .slot b2 cQ a4 bT s.T aM.tmps.toList:=⟨b'.T.len,fun i u v hu ae=>(b'.T.rel i u v hu ae).mono (Ext.refl _) (fun b o h=>⟨h,dm b o h⟩),fun i u v hu ae =>
   (b'.T.own i u v hu ae).mono (Ext.refl _) (fun b o h=>⟨h,dm b o h⟩) fun b ag=>⟨ag,du b _ ag,fun _ h=>h⟩⟩
  obtain ⟨x,q1,aW⟩:=xq mj bX aj;have nt:=xh ah (fun id aE=>by simp at aE) Cs (a1.after aJ mi aW);refine ⟨x,q1,?_⟩;rw [←ei];exact nt.Zi
 rcases he with rfl | rfl
 ·exact iK
 ·exact iK
noncomputable def R4 (P:Program) (A:c8) (k p:Nat):Option (eA×List cx×List cx×eA×Nat×List jk):=match P.funcs[k]? with
 | some f=>match f.body with
   | some (.seq hD (.seq (.region id ops true) rest)) =>
     match codeOk A hD, codeOk A rest, f.name == "runtime.NumGoroutine", Nat.blt (p + 1) ops.size, m8 ops (A.ops.getD id []) p (p + 1) with
     | true,true,false,true,true =>
       match dU P A hD 0,fe P ops (A.ops.getD id []) (List.range ops.size),fe P ops (A.ops.getD id []) (fh ops.size p (p+1)),dU P A rest 0,j3 P f.results.toList with
       | some a,some b,some c,some d,some rs=>some (a,b,c,d,f.ntmps,rs)
       | _,_,_,_,_=>none
     | _,_,_,_,_=>none
   | _=>none
 | none=>none
theorem ado (dJ:P.follows .mixedOrders=true) {k p:Nat} {A:c8} {zR rd:eA} {zU rc:List cx} {n:Nat} {rs:List jk} (ak:R4 P A k p=some (zR,zU,rc,rd,n,rs)) {args T:List I} (bX:args++List.replicate (n-args.length) .junk=T) {v:I} (aC:cq 8 v=true)
  (h:∀ Q:cB→List I→List au→Prop,(∀ e T H,HW rs v e T H→Q e T H)→dD P A k 0 none zR T [] fun e T H=>e=.normal∧gH P 0 true zU [] T H (fun T H=>dD P A k 0 none rd T H Q)∧∀ acc,gH P 0 true rc acc T H (fun T H=>dD P A k 0 none rd T H Q)):lh P k args v:=by
 unfold R4 at ak;split at ak
 ·rename_i f aQ;split at ak
  ·rename_i hD id ops rest ag;split at ak
   ·rename_i a' bk bq b7 dY;split at ak
    ·rename_i a b c d XS dL kK LS WI aeT;simp only [Option.some.injEq,Prod.mk.injEq] at ak;obtain ⟨rfl,rfl,rfl,rfl,rfl,rfl⟩:=ak;subst bX;have h:=h (fun e T H=>HW XS v e T H) fun _ _ _ h=>h;refine agE aQ ag (by simpa using bq) aC (K:=fun e s=>HW XS v e s.T s.H) (fun Q B N J w U S a aO aK bl=>?_) (fun e s ⟨cb,vs,BX,r,b8,d_⟩=>⟨cb,vs,r,by rw [xk _ _ aeT,BX],b8,d_⟩);refine wpIn_seq (oi dJ hD 0 _ _ (w_ dL h) a' Fence.wide _ B N J w U S a (.inl ⟨rfl,rfl⟩) (fun l a w=>aO l a w) aK fun e aF av aM w' ai=>?_);obtain ⟨rfl,ad,af⟩:=av;obtain ⟨b2,cQ,a4,aJ,aP,b'⟩:=ai;obtain ⟨x1,fi,H1,aB,_,aR,bj⟩:=R3 kK ⟨fun p aC=>by simp at aC,fun p aC=>by simp at aC⟩ ad;obtain ⟨oy,dS,a2,bo,cI,eB,js⟩:=R3 LS aB (af x1);obtain ⟨C,bt,ch⟩:=oz bo;refine wpIn_seq (Ef (jh.lF (J:=cQ) (rl:=none) (.inl ⟨rfl,rfl⟩)) dJ bt (by simpa [tC] using b7) dY (aR C fun p aC=>ch p (cI p aC)) (eB C ch) b' fun aF g1 aH bT dO=>?_);obtain ⟨bn,cg,bH,cj,jO,oX⟩:=dO;rcases g1 with rfl | rfl
     ·exact oi dJ rest 0 _ _ (w_ WI bj) bk Fence.wide Q B N cg bT bn bH aH (.inl ⟨rfl,rfl⟩) aO oX fun e s av aR rR C5=>bl e s av aR rR ((C5.trans cj jO).trans aJ aP)
     ·exact oi dJ rest 0 _ _ (w_ WI js) bk Fence.wide Q B N cg bT bn bH aH (.inl ⟨rfl,rfl⟩) aO oX fun e s av aR rR C5=>bl e s av aR rR ((C5.trans cj jO).trans aJ aP)
    ·cases ak
   ·cases ak
  ·cases ak
 ·cases ak
end
end Go.Proofs.YtfakoboiahbhaaaGreat.Ab


namespace Go.Proofs.YtfakoboiahbhaaaGreat.Ab
open Go
set_option maxRecDepth 20000
set_option maxHeartbeats 4000000
noncomputable def aai:eA:=.j2 false [gO 6 [.iC (.bool false)] .iS]
noncomputable def aaj:List cx:=[gO 9 [.sl 0] .iS,gO 10 [.hL 9] .zA,gO 11 [.hL 10] (.oR 0),gO 12 [.hL 11] (.oR 1),gO 13 [.hL 12] (.pV .one),gO 14 [.hI 1] .iS,gO 15 [.hL 13,.hL 14] (.pO 2),gO 16 [.hL 15] (.pV (.str 2)),gO 17 [.sl 0] .iS,gO 18 [.hL 17] .zA,gO 19 [.hL 18] (.oR 0),gO 20 [.hL 19] (.oR 1),gO 21 [.hL 20] (.za .one),gO 22 [.hI 2] .iS,gO 23 [.hL 21,.hL 22] (.pO 2),gO 24 [.hL 23] (.za (.str 2)),gO 7 [] (.alloc [.int .i64 0,.int .i64 0]),gO 8 [] (.alloc [.int .i64 0,.int .i64 0]),⟨none,[.sl 7,.hI 16],none,none,.st 2⟩,⟨none,[.sl 8,.hI 24],none,none,.st 2⟩]
noncomputable def aal:List cx:=[gO 9 [.sl 0] .iS,gO 10 [.hL 9] .zA,gO 11 [.hL 10] (.oR 0),gO 12 [.hL 11] (.oR 1),gO 13 [.hL 12] (.pV .one),gO 14 [.hI 1] .iS,gO 15 [.hL 13,.hL 14] (.pO 2),gO 16 [.hL 15] (.pV (.str 2)),gO 17 [.sl 0] .iS,gO 18 [.hL 17] .zA,gO 19 [.hL 18] (.oR 0),gO 20 [.hL 19] (.oR 1),gO 21 [.hL 20] (.za .one),gO 22 [.hI 2] .iS,gO 23 [.hL 21,.hL 22] (.pO 2),gO 24 [.hL 23] (.za (.str 2)),gO 8 [] (.alloc [.int .i64 0,.int .i64 0]),gO 7 [] (.alloc [.int .i64 0,.int .i64 0]),⟨none,[.sl 7,.hI 16],none,none,.st 2⟩,⟨none,[.sl 8,.hI 24],none,none,.st 2⟩]
noncomputable def akw:eA:=.seq (.j2 false [gO 25 [.sl 7] (.oR 0),gO 26 [.hL 25] (.pV .one),gO 27 [.sl 8] (.oR 0),gO 28 [.hL 27] (.pV .one),gO 29 [.hL 26,.hL 28] (.bin .eql),gO 30 [.hI 29] .iS,⟨some 31,[.sl 7],some (30,false),none,.oR 0⟩,⟨some 32,[.hL 31],some (30,false),none,.pV .one⟩,⟨some 33,[.sl 8],some (30,false),none,.oR 1⟩,⟨some 34,[.hL 33],some (30,false),none,.pV .one⟩,⟨some 35,[.hL 32,.hL 34],some (30,false),none,.bin .eql⟩,gO 36 [.hL 30,.iC (.bool true),.hL 35] .pick,gO 37 [.hI 36] .iS,⟨some 38,[.sl 7],some (37,false),none,.oR 1⟩,⟨some 39,[.hL 38],some (37,false),none,.pV .one⟩,⟨some 40,[.sl 8],some (37,false),none,.oR 0⟩,⟨some 41,[.hL 40],some (37,false),none,.pV .one⟩,⟨some 42,[.hL 39,.hL 41],some (37,false),none,.bin .eql⟩,gO 43 [.hL 37,.iC (.bool true),.hL 42] .pick,gO 44 [.hI 43] .iS,⟨some 45,[.hL 7],some (44,false),none,.oR 1⟩,⟨some 46,[.hL 45],some (44,false),none,.pV .one⟩,⟨some 47,[.hL 8],some (44,false),none,.oR 1⟩,⟨some 48,[.hL 47],some (44,false),none,.pV .one⟩,⟨some 49,[.hL 46,.hL 48],some (44,false),none,.bin .eql⟩,gO 50 [.hL 44,.iC (.bool true),.hL 49] .pick,gO 6 [.hI 50] .iS]) .ret
theorem ae7:R4 Tryz.prog Ux 100 16=some (aai,aaj,aal,akw,51,[.tmp 6]):=by kernel_rfl
def IM (a b:Int×Int):Bool:=decide (a.1=b.1) || decide (a.1=b.2) || decide (a.2=b.1) || decide (a.2=b.2)
def TW (t:p3) (i k:Int):Option Bool :=
 p6 (0≤i∧i<(t.2.length:Int)) <|
 p6 (0≤k∧k<(t.2.length:Int)) <|
 some (IM (ix t.2 i) (ix t.2 k))
theorem aje {t:p3} {i k:Int} {v:Bool} (h:TW t i k=some v):qg 100 [.bU [hR t.1,.ay (t.2.flatMap p0) t.2.length .shared],hR i,hR k] (B v):=by
 obtain ⟨eW,h⟩:=qJ h;obtain ⟨fm,h⟩:=qJ h;obtain rfl:=Option.some.inj h;refine ado dJ ae7 rfl rfl fun Q bl=>?_;have jy:∀ T H,HW [.tmp 6] (B (IM (ix t.2 i) (ix t.2 k))) .ret T H→Q .ret T H:=fun T H bI=>bl _ T H bI;unfold aai;conv=>whnf
 refine ⟨rfl,?_,fun acc=>?_⟩
 ·unfold aaj;conv=>whnf
  refine ⟨eW,?_⟩;rw [q3 p0 2 qw t.2 i eW];conv=>whnf
  refine ⟨fm,?_⟩;rw [q3 p0 2 qw t.2 k fm];conv=>whnf
  rcases Ij (decide ((ix t.2 i).1=(ix t.2 k).1)) with fT | fT
  ·rw [fT];(conv=>whnf);exact jy _ _ ⟨.inr rfl,_,rfl,_,oT rfl,(by unfold IM;rw [fT];rfl)⟩
  ·rw [fT];(conv=>whnf);rcases Ij (decide ((ix t.2 i).1=(ix t.2 k).2)) with e1 | e1
   ·rw [e1];(conv=>whnf);exact jy _ _ ⟨.inr rfl,_,rfl,_,oT rfl,(by unfold IM;rw [fT,e1];rfl)⟩
   ·rw [e1];(conv=>whnf);rcases Ij (decide ((ix t.2 i).2=(ix t.2 k).1)) with ck | ck
    ·rw [ck];(conv=>whnf);exact jy _ _ ⟨.inr rfl,_,rfl,_,oT rfl,(by unfold IM;rw [fT,e1,ck];rfl)⟩
    ·rw [ck];(conv=>whnf);exact jy _ _ ⟨.inr rfl,_,rfl,_,oT rfl,(by unfold IM;rw [fT,e1,ck];rfl)⟩
 ·unfold aal;conv=>whnf
  refine ⟨eW,?_⟩;rw [q3 p0 2 qw t.2 i eW];conv=>whnf
  refine ⟨fm,?_⟩;rw [q3 p0 2 qw t.2 k fm];conv=>whnf
  rcases Ij (decide ((ix t.2 i).1=(ix t.2 k).1)) with fT | fT
  ·rw [fT];(conv=>whnf);exact jy _ _ ⟨.inr rfl,_,rfl,_,oT rfl,(by unfold IM;rw [fT];rfl)⟩
  ·rw [fT];(conv=>whnf);rcases Ij (decide ((ix t.2 i).1=(ix t.2 k).2)) with e1 | e1
   ·rw [e1];(conv=>whnf);exact jy _ _ ⟨.inr rfl,_,rfl,_,oT rfl,(by unfold IM;rw [fT,e1];rfl)⟩
   ·rw [e1];(conv=>whnf);rcases Ij (decide ((ix t.2 i).2=(ix t.2 k).1)) with ck | ck
    ·rw [ck];(conv=>whnf);exact jy _ _ ⟨.inr rfl,_,rfl,_,oT rfl,(by unfold IM;rw [fT,e1,ck];rfl)⟩
    ·rw [ck];(conv=>whnf);exact jy _ _ ⟨.inr rfl,_,rfl,_,oT rfl,(by unfold IM;rw [fT,e1,ck];rfl)⟩

noncomputable def aba:eA :=
 Gx [gO 4 [.iC (.bool false)] .iS] (Gx [Gj 5 1,Gj 6 2,Gm 7 0,gO 8 [.iC (.func 100 [] []),.sl 5,.sl 6,.sl 7] (.call 3),Gm 4 8] .ret)
theorem afW:ze Tryz.prog Vj 99=some (aba,9,[.tmp 4]):=by kernel_rfl
def PT (k:Int) (c0:qb) (a':Int):Option Bool :=
 (TW c0 a' k).bind fun r1 =>
 some r1
theorem akv {k:Int} {c0:qb} {a':Int} {v:Bool} (h:PT k c0 a'=some v):qg 99 [(hR k),(.bU [(.bU [(hR c0.1),(.ay (c0.2.flatMap p0) c0.2.length .shared)])]),(.bU [(hR a')])] (B v):=by
 refine qB dJ afW rfl rfl fun Q bl=>?_;have jy:qn [.tmp 4] Q (fun v=>(B v)) v:=fun T H bI=>bl _ T H bI;unfold PT at h;unfold aba;conv=>whnf
 obtain ⟨r1,eW,h⟩:=p' h;refine ⟨qf.pl,_,aje eW,?_⟩;conv=>whnf
 exact p4 h jy rfl rfl

noncomputable def aa_:eA :=
 Gx [gO 4 [.iC (.bool false)] .iS] (Gx [Gm 5 0,gO 6 [.hL 1,.hL 2] (.zu 99 0 2),gO 7 [.iC (.func 92 [] []),.sl 5,.sl 6] (.call 6),Gm 4 7] .ret)
theorem afV:ze Tryz.prog Vi 98=some (aa_,8,[.tmp 4]):=by kernel_rfl
def Lr (part:qa) (c0:qb) (a':Int):Option Bool :=
 (JW part (fun qx=>PT qx c0 a')).bind fun r1 =>
 some r1
theorem aah {part:qa} {c0:qb} {a':Int} {v:Bool} (h:Lr part c0 a'=some v):qg 98 [(.ay (part.map hR) part.length .shared),(.bU [(.bU [(hR c0.1),(.ay (c0.2.flatMap p0) c0.2.length .shared)])]),(.bU [(hR a')])] (B v):=by
 refine qB dJ afV rfl rfl fun Q bl=>?_;have jy:qn [.tmp 4] Q (fun v=>(B v)) v:=fun T H bI=>bl _ T H bI;unfold Lr at h;unfold aa_;conv=>whnf
 obtain ⟨r1,eW,h⟩:=p' h;refine ⟨_,_,HZ (cs:=[(qj part .shared),(.func 99 [] [(.bU [(.bU [(hR c0.1),(p7 c0.2 .shared)])]),(.bU [(hR a')])])]) (bs:=[(qj part .shared),(.func 99 [] [(.bU [(.bU [(hR c0.1),(p7 c0.2 .shared)])]),(.bU [(hR a')])])]) (qX rfl (qX (Jt rn (qX rfl (qX rfl rn))) rn)) (by rfl) (by exact (pY (ra (fun _=>rfl) _ _ _) (pY (I1 rfl (pY (qK (pY (qK (pY rfl (pY (qG (fun _=>(pY rfl (pY rfl rfl))) _ _ _) rfl))) rfl)) (pY (qK (pY rfl rfl)) rfl))) rfl))) (PQ ⟨(pY (qK (pY (qK (pY rfl (pY (qG (fun _=>(pY rfl (pY rfl rfl))) _ _ _) rfl))) rfl)) (pY (qK (pY rfl rfl)) rfl)),by simp⟩ (fun _ _ a0=>akv a0) eW) rfl,?_⟩;conv=>whnf
 exact p4 h jy rfl rfl

abbrev G1 (tab:p3):I:=.bU [hR tab.1,.ay (tab.2.flatMap p0) tab.2.length .shared]
abbrev Ig (tab:p3):au:=.cells [G1 tab]
def Ou (tab:p3) (s:Int) (own r:List Int):Option (List Int):=(Lr r tab s).bind fun b=>if b=true then p6 ((own.length+r.length)*8≤140737488355328) (some (own++r)) else some own
def Ng (tab:p3) (out:List (List Int)) (s:Int):Option (List (List Int)) :=
 (HM (Ou tab s) out [s]).bind fun own=>p6 (own.length≤12∧own.length≠0∧out.length≤1000) ((KE (fun r=>Lr r tab s) out).bind fun rest=>some (rest++[GO own]))
def JV (tab:p3) (p_:List Int):Option (List (List Int)) :=
 p6 (p_.length≤1000) ((HM (Ng tab) p_ []).bind fun out=>p6 (out.length≤12∧out.all L_=true) (some (Ic out)))
theorem Vy {H:List au} {tab:p3} {c:Nat} {s:Int} (aS:H[0]?=some (Ig tab)) (ao:H[c]?=some (.cells [hR s])):[I.ptr 0 0,.ptr c 0].map (il H)=[.bU [G1 tab],.bU [hR s]] :=
 qX (Ib aS rfl) (qX (Ib ao rfl) rn)
theorem Vx (tab:p3) (s:Int):[I.bU [G1 tab],.bU [hR s]].all (cq 8)=true :=
 pY (qK (pY (qK (pY rfl (pY (qG (fun _=>(pY rfl (pY rfl rfl))) _ _ _) rfl))) rfl)) (pY rfl rfl)
theorem adI {tab:p3} {s:Int} {out:List (List Int)} {own:List Int} {x c i n:Nat} {sl:I} {H1:List au} (bB:HM (Ou tab s) out [s]=some own) (hlen:out.length≤1000) (Hc:H1[x]?=some (.grow (out.map jj) (x+1) 1)) (aS:H1[0]?=some (Ig tab)) (ao:H1[c]?=some (.cells [hR s]))
  {Q:cB→List I→List au→Prop} (av:Q (.exit 2) (GD 46 [(2,.ptr 0 0),(5,.cl x (x+1) out.length 1),(8,.func 98 [] [.ptr 0 0,.ptr c 0]),(9,.ay (own.map hR) own.length (.uniq 1)),(12,sl),(13,hR n),(14,hR i),(21,.ref x 0 out.length none 1),(22,hR out.length),(23,hR out.length),(24,B (decide ((out.length:Int)<(out.length:Int))))]) H1)
  {T:List I} (bX:eT [false,false,true,false,false,true,false,false,true,true,false,false,true,true,true,false,false,false,false,false,false,true,true,true,false,false,false,false,false,false,false,false,false,false,false,false,false,false,false,false,false,false,false,false,false,false] T=GD 46 [(2,.ptr 0 0),(5,.cl x (x+1) out.length 1),(8,.func 98 [] [.ptr 0 0,.ptr c 0]),(9,.ay [hR s] 1 (.uniq 1)),(12,sl),(13,hR n),(14,hR i),(21,.ref x 0 out.length none 1),(22,hR out.length),(23,hR (0:Nat))]) :
  dD Tryz.prog Lx 79 0 none L8 T H1 Q:=by
 unfold L8;obtain ⟨bk,b8⟩:∃ c,O'=c:=⟨_,rfl⟩;rw [b8];refine wp_loop bX ?_;obtain ⟨F,Qn,Fn,Qp⟩:=Q8 bB;refine .intro (fun m T H=>∃ k:Nat,k≤out.length∧m=out.length-k∧T=GD 46 [(2,.ptr 0 0),(5,.cl x (x+1) out.length 1),(8,.func 98 [] [.ptr 0 0,.ptr c 0]),(9,.ay ((F k).map hR) (F k).length (.uniq 1)),(12,sl),(13,hR n),(14,hR i),(21,.ref x 0 out.length none 1),(22,hR out.length),(23,hR k)]∧H=H1) out.length ⟨0,by omega,by omega,by rw [Qn];rfl,rfl⟩ ?_;clear bX;rintro m T H ⟨k,ak7,rfl,rfl,rfl⟩;conv=>whnf
 refine Hs (fun aU=>?_) (fun aU=>?_)
 ·have aU:k<out.length:=by omega
  conv=>whnf
  subst b8;unfold O';obtain ⟨a',cb⟩:∃ c,Td=c:=⟨_,rfl⟩;rw [cb];refine HU fun mU GZ=>?_;conv=>whnf
  refine ⟨by omega,?_⟩;conv=>whnf
  refine DU Hc ?_;conv=>whnf
  refine DU (TC out rfl aU) ?_;conv=>whnf
  obtain ⟨b,ag,ai⟩:=p' (Qp k aU);refine ⟨_,_,HZ (cs:=[jj out[k],.bU [G1 tab],.bU [hR s]]) (bs:=[jj out[k],.bU [G1 tab],.bU [hR s]]) (qX rfl (Vy aS ao)) rfl (pY (ra (fun _=>rfl) _ _ _) (Vx tab s)) (aah ag) rfl,?_⟩;conv=>whnf
  cases b with
  | true =>
    rw [if_pos rfl] at ai;obtain ⟨ak,ai⟩:=qJ ai;have ai:=Option.some.inj ai;(conv=>whnf);subst cb;unfold Td;(conv=>whnf);refine ⟨by simp,by omega,rfl,ak,?_⟩;erw [acm hR (F k) out[k]];rw [ai];(conv=>whnf);refine GZ _ _ _ ?_;(conv=>whnf);exact ⟨out.length-(k+1),by omega,k+1,by omega,rfl,by rw [←q5 k (by omega)] <;> rfl,rfl⟩
  | false =>
    have ai:=Option.some.inj ai;(conv=>whnf);refine GZ _ _ _ ?_;(conv=>whnf);exact ⟨out.length-(k+1),by omega,k+1,by omega,rfl,by rw [←ai,←q5 k (by omega)] <;> rfl,rfl⟩
 ·obtain rfl:k=out.length:=by omega
  conv=>whnf
  rw [Fn];exact av
theorem adJ {s:Int} {c i n:Nat} {sl:I} {H1:List au}
  {Q:cB→List I→List au→Prop} (av:Q (.exit 2) (GD 46 [(2,.ptr 0 0),(5,.ay [] 0 .full),(8,.func 98 [] [.ptr 0 0,.ptr c 0]),(9,.ay [hR s] 1 (.uniq 1)),(12,sl),(13,hR n),(14,hR i),(21,.ay [] 0 .full),(22,hR 0),(23,hR 0),(24,B false)]) H1)
  {T:List I} (bX:eT [false,false,true,false,false,true,false,false,true,true,false,false,true,true,true,false,false,false,false,false,false,true,true,true,false,false,false,false,false,false,false,false,false,false,false,false,false,false,false,false,false,false,false,false,false,false] T=GD 46 [(2,.ptr 0 0),(5,.ay [] 0 .full),(8,.func 98 [] [.ptr 0 0,.ptr c 0]),(9,.ay [hR s] 1 (.uniq 1)),(12,sl),(13,hR n),(14,hR i),(21,.ay [] 0 .full),(22,hR 0),(23,hR 0)]) :
  dD Tryz.prog Lx 79 0 none L8 T H1 Q:=by
 unfold L8;obtain ⟨bk,b8⟩:∃ c,O'=c:=⟨_,rfl⟩;rw [b8];refine wp_loop bX ?_;refine .intro (fun m T H=>T=GD 46 [(2,.ptr 0 0),(5,.ay [] 0 .full),(8,.func 98 [] [.ptr 0 0,.ptr c 0]),(9,.ay [hR s] 1 (.uniq 1)),(12,sl),(13,hR n),(14,hR i),(21,.ay [] 0 .full),(22,hR 0),(23,hR 0)]∧H=H1) 0 ⟨rfl,rfl⟩ ?_;clear bX;rintro m T H ⟨rfl,rfl⟩;conv=>whnf
 exact av
def J1 (tab:p3) (out:List (List Int)) (v5:I) (H:List au):Prop :=
 H[0]?=some (Ig tab)∧((out=[]∧v5=.ay [] 0 .full)∨∃ X:List au,0<X.length∧v5=.cl X.length (X.length+1) out.length 1∧H=X++[.grow (out.map jj) (X.length+1) 1,.dead])
theorem J1.mk' {tab:p3} {out:List (List Int)} {X:List au} (h:X[0]?=some (Ig tab)) {l:List I} (ak:l=out.map jj) {n:Nat} (aN:n=out.length):J1 tab out (.cl X.length (X.length+1) n 1) (X++[.grow l (X.length+1) 1,.dead]):=by
 subst ak aN;have ad:=(sa.1 h).1;exact ⟨qA h,.inr ⟨X,ad,rfl,rfl⟩⟩
theorem qF {H:List au} {i j:Nat} {o c:au} (h:H[i]?=some o) (aN:j≠i):(H.set j c)[i]?=some o:=by rw [List.getElem?_set_ne aN];exact h
theorem V6 {P:Program} {C:b6} {id n:Nat} {o:Oper} {x:Operand} {H:List au} (l:List Int) (aq:o.op=.move x) (aN:n=l.length) (ah:H[id]?=some (.cells (l.map hR))) :
  a8 P C 0 o 2 [.ref id 0 n none 1] H=some (jj l,H.set id .dead) :=
 adr (cs:=l.map hR) (sz:=1) aq (sr _) ah aN (by simp) (aiJ (fun _=>rfl) _)
theorem Xj {tab:p3} {s:Int} {out rest:List (List Int)} {own:List Int} {v5:I} {H:List au} {i n:Nat} {sl:I} (cm:J1 tab out v5 H) (LD:own.length≤12) (bM:own.length≠0) (hlen:out.length≤1000) (aZ:KE (fun r=>Lr r tab s) out=some rest)
  {v21 v22 v23 v24:I} {Q:cB→List I→List au→Prop} (av:∀ Mh H' TT TN TP TQ TR Me Mf Mg TS,J1 tab (rest++[GO own]) Mh H'→Q .normal (GD 46 [(2,.ptr 0 0),(5,Mh),(9,TT),(12,sl),(13,hR n),(14,hR i),(21,v21),(22,v22),(23,v23),(24,v24),(34,TN),(35,TP),(36,TQ),(37,TR),(38,Me),(39,Mf),(40,Mg),(41,TS)]) H') :
  dD Tryz.prog Lx 79 0 none Pb (GD 46 [(2,.ptr 0 0),(5,v5),(8,.func 98 [] [.ptr 0 0,.ptr H.length 0]),(9,.ay (own.map hR) own.length (.uniq 1)),(12,sl),(13,hR n),(14,hR i),(21,v21),(22,v22),(23,v23),(24,v24)]) (H++[.cells [hR s]]) Q:=by
 unfold Pb;obtain ⟨bq,d_⟩:∃ c,Te=c:=⟨_,rfl⟩;rw [d_];obtain ⟨aS,cm⟩:=cm;have fD:=(sa.1 aS).1;conv=>whnf
 refine .inl ⟨bM,?_⟩;conv=>whnf
 refine ⟨_,_,Ha (X9 own (sr _) LD rfl (IH _ _)),?_⟩;rw [ru];conv=>whnf
 subst d_;unfold Te;rcases cm with ⟨rfl,rfl⟩ | ⟨X,JI,rfl,rfl⟩
 ·obtain rfl:rest=[]:=(Option.some.inj aZ).symm;conv=>whnf
  refine ⟨_,_,Ha acU,?_⟩;conv=>whnf
  refine ⟨_,_,fun C=>V6 (GO own) rfl (Po own).symm (IH _ _),?_⟩;rw [ru];conv=>whnf
  refine ⟨⟨rfl,by decide⟩,?_⟩;conv=>whnf
  refine ⟨⟨by decide,by decide,rfl⟩,?_⟩;conv=>whnf
  exact av _ _ _ _ _ _ _ _ _ _ _ (J1.mk' (qA (qA aS)) rfl rfl)
 ·conv=>whnf
  refine ⟨_,_,Ha (acW (g:=X.length+1) (cs:=[.bU [G1 tab],.bU [hR s]]) aZ (sr _) (fun c=>Vy (qF (qA (qA aS)) (by omega)) (qF (qA (IH _ _)) (by simp))) rfl (Vx tab s) hlen rfl (fun _ _ ag=>aah ag) (qA (qA (LC _ _)))),?_⟩;conv=>whnf
  refine ⟨_,_,fun C=>V6 (GO own) rfl (Po own).symm (qF (IH _ _) (by simp <;> omega)),?_⟩;conv=>whnf
  refine ⟨⟨rfl,by decide⟩,?_⟩;conv=>whnf
  have aj:rest.length≤out.length:=by
   obtain ⟨p,_,e⟩:=VI aZ;rw [e];exact List.length_filter_le _ _
  refine ⟨⟨rfl,by decide,by omega⟩,?_⟩;conv=>whnf
  exact av _ _ _ _ _ _ _ _ _ _ _ (J1.mk' (qF (qF (qA (qA aS)) (by omega)) (by simp)) (by rw [List.map_append];rfl) (by simp))
theorem agr {tab:p3} {p_:List Int} {LV:List (List Int)} {H:List au} (bB:HM (Ng tab) p_ []=some LV) (C8:p_.length≤1000) (aS:H[0]?=some (Ig tab))
  {Q:cB→List I→List au→Prop} (av:∀ v5 H',J1 tab LV v5 H'→Q (.exit 0) (GD 46 [(2,.ptr 0 0),(5,v5),(12,jj p_),(13,hR p_.length),(14,hR p_.length),(15,B (decide ((p_.length:Int)<(p_.length:Int))))]) H')
  {T:List I} (bX:eT [false,false,true,false,false,true,false,false,false,false,false,false,true,true,true,false,false,false,false,false,false,false,false,false,false,false,false,false,false,false,false,false,false,false,false,false,false,false,false,false,false,false,false,false,false,false] T=GD 46 [(2,.ptr 0 0),(5,.ay [] 0 .full),(12,jj p_),(13,hR p_.length),(14,hR (0:Nat))]) :
  dD Tryz.prog Lx 79 0 none Pa T H Q:=by
 unfold Pa;obtain ⟨fR,rQ⟩:∃ c,Th=c:=⟨_,rfl⟩;rw [rQ];refine wp_loop bX ?_;obtain ⟨F,Qn,Fn,Qp⟩:=Q8 bB;refine .intro (fun m T H=>∃ (i:Nat) (v5:I),i≤p_.length∧m=p_.length-i∧J1 tab (F i) v5 H∧T=GD 46 [(2,.ptr 0 0),(5,v5),(12,jj p_),(13,hR p_.length),(14,hR i)]) p_.length ⟨0,_,by omega,by omega,⟨aS,.inl ⟨Qn,rfl⟩⟩,rfl⟩ ?_;clear bX aS;rintro m T H ⟨i,v5,hi,rfl,cm,rfl⟩;conv=>whnf
 refine Hs (fun aU=>?_) (fun aU=>?_)
 ·have aU:i<p_.length:=by omega
  obtain ⟨own,nr,aC⟩:=p' (Qp i aU);obtain ⟨⟨LD,bM,hlen⟩,aC⟩:=qJ aC;obtain ⟨rest,aZ,aC⟩:=p' aC;have aC:=Option.some.inj aC;conv=>whnf
  subst rQ;unfold Th;obtain ⟨dY,BZ⟩:∃ c,Tg=c:=⟨_,rfl⟩;rw [BZ];refine HU fun mU GZ=>?_;conv=>whnf
  refine ⟨by omega,?_⟩;conv=>whnf
  refine af6 _ _ _ (aU) ?_;conv=>whnf
  refine DU (IH _ _) ?_;conv=>whnf
  rw [ru];conv=>whnf
  subst BZ;unfold Tg;obtain ⟨b7,hp⟩:∃ c,Tf=c:=⟨_,rfl⟩;rw [hp];conv=>whnf
  refine DU (IH _ _) ?_;conv=>whnf
  subst hp;unfold Tf;obtain ⟨QR,IG⟩:∃ c,L8=c:=⟨_,rfl⟩;obtain ⟨akQ,Q'⟩:∃ c,Pb=c:=⟨_,rfl⟩;rw [IG,Q'];have o0:=cm;obtain ⟨aS,cm⟩:=cm;rcases cm with ⟨aq,rfl⟩ | ⟨X,JI,rfl,ah⟩
  ·(conv=>whnf);subst IG;have CQ:own=[p_[i]]:=by
    rw [aq] at nr;exact (Option.some.inj nr).symm
   refine adJ (s:=p_[i]) (c:=H.length) (n:=p_.length) (i:=i) (sl:=jj p_) ?_ (by exact rfl);(conv=>whnf);subst Q';refine Xj (own:=own) (v5:=.ay [] 0 .full) o0 LD bM hlen aZ (v21:=.ay [] 0 .full) (v22:=hR 0) (v23:=hR 0) (v24:=B false) ?_ |> cast (by rw [CQ];rfl)
   intro Mh H' TT TN TP TQ TR Me Mf Mg TS Jf;(conv=>whnf);refine GZ _ _ _ ?_;(conv=>whnf);exact ⟨p_.length-(i+1),by omega,i+1,Mh,by omega,rfl,by rw [←aC];exact Jf,by rw [←q5 i (by omega)] <;> rfl⟩
  ·(conv=>whnf);subst IG;refine adI (x:=X.length) (c:=H.length) (n:=p_.length) (i:=i) (sl:=jj p_) nr hlen (qA (by rw [ah];exact LC _ _)) (qA aS) (IH _ _) ?_ (by exact rfl);(conv=>whnf);subst Q';refine Xj (own:=own) o0 LD bM hlen aZ ?_;intro Mh H' TT TN TP TQ TR Me Mf Mg TS Jf;(conv=>whnf);refine GZ _ _ _ ?_;(conv=>whnf);exact ⟨p_.length-(i+1),by omega,i+1,Mh,by omega,rfl,by rw [←aC];exact Jf,by rw [←q5 i (by omega)] <;> rfl⟩
 ·obtain rfl:i=p_.length:=by omega
  conv=>whnf
  exact av _ _ (by rw [←Fn];exact cm)
theorem PG {t:p3} {p_:List Int} {v:List (List Int)} (h:JV t p_=some v):qg 79 [G1 t,.ay (p_.map hR) p_.length .shared] (.ay (v.map jj) v.length .shared):=by
 obtain ⟨C8,h⟩:=qJ h;obtain ⟨out,bB,h⟩:=p' h;obtain ⟨⟨LD,cS⟩,h⟩:=qJ h;obtain rfl:=Option.some.inj h;refine qB dJ ae3 rfl (ra (fun _=>(ra (fun _=>rfl) _ _ _)) _ _ _) fun Q bl=>?_;have jy:∀ T H,HW [.tmp 4] (.ay ((Ic out).map jj) (Ic out).length .shared) .ret T H→Q .ret T H:=fun T H bI=>bl _ T H bI;unfold XH;obtain ⟨m2,rT⟩:∃ c,Tj=c:=⟨_,rfl⟩;rw [rT];conv=>whnf
 subst rT;unfold Tj;obtain ⟨QR,IG⟩:∃ c,Pa=c:=⟨_,rfl⟩;obtain ⟨m1,G5⟩:∃ c,Ti=c:=⟨_,rfl⟩;rw [IG,G5];conv=>whnf
 subst IG;refine agr (tab:=t) bB C8 rfl ?_ (by exact rfl);intro v5 H' cm;conv=>whnf
 subst G5;unfold Ti;obtain ⟨aS,cm⟩:=cm;rcases cm with ⟨rfl,rfl⟩ | ⟨X,JI,rfl,rfl⟩
 ·have e:Ic []=[]:=List.eq_nil_of_length_eq_zero (by rw [TJ];rfl);rw [e] at jy;conv=>whnf
  refine ⟨_,_,Ha ah0,?_⟩;conv=>whnf
  refine ⟨_,_,fun C=>rfl,?_⟩;conv=>whnf
  exact jy _ _ ⟨.inr rfl,_,rfl,_,oT rfl,rfl⟩
 ·conv=>whnf
  refine ⟨_,_,Ha (ah4 out (sr _) LD cS rfl (LC X _)),?_⟩;rw [X0];conv=>whnf
  refine ⟨_,_,fun C=>V7 rfl (sr _) (LC X _) (by rw [List.length_map,TJ,Nat.mul_one]),?_⟩;rw [Y0 (fun _=>rfl),X0];conv=>whnf
  rw [TJ] at jy;exact jy _ _ ⟨.inr rfl,_,rfl,_,oT (ra (fun _=>(ra (fun _=>rfl) _ _ _)) _ _ _),rfl⟩
end Go.Proofs.YtfakoboiahbhaaaGreat.Ab


namespace Go.Proofs.YtfakoboiahbhaaaGreat.Ab
open Go
def Ye:qs:=.pure 100 [.bU [.int .i64 4,.ay [.int .i64 0,.int .i64 1,.int .i64 1,.int .i64 2,.int .i64 2,.int .i64 0,.int .i64 2,.int .i64 3] 4 .shared],.int .i64 0,.int .i64 0] (.bool true)
theorem ah9:qE Go.Proofs.Tryz.prog Ye:=rM (p:=16) (by kernel_rfl)
def Yf:qs:=.pure 100 [.bU [.int .i64 4,.ay [.int .i64 0,.int .i64 1,.int .i64 1,.int .i64 2,.int .i64 2,.int .i64 0,.int .i64 2,.int .i64 3] 4 .shared],.int .i64 0,.int .i64 1] (.bool true)
theorem ah_:qE Go.Proofs.Tryz.prog Yf:=rM (p:=16) (by kernel_rfl)
def Yg:qs:=.pure 100 [.bU [.int .i64 4,.ay [.int .i64 0,.int .i64 1,.int .i64 1,.int .i64 2,.int .i64 2,.int .i64 0,.int .i64 2,.int .i64 3] 4 .shared],.int .i64 0,.int .i64 2] (.bool true)
theorem aia:qE Go.Proofs.Tryz.prog Yg:=rM (p:=16) (by kernel_rfl)
def Yh:qs:=.pure 100 [.bU [.int .i64 4,.ay [.int .i64 0,.int .i64 1,.int .i64 1,.int .i64 2,.int .i64 2,.int .i64 0,.int .i64 2,.int .i64 3] 4 .shared],.int .i64 0,.int .i64 3] (.bool false)
theorem aib:qE Go.Proofs.Tryz.prog Yh:=rM (p:=16) (by kernel_rfl)
def Yi:qs:=.pure 100 [.bU [.int .i64 4,.ay [.int .i64 0,.int .i64 1,.int .i64 1,.int .i64 2,.int .i64 2,.int .i64 0,.int .i64 2,.int .i64 3] 4 .shared],.int .i64 1,.int .i64 0] (.bool true)
theorem aic:qE Go.Proofs.Tryz.prog Yi:=rM (p:=16) (by kernel_rfl)
def Yj:qs:=.pure 100 [.bU [.int .i64 4,.ay [.int .i64 0,.int .i64 1,.int .i64 1,.int .i64 2,.int .i64 2,.int .i64 0,.int .i64 2,.int .i64 3] 4 .shared],.int .i64 1,.int .i64 1] (.bool true)
theorem aid:qE Go.Proofs.Tryz.prog Yj:=rM (p:=16) (by kernel_rfl)
def Yk:qs:=.pure 100 [.bU [.int .i64 4,.ay [.int .i64 0,.int .i64 1,.int .i64 1,.int .i64 2,.int .i64 2,.int .i64 0,.int .i64 2,.int .i64 3] 4 .shared],.int .i64 1,.int .i64 2] (.bool true)
theorem aie:qE Go.Proofs.Tryz.prog Yk:=rM (p:=16) (by kernel_rfl)
def Yl:qs:=.pure 100 [.bU [.int .i64 4,.ay [.int .i64 0,.int .i64 1,.int .i64 1,.int .i64 2,.int .i64 2,.int .i64 0,.int .i64 2,.int .i64 3] 4 .shared],.int .i64 1,.int .i64 3] (.bool true)
theorem aif:qE Go.Proofs.Tryz.prog Yl:=rM (p:=16) (by kernel_rfl)
def Ym:qs:=.pure 100 [.bU [.int .i64 4,.ay [.int .i64 0,.int .i64 1,.int .i64 1,.int .i64 2,.int .i64 2,.int .i64 0,.int .i64 2,.int .i64 3] 4 .shared],.int .i64 2,.int .i64 0] (.bool true)
theorem aih:qE Go.Proofs.Tryz.prog Ym:=rM (p:=16) (by kernel_rfl)
def Yn:qs:=.pure 100 [.bU [.int .i64 4,.ay [.int .i64 0,.int .i64 1,.int .i64 1,.int .i64 2,.int .i64 2,.int .i64 0,.int .i64 2,.int .i64 3] 4 .shared],.int .i64 2,.int .i64 1] (.bool true)
theorem aii:qE Go.Proofs.Tryz.prog Yn:=rM (p:=16) (by kernel_rfl)
def Yo:qs:=.pure 100 [.bU [.int .i64 4,.ay [.int .i64 0,.int .i64 1,.int .i64 1,.int .i64 2,.int .i64 2,.int .i64 0,.int .i64 2,.int .i64 3] 4 .shared],.int .i64 2,.int .i64 2] (.bool true)
theorem aij:qE Go.Proofs.Tryz.prog Yo:=rM (p:=16) (by kernel_rfl)
def Yp:qs:=.pure 100 [.bU [.int .i64 4,.ay [.int .i64 0,.int .i64 1,.int .i64 1,.int .i64 2,.int .i64 2,.int .i64 0,.int .i64 2,.int .i64 3] 4 .shared],.int .i64 2,.int .i64 3] (.bool true)
theorem aik:qE Go.Proofs.Tryz.prog Yp:=rM (p:=16) (by kernel_rfl)
def Yq:qs:=.pure 100 [.bU [.int .i64 4,.ay [.int .i64 0,.int .i64 1,.int .i64 1,.int .i64 2,.int .i64 2,.int .i64 0,.int .i64 2,.int .i64 3] 4 .shared],.int .i64 3,.int .i64 0] (.bool false)
theorem ail:qE Go.Proofs.Tryz.prog Yq:=rM (p:=16) (by kernel_rfl)
def Yr:qs:=.pure 100 [.bU [.int .i64 4,.ay [.int .i64 0,.int .i64 1,.int .i64 1,.int .i64 2,.int .i64 2,.int .i64 0,.int .i64 2,.int .i64 3] 4 .shared],.int .i64 3,.int .i64 1] (.bool true)
theorem aim:qE Go.Proofs.Tryz.prog Yr:=rM (p:=16) (by kernel_rfl)
def Ys:qs:=.pure 100 [.bU [.int .i64 4,.ay [.int .i64 0,.int .i64 1,.int .i64 1,.int .i64 2,.int .i64 2,.int .i64 0,.int .i64 2,.int .i64 3] 4 .shared],.int .i64 3,.int .i64 2] (.bool true)
theorem ain:qE Go.Proofs.Tryz.prog Ys:=rM (p:=16) (by kernel_rfl)
def Yt:qs:=.pure 100 [.bU [.int .i64 4,.ay [.int .i64 0,.int .i64 1,.int .i64 1,.int .i64 2,.int .i64 2,.int .i64 0,.int .i64 2,.int .i64 3] 4 .shared],.int .i64 3,.int .i64 3] (.bool true)
theorem aio:qE Go.Proofs.Tryz.prog Yt:=rM (p:=16) (by kernel_rfl)
def Yv:qs:=.pure 100 [.bU [.int .i64 5,.ay [.int .i64 0,.int .i64 1,.int .i64 2,.int .i64 3,.int .i64 4,.int .i64 4] 3 .shared],.int .i64 0,.int .i64 0] (.bool true)
theorem ais:qE Go.Proofs.Tryz.prog Yv:=rM (p:=16) (by kernel_rfl)
def Yw:qs:=.pure 100 [.bU [.int .i64 5,.ay [.int .i64 0,.int .i64 1,.int .i64 2,.int .i64 3,.int .i64 4,.int .i64 4] 3 .shared],.int .i64 0,.int .i64 1] (.bool false)
theorem ait:qE Go.Proofs.Tryz.prog Yw:=rM (p:=16) (by kernel_rfl)
def Yx:qs:=.pure 100 [.bU [.int .i64 5,.ay [.int .i64 0,.int .i64 1,.int .i64 2,.int .i64 3,.int .i64 4,.int .i64 4] 3 .shared],.int .i64 0,.int .i64 2] (.bool false)
theorem aiu:qE Go.Proofs.Tryz.prog Yx:=rM (p:=16) (by kernel_rfl)
def Yy:qs:=.pure 100 [.bU [.int .i64 5,.ay [.int .i64 0,.int .i64 1,.int .i64 2,.int .i64 3,.int .i64 4,.int .i64 4] 3 .shared],.int .i64 1,.int .i64 0] (.bool false)
theorem aiv:qE Go.Proofs.Tryz.prog Yy:=rM (p:=16) (by kernel_rfl)
def Yz:qs:=.pure 100 [.bU [.int .i64 5,.ay [.int .i64 0,.int .i64 1,.int .i64 2,.int .i64 3,.int .i64 4,.int .i64 4] 3 .shared],.int .i64 1,.int .i64 1] (.bool true)
theorem aiw:qE Go.Proofs.Tryz.prog Yz:=rM (p:=16) (by kernel_rfl)
def YA:qs:=.pure 100 [.bU [.int .i64 5,.ay [.int .i64 0,.int .i64 1,.int .i64 2,.int .i64 3,.int .i64 4,.int .i64 4] 3 .shared],.int .i64 1,.int .i64 2] (.bool false)
theorem aix:qE Go.Proofs.Tryz.prog YA:=rM (p:=16) (by kernel_rfl)
def YB:qs:=.pure 100 [.bU [.int .i64 5,.ay [.int .i64 0,.int .i64 1,.int .i64 2,.int .i64 3,.int .i64 4,.int .i64 4] 3 .shared],.int .i64 2,.int .i64 0] (.bool false)
theorem aiy:qE Go.Proofs.Tryz.prog YB:=rM (p:=16) (by kernel_rfl)
def YC:qs:=.pure 100 [.bU [.int .i64 5,.ay [.int .i64 0,.int .i64 1,.int .i64 2,.int .i64 3,.int .i64 4,.int .i64 4] 3 .shared],.int .i64 2,.int .i64 1] (.bool false)
theorem aiz:qE Go.Proofs.Tryz.prog YC:=rM (p:=16) (by kernel_rfl)
def YD:qs:=.pure 100 [.bU [.int .i64 5,.ay [.int .i64 0,.int .i64 1,.int .i64 2,.int .i64 3,.int .i64 4,.int .i64 4] 3 .shared],.int .i64 2,.int .i64 2] (.bool true)
theorem aiA:qE Go.Proofs.Tryz.prog YD:=rM (p:=16) (by kernel_rfl)
def YE:qs:=.pure 100 [.bU [.int .i64 2,.ay [.int .i64 0,.int .i64 1,.int .i64 1,.int .i64 0] 2 .shared],.int .i64 0,.int .i64 0] (.bool true)
theorem aiB:qE Go.Proofs.Tryz.prog YE:=rM (p:=16) (by kernel_rfl)
def YF:qs:=.pure 100 [.bU [.int .i64 2,.ay [.int .i64 0,.int .i64 1,.int .i64 1,.int .i64 0] 2 .shared],.int .i64 0,.int .i64 1] (.bool true)
theorem aiC:qE Go.Proofs.Tryz.prog YF:=rM (p:=16) (by kernel_rfl)
def YG:qs:=.pure 100 [.bU [.int .i64 2,.ay [.int .i64 0,.int .i64 1,.int .i64 1,.int .i64 0] 2 .shared],.int .i64 1,.int .i64 0] (.bool true)
theorem aiD:qE Go.Proofs.Tryz.prog YG:=rM (p:=16) (by kernel_rfl)
def YH:qs:=.pure 100 [.bU [.int .i64 2,.ay [.int .i64 0,.int .i64 1,.int .i64 1,.int .i64 0] 2 .shared],.int .i64 1,.int .i64 1] (.bool true)
theorem aiE:qE Go.Proofs.Tryz.prog YH:=rM (p:=16) (by kernel_rfl)
def YO:List qs:=[Ye,Yf,Yg,Yh,Yi,Yj,Yk,Yl,Ym,Yn,Yo,Yp,Yq,Yr,Ys,Yt,Yv,Yw,Yx,Yy,Yz,YA,YB,YC,YD,YE,YF,YG,YH]
theorem G8:∀ e∈YO,qE Go.Proofs.Tryz.prog e:=by
 simp only [YO,List.forall_mem_cons];exact ⟨ah9,ah_,aia,aib,aic,aid,aie,aif,aih,aii,aij,aik,ail,aim,ain,aio,ais,ait,aiu,aiv,aiw,aix,aiy,aiz,aiA,aiB,aiC,aiD,aiE,by simp⟩
end Go.Proofs.YtfakoboiahbhaaaGreat.Ab


namespace Go.Proofs.YtfakoboiahbhaaaGreat.Ab
open Go
def bC:qs:=.pure 18 [.agg [.int .i64 4,.ay [.int .i64 0,.int .i64 1,.int .i64 1,.int .i64 2,.int .i64 2,.int .i64 0,.int .i64 2,.int .i64 3] 4 .shared],.ay [.int .i64 0,.int .i64 0,.int .i64 1,.int .i64 0,.int .i64 3,.int .i64 0] 3 .shared] (.tuple [.int .i64 0,.int .i64 3,.int .i64 0])
theorem aiX:qE Go.Proofs.Tryz.prog bC:=GN G8 (by kernel_rfl)
def bT:qs:=.pure 18 [.agg [.int .i64 4,.ay [.int .i64 0,.int .i64 1,.int .i64 1,.int .i64 2,.int .i64 2,.int .i64 0,.int .i64 2,.int .i64 3] 4 .shared],.ay [.int .i64 0,.int .i64 0,.int .i64 1,.int .i64 0,.int .i64 2,.int .i64 0,.int .i64 0,.int .i64 0] 4 .shared] (.tuple [.int .i64 0,.int .i64 0,.int .i64 11])
theorem ai2:qE Go.Proofs.Tryz.prog bT:=GN G8 (by kernel_rfl)
def rR:qs:=.pure 18 [.agg [.int .i64 4,.ay [.int .i64 0,.int .i64 1,.int .i64 1,.int .i64 2,.int .i64 2,.int .i64 0,.int .i64 2,.int .i64 3] 4 .shared],.ay [.int .i64 0,.int .i64 0,.int .i64 2,.int .i64 0] 2 .shared] (.tuple [.int .i64 0,.int .i64 0,.int .i64 27])
theorem ai3:qE Go.Proofs.Tryz.prog rR:=GN G8 (by kernel_rfl)
def I4:qs:=.pure 18 [.agg [.int .i64 4,.ay [.int .i64 0,.int .i64 1,.int .i64 1,.int .i64 2,.int .i64 2,.int .i64 0,.int .i64 2,.int .i64 3] 4 .shared],.ay [.int .i64 0,.int .i64 0,.int .i64 4,.int .i64 0] 2 .shared] (.tuple [.int .i64 0,.int .i64 0,.int .i64 3])
theorem ai4:qE Go.Proofs.Tryz.prog I4:=GN G8 (by kernel_rfl)
def Mi:qs:=.pure 18 [.agg [.int .i64 4,.ay [.int .i64 0,.int .i64 1,.int .i64 1,.int .i64 2,.int .i64 2,.int .i64 0,.int .i64 2,.int .i64 3] 4 .shared],.ay [] 0 .shared] (.tuple [.int .i64 0,.int .i64 0,.int .i64 6])
theorem ai5:qE Go.Proofs.Tryz.prog Mi:=GN G8 (by kernel_rfl)
def Ze:qs:=.pure 25 [.agg [.int .i64 4,.ay [.int .i64 0,.int .i64 1,.int .i64 1,.int .i64 2,.int .i64 2,.int .i64 0,.int .i64 2,.int .i64 3] 4 .shared],.ay [.ay [.int .i64 0,.int .i64 0,.int .i64 1,.int .i64 0,.int .i64 3,.int .i64 0] 3 .shared,.ay [.int .i64 2,.int .i64 0] 1 .shared] 2 .shared] (.tuple [.int .i64 2,.int .i64 0])
theorem ai6:qE Go.Proofs.Tryz.prog Ze:=GN G8 (by kernel_rfl)
def Zf:qs:=.pure 25 [.agg [.int .i64 4,.ay [.int .i64 0,.int .i64 1,.int .i64 1,.int .i64 2,.int .i64 2,.int .i64 0,.int .i64 2,.int .i64 3] 4 .shared],.ay [.ay [.int .i64 0,.int .i64 0,.int .i64 1,.int .i64 0,.int .i64 3,.int .i64 0] 3 .shared] 1 .shared] (.tuple [.int .i64 0,.int .i64 15])
theorem ai7:qE Go.Proofs.Tryz.prog Zf:=GN G8 (by kernel_rfl)
def Zg:qs:=.pure 25 [.agg [.int .i64 4,.ay [.int .i64 0,.int .i64 1,.int .i64 1,.int .i64 2,.int .i64 2,.int .i64 0,.int .i64 2,.int .i64 3] 4 .shared],.ay [.ay [.int .i64 0,.int .i64 0,.int .i64 1,.int .i64 0,.int .i64 3,.int .i64 0] 3 .shared,.ay [.int .i64 2,.int .i64 0,.int .i64 0,.int .i64 0] 2 .shared] 2 .shared] (.tuple [.int .i64 0,.int .i64 11])
theorem ai8:qE Go.Proofs.Tryz.prog Zg:=GN G8 (by kernel_rfl)
def Zh:qs:=.pure 22 [.agg [.int .i64 2,.ay [.int .i64 0,.int .i64 1,.int .i64 1,.int .i64 0] 2 .shared],.ay [.int .i64 0,.int .i64 0,.int .i64 1,.int .i64 0] 2 .shared] (.int .i64 0)
theorem ai9:qE Go.Proofs.Tryz.prog Zh:=GN G8 (by kernel_rfl)
def Y2:qs:=.pure 22 [.agg [.int .i64 2,.ay [.int .i64 0,.int .i64 1,.int .i64 1,.int .i64 0] 2 .shared],.ay [.int .i64 0,.int .i64 0] 1 .shared] (.int .i64 15)
theorem aiN:qE Go.Proofs.Tryz.prog Y2:=GN G8 (by kernel_rfl)
def Y3:qs:=.pure 27 [.agg [.int .i64 4,.ay [.int .i64 0,.int .i64 1,.int .i64 1,.int .i64 2,.int .i64 2,.int .i64 0,.int .i64 2,.int .i64 3] 4 .shared]] (.tuple [.ay [.int .i64 2,.int .i64 3] 2 .full,.int .i64 0])
theorem aiO:qE Go.Proofs.Tryz.prog Y3:=GN G8 (by kernel_rfl)
def Y4:qs:=.pure 29 [.agg [.int .i64 5,.ay [.int .i64 0,.int .i64 1,.int .i64 2,.int .i64 3,.int .i64 4,.int .i64 4] 3 .shared]] (.tuple [.ay [.ay [.int .i64 0] 1 .shared,.ay [.int .i64 1] 1 .shared,.ay [.int .i64 2] 1 .shared] 3 .shared,.int .i64 0])
theorem aiP:qE Go.Proofs.Tryz.prog Y4:=GN G8 (by kernel_rfl)
def Y5:qs:=.pure 35 [.agg [.int .i64 5,.ay [.int .i64 0,.int .i64 1,.int .i64 2,.int .i64 3,.int .i64 4,.int .i64 4] 3 .shared]] (.tuple [.int .i64 3,.int .i64 0])
theorem aiQ:qE Go.Proofs.Tryz.prog Y5:=GN G8 (by kernel_rfl)
def Y6:qs:=.pure 41 [.agg [.int .i64 5,.ay [.int .i64 0,.int .i64 1,.int .i64 2,.int .i64 3,.int .i64 4,.int .i64 4] 3 .shared]] (.tuple [.ay [.ay [.int .i64 0,.int .i64 0] 1 .shared,.ay [.int .i64 1,.int .i64 0] 1 .shared,.ay [.int .i64 2,.int .i64 0] 1 .shared] 3 .shared,.int .i64 0])
theorem aiR:qE Go.Proofs.Tryz.prog Y6:=GN G8 (by kernel_rfl)
def Y8:qs:=.pure 37 [.agg [.int .i64 5,.ay [.int .i64 0,.int .i64 1,.int .i64 2,.int .i64 3,.int .i64 4,.int .i64 4] 3 .shared]] (.tuple [.ay [] 0 .shared,.int .i64 27])
theorem aiT:qE Go.Proofs.Tryz.prog Y8:=GN G8 (by kernel_rfl)
def Y9:qs:=.pure 42 [.agg [.int .i64 2,.ay [.int .i64 0,.int .i64 1,.int .i64 1,.int .i64 0] 2 .shared]] (.tuple [.ay [.int .i64 0,.int .i64 0,.int .i64 1,.int .i64 0] 2 .shared,.int .i64 0])
theorem aiU:qE Go.Proofs.Tryz.prog Y9:=GN G8 (by kernel_rfl)
def Y':qs:=.pure 39 [.agg [.int .i64 5,.ay [.int .i64 0,.int .i64 1,.int .i64 2,.int .i64 3,.int .i64 4,.int .i64 4] 3 .shared]] (.tuple [.int .i64 3,.int .i64 0])
theorem aiW:qE Go.Proofs.Tryz.prog Y':=GN G8 (by kernel_rfl)
def Za:qs:=.pure 31 [.agg [.int .i64 4,.ay [.int .i64 0,.int .i64 1,.int .i64 1,.int .i64 2,.int .i64 2,.int .i64 0,.int .i64 2,.int .i64 3] 4 .shared]] (.tuple [.ay [.int .i64 3] 1 .shared,.int .i64 0])
theorem aiY:qE Go.Proofs.Tryz.prog Za:=GN G8 (by kernel_rfl)
def Zb:qs:=.pure 45 [.agg [.int .i64 4,.ay [.int .i64 0,.int .i64 1,.int .i64 1,.int .i64 2,.int .i64 2,.int .i64 0,.int .i64 2,.int .i64 3] 4 .shared],.int .i64 0,.int .i64 3] (.tuple [.ay [.int .i64 2,.int .i64 1,.int .i64 3,.int .i64 0] 2 .shared,.int .i64 0])
theorem aiZ:qE Go.Proofs.Tryz.prog Zb:=GN G8 (by kernel_rfl)
def Zc:qs:=.pure 45 [.agg [.int .i64 4,.ay [.int .i64 0,.int .i64 1,.int .i64 1,.int .i64 2,.int .i64 2,.int .i64 0,.int .i64 2,.int .i64 3] 4 .shared],.int .i64 1,.int .i64 1] (.tuple [.ay [] 0 .shared,.int .i64 2])
theorem ai0:qE Go.Proofs.Tryz.prog Zc:=GN G8 (by kernel_rfl)
def Zd:qs:=.pure 45 [.agg [.int .i64 5,.ay [.int .i64 0,.int .i64 1,.int .i64 2,.int .i64 3,.int .i64 4,.int .i64 4] 3 .shared],.int .i64 0,.int .i64 2] (.tuple [.ay [] 0 .shared,.int .i64 5])
theorem ai1:qE Go.Proofs.Tryz.prog Zd:=GN G8 (by kernel_rfl)
end Go.Proofs.YtfakoboiahbhaaaGreat.Ab
