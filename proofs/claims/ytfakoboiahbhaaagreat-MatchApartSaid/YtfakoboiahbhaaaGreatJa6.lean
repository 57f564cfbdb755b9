
import Derived.Test.YtfakoboiahbhaaaGreatJa5
import Derived.KernelRfl
import Derived.Test.YtfakoboiahbhaaaGreatJa3
set_option linter.unusedSimpArgs false
set_option linter.unusedVariables false
set_option linter.unusedSectionVars false

open List renaming getElem?_eq_some_iff→sb,map_cons→sG
open Nat renaming blt_eq→te,zero_le→sC
open Option renaming bind_eq_some_iff→sg
namespace Go.Proofs.YtfakoboiahbhaaaGreat.Ab
open Go
set_option maxRecDepth 20000
set_option maxHeartbeats 4000000
noncomputable def QV:fT :=
 .loop (some (p_ false [0,2,5,2,10])) (pY [GC 9 [.sl 8,.sl 7] (.bin .lss)] (.seq (.cond (.sl 9) .skip (.exit 0)) (.seq (.block 1 (pY [pZ 10 8,pX 5 10] (pY [pZ 11 1,pZ 12 0,pZ 13 5,qL 14 12 13 1,qc 15 14,GC 16 [.sl 11,.sl 15] (.call 6)] (.cond (.sl 16) (pY [pX 17 5,pX 4 17] .ret) .skip)))) (qv [qE 18 8 1,pX 8 18]))))
noncomputable def ZQ:fT :=
 pY [qa 4 0] (.seq (pY [pZ 6 0,qM 7 6,qa 8 0] (.block 0 QV)) (pY [qa 4 (-1)] .ret))
theorem aeO:zD Tryz.prog Rr 114=some (ZQ,19,[.tmp 4]):=by kernel_rfl
def Mo (s:p7) (f:(Int→Option Bool)) (qb:Unit→Option Int):Nat→Int→Option Int
 | 0,_=>none
 | m+1,s1 =>
   if (decide (s1<(s.length:Int)))=true then
    p9 (0≤s1∧s1<(s.length:Int)) <|
    (f (ix s s1)).bind fun r1 =>
    if r1=true then
     some s1
    else
     Mo s f qb m (w (s1+(1:Int)))
   else
    qb ()
def QC (s:p7) (f:(Int→Option Bool)):Option Int :=
 Mo s f (fun _ =>
   some (-1:Int)) p' (0:Int)
theorem aiF {s:p7} {f:(Int→Option Bool)} {qb:Unit→Option Int} {s1:Int} {ry:FuncId} {qV:List I} (rN:Hp qV) (HP:∀ (qN:Int) (r:Bool),f qN=some r→qw ry ((hU qN)::qV) (B r)) {v:Int} {Q:rM}   (jB:qK [.tmp 4] Q (fun v=>(hU v)) v) (rI:∀ (p8:List I),qb ()=some v→rn 19 [] p8→Q (.exit 0) p8 []) {T:List I} (bW:eX (p_ false [0,2,5,2,10]) T=Hc 19 [(0,(qi s .shared)),(1,(.func ry [] qV)),(7,(hU (s.length:Int))),(8,(hU s1))]) (h:Mo s f qb p' s1=some v) :
  dO Tryz.prog Rr 114 0 none QV T [] Q:=by
 unfold QV;refine wp_loop bW ?_;refine .intro (fun m T H=>∃ (s1:Int),T=Hc 19 [(0,(qi s .shared)),(1,(.func ry [] qV)),(7,(hU (s.length:Int))),(8,(hU s1))]∧H=[]∧Mo s f qb m s1=some v) p' ⟨s1,rfl,rfl,h⟩ ?_;clear h bW;rintro m T H ⟨s1,rfl,rfl,h⟩;cases m
 ·exact ri h
 rename_i m;rw [Mo.eq_2] at h;conv=>whnf
 refine bs h (fun gD h=>?_) fun gD h=>?_
 ·rw [gD];conv=>whnf
  refine qs h id fun gE h=>?_;rw [Hh hU s s1 gE];conv=>whnf
  obtain ⟨r1,qo,h⟩:=qj h;refine ⟨_,_,call6 (bs:=((hU (ix s s1))::qV)) (by simp only [sG,rN.im,rN.cq];rfl) (by simp only [sG,rN.im];exact (p1 rfl rN.Rq)) (HP _ _ qo) rfl,?_⟩;conv=>whnf
  cases r1
  ·(conv=>whnf);replace h:=HX rfl h;exact ⟨m,Nat.lt_succ_self m,(w (s1+(1:Int))),rfl,rfl,h⟩
  ·(conv=>whnf);replace h:=HY rfl h;exact qd h jB rfl rfl
 ·rw [gD];conv=>whnf
  exact rI  _ h ⟨rfl,rfl⟩
theorem aiG {s:p7} {f:(Int→Option Bool)} {ry:FuncId} {qV:List I} (rN:Hp qV) (HP:∀ (qN:Int) (r:Bool),f qN=some r→qw ry ((hU qN)::qV) (B r)) {v:Int} (h:QC s f=some v):qw 114 [(.ax (s.map hU) s.length .shared),(.func ry [] qV)] (hU v):=by
 refine q7 eo aeO rfl rfl fun Q bo=>?_;have jB:qK [.tmp 4] Q (fun v=>(hU v)) v:=fun T H bH=>bo _ T H bH;unfold QC at h;unfold ZQ;obtain ⟨HV,qO⟩:∃ c,QV=c:=⟨_,rfl⟩;rw [qO];conv=>whnf
 subst qO;refine aiF rN HP ?_ ?_ (by exact rfl) h
 ·exact fun T H bH=>jB T H bH
 ·intro  p8 h qm;obtain ⟨rf,rfl⟩:=qm.ex;conv=>whnf
  exact qd h jB rfl rfl

noncomputable def aam:fT :=
 pY [GC 4 [.lR (.bool false)] .mN] (pY [pX 5 0,pX 6 1,GC 7 [.lR (.func 114 [] []),.sl 5,.sl 6] (.call 6),qq 8 7 0 .geq,pX 4 8] .ret)
theorem afk:zD Tryz.prog Vj 92=some (aam,9,[.tmp 4]):=by kernel_rfl
def Kw (s:p7) (f:(Int→Option Bool)):Option Bool :=
 (QC s f).bind fun r1 =>
 some (decide ((0:Int)≤r1))
theorem ZG {s:p7} {f:(Int→Option Bool)} {ry:FuncId} {qV:List I} (rN:Hp qV) (HP:∀ (qN:Int) (r:Bool),f qN=some r→qw ry ((hU qN)::qV) (B r)) {v:Bool} (h:Kw s f=some v):qw 92 [(.ax (s.map hU) s.length .shared),(.func ry [] qV)] (B v):=by
 refine q7 eo afk rfl rfl fun Q bo=>?_;have jB:qK [.tmp 4] Q (fun v=>(B v)) v:=fun T H bH=>bo _ T H bH;unfold Kw at h;unfold aam;conv=>whnf
 obtain ⟨r1,gD,h⟩:=qj h;refine ⟨_,_,I2 (cs:=[(qi s .shared),(.func ry [] qV)]) (bs:=[(qi s .shared),(.func ry [] qV)]) (ru rfl (ru (rN.fn _ _) rY)) (by rfl) (by exact (p1 (rX (fun _=>rfl) _ _ _) (p1 (rN.SM _) rfl))) (aiG rN HP gD) rfl,?_⟩;conv=>whnf
 exact qd h jB rfl rfl
end Go.Proofs.YtfakoboiahbhaaaGreat.Ab


namespace Go.Proofs.YtfakoboiahbhaaaGreat.Ab
open Go
section
variable {P:Program} {B N:Nat} {J:List Nat} {w:World} {U:Nat→Option aH} {S:Nat→Nat→Prop}
theorem afV {k : Nat} {f : Func} {c : Code} (aP : P.funcs[k]? = some f) (ag : f.body = some c) (aN : f.name ≠ "runtime.NumGoroutine")
  {args:List I} {v:I} (aB:ch 8 v=true) {K:cz→a6→Prop}
  (ai:∀ (Q:Exit→Act→World→Prop) (B N:Nat) (J:List Nat) (w:World) (U:Nat→Option aH) (S:Nat→Nat→Prop) (a:Act),(∀ l a w,¬ Q (.goto l) a w)→cv B N U J S w ⟨args++List.replicate (f.ntmps-args.length) .junk,[]⟩ a →
   (∀ e aF,K e aF→∀ aM w',Step B N U J S w aF aM w'→Q (toExit e) aM w')→c.wpIn Fence.wide 0 P Q a w)
  (fF:∀ e s,K e s→(e=.normal∨e=.ret)∧∃ vs r,fk P s.H s.T f.results.toList=some vs∧bI s.H 0 s.H.length 0 8 (hj vs)=some r∧(r=v∨r.settle=v)):lC P k args v:=by
 refine ⟨⟨bb.refl _ _,⟨f,aP,by simp [ag],aN⟩,fun B U J S w xs ah _ ae=>?_⟩,aB⟩;refine callsIn_of_wp_marks aP ag trivial ?_;have aL:=x5 ah ae f.ntmps;have dv:=(oE ah).1;refine ai _ B w.heap.size J w (hP U) S _ (fun l a w aO=>aO.elim) aL fun e s av aM w' ai=>?_;obtain ⟨he,vs,r,aj,C0,eD⟩:=fF e s av;obtain ⟨b4,c0,a7,aJ,aQ,cf⟩:=ai;have iK:LeavesInM Fence.wide 0 P f aM.tmps (fS B U J S w [] v) aM.defers .returning w':=by
  refine nW (U:=b4) (S:=a7) (J:=c0) (B:=B) (H:=s.H) (lA:=U) (S0:=S) (w0:=w) aM.defers w' cf.M.2.1 cf.M.2.2 (dv.trans aQ) cf.H fun bX dy dm mB mC=>?_
  have bW:a8 .slot b4 c0 a7 bX s.T aM.tmps.toList:=⟨cf.T.len,fun i u v hu ae=>(cf.T.rel i u v hu ae).mono (Ext.refl _) (fun b o h=>⟨h,dm b o h⟩),fun i u v hu ae =>
   (cf.T.own i u v hu ae).mono (Ext.refl _) (fun b o h=>⟨h,dm b o h⟩) fun b ag=>⟨ag,dy b _ ag,fun _ h=>h⟩⟩
  obtain ⟨x,q1,aW⟩:=xI mC bW aj;have kI:=xz ah (fun id aE=>by simp at aE) C0 (a0.after aJ mB aW);refine ⟨x,q1,?_⟩;rcases eD with rfl | eD
  ·exact kI
  ·cases r with
   | ax cells len ej =>
     cases ej with
     | uniq z=>simp only [I.settle] at eD;subst eD;exact kI.settle
     | _=>simp only [I.settle] at eD;subst eD;exact kI
   | _=>simp only [I.settle] at eD;subst eD;exact kI
 rcases he with rfl | rfl
 ·exact iK
 ·exact iK
end
theorem P7 (P:Program):da P (fun _ _ _ _=>none):=⟨fun h=>by simp at h,fun h=>by simp at h⟩
noncomputable def P9 (f:Func):Option (cz×a6)→Option I
 | some (.normal,s) | some (.ret,s)=>(fk Go.Proofs.Tryz.prog s.H s.T f.results.toList).bind fun vs=>bI s.H 0 s.H.length 0 8 (hj vs)
 | _=>none
theorem W4 {f:Func} {x:Option (cz×a6)} {v:I} (h:P9 f x=some v):∃ e s,x=some (e,s)∧(e=.normal∨e=.ret)∧∃ vs,fk Go.Proofs.Tryz.prog s.H s.T f.results.toList=some vs∧bI s.H 0 s.H.length 0 8 (hj vs)=some v:=by
 unfold P9 at h;split at h
 ·simp only [sg] at h;obtain ⟨vs,ad,af⟩:=h;exact ⟨_,_,rfl,.inl rfl,vs,ad,af⟩
 ·simp only [sg] at h;obtain ⟨vs,ad,af⟩:=h;exact ⟨_,_,rfl,.inr rfl,vs,ad,af⟩
 ·cases h
noncomputable def XI (k p:Nat) (args:List I):Option I:=match Go.Proofs.Tryz.prog.funcs[k]? with
 | some f=>match f.body with
   | some (.seq hK (.seq (.region id ops true) rest)) =>
     match codeOk (jv k) hK, codeOk (jv k) rest, f.name == "runtime.NumGoroutine", Nat.blt (p + 1) ops.size, nr ops ((jv k).ops.getD id []) p (p + 1) with
     | true,true,false,true,true =>
       match exec Go.Proofs.Tryz.prog (jv k) (fun _ _ _ _=>none) k 0 9 none hK 0 ⟨args++List.replicate (f.ntmps-args.length) .junk,[]⟩ with
       | some (.normal,TX) =>
         match cu Go.Proofs.Tryz.prog (fun _ _ _ _=>none) 0 ops ((jv k).ops.getD id []) (List.range ops.size) TX,cu Go.Proofs.Tryz.prog (fun _ _ _ _=>none) 0 ops ((jv k).ops.getD id []) (fl ops.size p (p+1)) TX with
         | some s1,some s2 =>
           match P9 f (exec Go.Proofs.Tryz.prog (jv k) (fun _ _ _ _=>none) k 0 9 none rest 0 s1),P9 f (exec Go.Proofs.Tryz.prog (jv k) (fun _ _ _ _=>none) k 0 9 none rest 0 s2) with
           | some u,some v=>match Ik 20 u v,ch 8 u with
             | true,true=>some u
             | _,_=>none
           | _,_=>none
         | _,_=>none
       | _=>none
     | _,_,_,_,_=>none
   | _=>none
 | none=>none
theorem rV {k p:Nat} {args:List I} {v:I} (h:XI k p args=some v):lC Go.Proofs.Tryz.prog k args v:=by
 unfold XI at h;split at h
 ·rename_i f aP;split at h
  ·rename_i hK id ops rest ag;split at h
   ·rename_i a_ ba br b8 dV;split at h
    ·rename_i TX aeg;split at h
     ·rename_i s1 s2 dw Dq;split at h
      ·rename_i u bm jR pO;split at h
       ·rename_i heq aB;have e:=MU 20 _ _ heq;subst e;cases h;obtain ⟨e1,t1,xc,Om,yb,dX,CV⟩:=W4 jR;obtain ⟨b',t2,g',adE,eW,c_,pt⟩:=W4 pO;refine afV aP ag (by simpa using br) aB (K:=fun e s=>(e=e1∧s=t1)∨(e=b'∧s=t2)) (fun Q B N J w U S a aO aL bo=>?_) (fun e s av=>?_)
        ·have GZ:=eo;refine wpIn_seq (nv (P7 _) GZ hK 0 _ _ _ aeg a_ Fence.wide _ B N J w U S a (.inl ⟨rfl,rfl⟩) (fun l a w=>aO l a w) aL fun aM w' ai=>?_);obtain ⟨b4,c0,a7,aJ,aQ,cf⟩:=ai;refine wpIn_seq (ER (jl.lX (J:=c0) (rl:=none) (.inl ⟨rfl,rfl⟩)) GZ (P7 _) (by simpa [te] using b8) dV dw Dq cf fun aF g7 aI bX dL=>?_);obtain ⟨bq,cj,bK,cn,mD,Cx⟩:=dL;rcases g7 with rfl | rfl
         ·exact nv (P7 _) GZ rest 0 _ _ _ xc ba Fence.wide Q B N cj bX bq bK aI (.inl ⟨rfl,rfl⟩) aO Cx fun aR rZ DA=>bo _ _ (.inl ⟨rfl,rfl⟩) aR rZ ((DA.trans cn mD).trans aJ aQ)
         ·exact nv (P7 _) GZ rest 0 _ _ _ g' ba Fence.wide Q B N cj bX bq bK aI (.inl ⟨rfl,rfl⟩) aO Cx fun aR rZ DA=>bo _ _ (.inr ⟨rfl,rfl⟩) aR rZ ((DA.trans cn mD).trans aJ aQ)
        ·rcases av with ⟨rfl,rfl⟩ | ⟨rfl,rfl⟩
         ·exact ⟨Om,yb,_,dX,CV,.inl rfl⟩
         ·exact ⟨adE,eW,_,c_,pt,.inl rfl⟩
       ·cases h
      ·cases h
     ·cases h
    ·cases h
   ·cases h
  ·cases h
 ·cases h
end Go.Proofs.YtfakoboiahbhaaaGreat.Ab


namespace Go.Proofs.YtfakoboiahbhaaaGreat.Ab
open Go
section
variable {P:Program}
theorem SB {lo:Nat} {ops:Array Oper} {an:List b2}:∀ {O:List Nat} {rl:List dq} {acc:dh} {T:List I} {H:List ar} {K:List I→List ar→Prop},fj P ops an O=some rl→ht P acc→gN P lo true rl acc T H K →
  ∃ dA a' H',ht P dA∧(∀ p∈acc,p∈dA)∧(∀ C,hR C dA→cu P C lo ops an O ⟨T,H⟩=some ⟨a',H'⟩)∧K a' H'
 | [],rl,acc,T,H,K,ao,cb,h=>by simp only [fj,Option.some.injEq] at ao;subst ao;exact ⟨acc,T,H,cb,fun _ h=>h,fun _ _=>rfl,h⟩
 | i::r,rl,acc,T,H,K,ao,cb,h=>by
   simp only [fj] at ao;split at ao
   ·rename_i o hi;split at ao
    ·rename_i cR l' ad af;simp only [Option.some.injEq] at ao;subst ao;obtain ⟨yj,fU,H1,aC,aI,aR,bk⟩:=yd ad cb h;obtain ⟨oP,dR,a3,bp,cH,eB,jw⟩:=SB af aC bk;refine ⟨oP,dR,a3,bp,fun p aB=>cH p (aI p aB),fun C cd=>?_,jw⟩;simp only [cu,hi];rw [aR C (fun p aB=>cd p (cH p aB)),Option.bind_some];exact eB C cd
    ·cases ao
   ·cases ao
theorem afW {k : Nat} {f : Func} {c : Code} (aP : P.funcs[k]? = some f) (ag : f.body = some c) (aN : f.name ≠ "runtime.NumGoroutine")
  {args:List I} {v:I} (aB:ch 8 v=true) {K:cz→a6→Prop}
  (ai:∀ (Q:Exit→Act→World→Prop) (B N:Nat) (J:List Nat) (w:World) (U:Nat→Option aH) (S:Nat→Nat→Prop) (a:Act),(∀ l a w,¬ Q (.goto l) a w)→cv B N U J S w ⟨args++List.replicate (f.ntmps-args.length) .junk,[]⟩ a →
   (∀ e aF,K e aF→∀ aM w',Step B N U J S w aF aM w'→Q (toExit e) aM w')→c.wpIn Fence.wide 0 P Q a w)
  (fF:∀ e s,K e s→(e=.normal∨e=.ret)∧∃ vs r,fk P s.H s.T f.results.toList=some vs∧bI s.H 0 s.H.length 0 8 (hj vs)=some r∧r.settle.view.cq=v):lC P k args v:=by
 refine ⟨⟨bb.refl _ _,⟨f,aP,by simp [ag],aN⟩,fun B U J S w xs ah _ ae=>?_⟩,aB⟩;refine callsIn_of_wp_marks aP ag trivial ?_;have aL:=x5 ah ae f.ntmps;have dv:=(oE ah).1;refine ai _ B w.heap.size J w (hP U) S _ (fun l a w aO=>aO.elim) aL fun e s av aM w' ai=>?_;obtain ⟨he,vs,r,aj,C0,eD⟩:=fF e s av;obtain ⟨b4,c0,a7,aJ,aQ,cf⟩:=ai;have iK:LeavesInM Fence.wide 0 P f aM.tmps (fS B U J S w [] v) aM.defers .returning w':=by
  refine nW (U:=b4) (S:=a7) (J:=c0) (B:=B) (H:=s.H) (lA:=U) (S0:=S) (w0:=w) aM.defers w' cf.M.2.1 cf.M.2.2 (dv.trans aQ) cf.H fun bX dy dm mB mC=>?_
  have bW:a8 .slot b4 c0 a7 bX s.T aM.tmps.toList:=⟨cf.T.len,fun i u v hu ae=>(cf.T.rel i u v hu ae).mono (Ext.refl _) (fun b o h=>⟨h,dm b o h⟩),fun i u v hu ae =>
   (cf.T.own i u v hu ae).mono (Ext.refl _) (fun b o h=>⟨h,dm b o h⟩) fun b ag=>⟨ag,dy b _ ag,fun _ h=>h⟩⟩
  obtain ⟨x,q1,aW⟩:=xI mC bW aj;have kI:=xz ah (fun id aE=>by simp at aE) C0 (a0.after aJ mB aW);refine ⟨x,q1,?_⟩;rw [←eD];exact kI.YR
 rcases he with rfl | rfl
 ·exact iK
 ·exact iK
noncomputable def SC (P:Program) (A:db) (k p:Nat):Option (fT×List dq×List dq×fT×Nat×List jo):=match P.funcs[k]? with
 | some f=>match f.body with
   | some (.seq hK (.seq (.region id ops true) rest)) =>
     match codeOk A hK, codeOk A rest, f.name == "runtime.NumGoroutine", Nat.blt (p + 1) ops.size, nr ops (A.ops.getD id []) p (p + 1) with
     | true,true,false,true,true =>
       match eg P A hK 0,fj P ops (A.ops.getD id []) (List.range ops.size),fj P ops (A.ops.getD id []) (fl ops.size p (p+1)),eg P A rest 0,j_ P f.results.toList with
       | some a,some b,some c,some d,some rs=>some (a,b,c,d,f.ntmps,rs)
       | _,_,_,_,_=>none
     | _,_,_,_,_=>none
   | _=>none
 | none=>none
theorem acU (eo:P.follows .mixedOrders=true) {k p:Nat} {A:db} {oc rd:fT} {od rc:List dq} {n:Nat} {rs:List jo} (ao:SC P A k p=some (oc,od,rc,rd,n,rs)) {args T:List I} (bW:args++List.replicate (n-args.length) .junk=T) {v:I} (aB:ch 8 v=true)
  (h:∀ Q:cz→List I→List ar→Prop,(∀ e T H,ID rs v e T H→Q e T H)→dO P A k 0 none oc T [] fun e T H=>e=.normal∧gN P 0 true od [] T H (fun T H=>dO P A k 0 none rd T H Q)∧∀ acc,gN P 0 true rc acc T H (fun T H=>dO P A k 0 none rd T H Q)):lC P k args v:=by
 unfold SC at ao;split at ao
 ·rename_i f aP;split at ao
  ·rename_i hK id ops rest ag;split at ao
   ·rename_i a_ ba br b8 dV;split at ao
    ·rename_i a b c d XE dI kU M7 WD aey;simp only [Option.some.injEq,Prod.mk.injEq] at ao;obtain ⟨rfl,rfl,rfl,rfl,rfl,rfl⟩:=ao;subst bW;have h:=h (fun e T H=>ID XE v e T H) fun _ _ _ h=>h;refine afW aP ag (by simpa using br) aB (K:=fun e s=>ID XE v e s.T s.H) (fun Q B N J w U S a aO aL bo=>?_) (fun e s ⟨ca,vs,Cr,r,b5,en⟩=>⟨ca,vs,r,by rw [xC _ _ aey,Cr],b5,en⟩);refine wpIn_seq (By eo hK 0 _ _ (DV dI h) a_ Fence.wide _ B N J w U S a (.inl ⟨rfl,rfl⟩) (fun l a w=>aO l a w) aL fun e aF av aM w' ai=>?_);obtain ⟨rfl,ad,af⟩:=av;obtain ⟨b4,c0,a7,aJ,aQ,cf⟩:=ai;obtain ⟨yj,fU,H1,aC,_,aR,bk⟩:=SB kU ⟨fun p aB=>by simp at aB,fun p aB=>by simp at aB⟩ ad;obtain ⟨oP,dR,a3,bp,cH,eB,jw⟩:=SB M7 aC (af yj);obtain ⟨C,bu,cd⟩:=oQ bp;refine wpIn_seq (ER (jl.lX (J:=c0) (rl:=none) (.inl ⟨rfl,rfl⟩)) eo bu (by simpa [te] using b8) dV (aR C fun p aB=>cd p (cH p aB)) (eB C cd) cf fun aF g7 aI bX dL=>?_);obtain ⟨bq,cj,bK,cn,mD,Cx⟩:=dL;rcases g7 with rfl | rfl
     ·exact By eo rest 0 _ _ (DV WD bk) ba Fence.wide Q B N cj bX bq bK aI (.inl ⟨rfl,rfl⟩) aO Cx fun e s av aR rZ DA=>bo e s av aR rZ ((DA.trans cn mD).trans aJ aQ)
     ·exact By eo rest 0 _ _ (DV WD jw) ba Fence.wide Q B N cj bX bq bK aI (.inl ⟨rfl,rfl⟩) aO Cx fun e s av aR rZ DA=>bo e s av aR rZ ((DA.trans cn mD).trans aJ aQ)
    ·cases ao
   ·cases ao
  ·cases ao
 ·cases ao
end
end Go.Proofs.YtfakoboiahbhaaaGreat.Ab


namespace Go.Proofs.YtfakoboiahbhaaaGreat.Ab
open Go
set_option maxRecDepth 20000
set_option maxHeartbeats 4000000
noncomputable def ZK:fT:=.oh false [GC 6 [.lR (.bool false)] .mN]
noncomputable def ZL:List dq:=[GC 9 [.sl 0] .mN,GC 10 [.Bs 9] .zX,GC 11 [.Bs 10] (.yG 0),GC 12 [.Bs 11] (.yG 1),GC 13 [.Bs 12] (.zx .one),GC 14 [.jf 1] .mN,GC 15 [.Bs 13,.Bs 14] (.kQ 2),GC 16 [.Bs 15] (.zx (.str 2)),GC 17 [.sl 0] .mN,GC 18 [.Bs 17] .zX,GC 19 [.Bs 18] (.yG 0),GC 20 [.Bs 19] (.yG 1),GC 21 [.Bs 20] (.zy .one),GC 22 [.jf 2] .mN,GC 23 [.Bs 21,.Bs 22] (.kQ 2),GC 24 [.Bs 23] (.zy (.str 2)),GC 7 [] (.alloc [.int .i64 0,.int .i64 0]),GC 8 [] (.alloc [.int .i64 0,.int .i64 0]),⟨none,[.sl 7,.jf 16],none,none,.st 2⟩,⟨none,[.sl 8,.jf 24],none,none,.st 2⟩]
noncomputable def ZM:List dq:=[GC 9 [.sl 0] .mN,GC 10 [.Bs 9] .zX,GC 11 [.Bs 10] (.yG 0),GC 12 [.Bs 11] (.yG 1),GC 13 [.Bs 12] (.zx .one),GC 14 [.jf 1] .mN,GC 15 [.Bs 13,.Bs 14] (.kQ 2),GC 16 [.Bs 15] (.zx (.str 2)),GC 17 [.sl 0] .mN,GC 18 [.Bs 17] .zX,GC 19 [.Bs 18] (.yG 0),GC 20 [.Bs 19] (.yG 1),GC 21 [.Bs 20] (.zy .one),GC 22 [.jf 2] .mN,GC 23 [.Bs 21,.Bs 22] (.kQ 2),GC 24 [.Bs 23] (.zy (.str 2)),GC 8 [] (.alloc [.int .i64 0,.int .i64 0]),GC 7 [] (.alloc [.int .i64 0,.int .i64 0]),⟨none,[.sl 7,.jf 16],none,none,.st 2⟩,⟨none,[.sl 8,.jf 24],none,none,.st 2⟩]
noncomputable def ajK:fT:=.seq (.oh false [GC 25 [.sl 7] (.yG 0),GC 26 [.Bs 25] (.zx .one),GC 27 [.sl 8] (.yG 0),GC 28 [.Bs 27] (.zx .one),GC 29 [.Bs 26,.Bs 28] (.bin .eql),GC 30 [.jf 29] .mN,⟨some 31,[.sl 7],some (30,false),none,.yG 0⟩,⟨some 32,[.Bs 31],some (30,false),none,.zx .one⟩,⟨some 33,[.sl 8],some (30,false),none,.yG 1⟩,⟨some 34,[.Bs 33],some (30,false),none,.zx .one⟩,⟨some 35,[.Bs 32,.Bs 34],some (30,false),none,.bin .eql⟩,GC 36 [.Bs 30,.lR (.bool true),.Bs 35] .pick,GC 37 [.jf 36] .mN,⟨some 38,[.sl 7],some (37,false),none,.yG 1⟩,⟨some 39,[.Bs 38],some (37,false),none,.zx .one⟩,⟨some 40,[.sl 8],some (37,false),none,.yG 0⟩,⟨some 41,[.Bs 40],some (37,false),none,.zx .one⟩,⟨some 42,[.Bs 39,.Bs 41],some (37,false),none,.bin .eql⟩,GC 43 [.Bs 37,.lR (.bool true),.Bs 42] .pick,GC 44 [.jf 43] .mN,⟨some 45,[.Bs 7],some (44,false),none,.yG 1⟩,⟨some 46,[.Bs 45],some (44,false),none,.zx .one⟩,⟨some 47,[.Bs 8],some (44,false),none,.yG 1⟩,⟨some 48,[.Bs 47],some (44,false),none,.zx .one⟩,⟨some 49,[.Bs 46,.Bs 48],some (44,false),none,.bin .eql⟩,GC 50 [.Bs 44,.lR (.bool true),.Bs 49] .pick,GC 6 [.jf 50] .mN]) .ret
theorem aeK:SC Tryz.prog UO 100 16=some (ZK,ZL,ZM,ajK,51,[.tmp 6]):=by kernel_rfl
def Jh (a b:Int×Int):Bool:=decide (a.1=b.1) || decide (a.1=b.2) || decide (a.2=b.1) || decide (a.2=b.2)
def T_ (t:p5) (i k:Int):Option Bool :=
 p9 (0≤i∧i<(t.2.length:Int)) <|
 p9 (0≤k∧k<(t.2.length:Int)) <|
 some (Jh (ix t.2 i) (ix t.2 k))
theorem aiy {t:p5} {i k:Int} {v:Bool} (h:T_ t i k=some v):qw 100 [.bT [hU t.1,.ax (t.2.flatMap p2) t.2.length .shared],hU i,hU k] (B v):=by
 obtain ⟨gD,h⟩:=qB h;obtain ⟨gE,h⟩:=qB h;obtain rfl:=Option.some.inj h;refine acU eo aeK rfl rfl fun Q bo=>?_;have jB:∀ T H,ID [.tmp 6] (B (Jh (ix t.2 i) (ix t.2 k))) .ret T H→Q .ret T H:=fun T H bH=>bo _ T H bH;unfold ZK;conv=>whnf
 refine ⟨rfl,?_,fun acc=>?_⟩
 ·unfold ZL;conv=>whnf
  refine ⟨gD,?_⟩;rw [q' p2 2 qy t.2 i gD];conv=>whnf
  refine ⟨gE,?_⟩;rw [q' p2 2 qy t.2 k gE];conv=>whnf
  rcases LX (decide ((ix t.2 i).1=(ix t.2 k).1)) with fY | fY
  ·rw [fY];(conv=>whnf);exact jB _ _ ⟨.inr rfl,_,rfl,_,o9 rfl,(by unfold Jh;rw [fY];rfl)⟩
  ·rw [fY];(conv=>whnf);rcases LX (decide ((ix t.2 i).1=(ix t.2 k).2)) with e1 | e1
   ·rw [e1];(conv=>whnf);exact jB _ _ ⟨.inr rfl,_,rfl,_,o9 rfl,(by unfold Jh;rw [fY,e1];rfl)⟩
   ·rw [e1];(conv=>whnf);rcases LX (decide ((ix t.2 i).2=(ix t.2 k).1)) with b' | b'
    ·rw [b'];(conv=>whnf);exact jB _ _ ⟨.inr rfl,_,rfl,_,o9 rfl,(by unfold Jh;rw [fY,e1,b'];rfl)⟩
    ·rw [b'];(conv=>whnf);exact jB _ _ ⟨.inr rfl,_,rfl,_,o9 rfl,(by unfold Jh;rw [fY,e1,b'];rfl)⟩
 ·unfold ZM;conv=>whnf
  refine ⟨gD,?_⟩;rw [q' p2 2 qy t.2 i gD];conv=>whnf
  refine ⟨gE,?_⟩;rw [q' p2 2 qy t.2 k gE];conv=>whnf
  rcases LX (decide ((ix t.2 i).1=(ix t.2 k).1)) with fY | fY
  ·rw [fY];(conv=>whnf);exact jB _ _ ⟨.inr rfl,_,rfl,_,o9 rfl,(by unfold Jh;rw [fY];rfl)⟩
  ·rw [fY];(conv=>whnf);rcases LX (decide ((ix t.2 i).1=(ix t.2 k).2)) with e1 | e1
   ·rw [e1];(conv=>whnf);exact jB _ _ ⟨.inr rfl,_,rfl,_,o9 rfl,(by unfold Jh;rw [fY,e1];rfl)⟩
   ·rw [e1];(conv=>whnf);rcases LX (decide ((ix t.2 i).2=(ix t.2 k).1)) with b' | b'
    ·rw [b'];(conv=>whnf);exact jB _ _ ⟨.inr rfl,_,rfl,_,o9 rfl,(by unfold Jh;rw [fY,e1,b'];rfl)⟩
    ·rw [b'];(conv=>whnf);exact jB _ _ ⟨.inr rfl,_,rfl,_,o9 rfl,(by unfold Jh;rw [fY,e1,b'];rfl)⟩

noncomputable def aar:fT :=
 pY [GC 4 [.lR (.bool false)] .mN] (pY [qc 5 1,qc 6 2,pX 7 0,GC 8 [.lR (.func 100 [] []),.sl 5,.sl 6,.sl 7] (.call 3),pX 4 8] .ret)
theorem afp:zD Tryz.prog Vn 99=some (aar,9,[.tmp 4]):=by kernel_rfl
def QS (k:Int) (gV:qe) (a_:Int):Option Bool :=
 (T_ gV a_ k).bind fun r1 =>
 some r1
theorem ajJ {k:Int} {gV:qe} {a_:Int} {v:Bool} (h:QS k gV a_=some v):qw 99 [(hU k),(.bT [(.bT [(hU gV.1),(.ax (gV.2.flatMap p2) gV.2.length .shared)])]),(.bT [(hU a_)])] (B v):=by
 refine q7 eo afp rfl rfl fun Q bo=>?_;have jB:qK [.tmp 4] Q (fun v=>(B v)) v:=fun T H bH=>bo _ T H bH;unfold QS at h;unfold aar;conv=>whnf
 obtain ⟨r1,gD,h⟩:=qj h;refine ⟨ql.pl,_,aiy gD,?_⟩;conv=>whnf
 exact qd h jB rfl rfl

noncomputable def aaq:fT :=
 pY [GC 4 [.lR (.bool false)] .mN] (pY [pX 5 0,GC 6 [.Bs 1,.Bs 2] (.zR 99 0 2),GC 7 [.lR (.func 92 [] []),.sl 5,.sl 6] (.call 6),pX 4 7] .ret)
theorem afo:zD Tryz.prog Vm 98=some (aaq,8,[.tmp 4]):=by kernel_rfl
def ML (part:p7) (gV:qe) (a_:Int):Option Bool :=
 (Kw part (fun qN=>QS qN gV a_)).bind fun r1 =>
 some r1
theorem ZJ {part:p7} {gV:qe} {a_:Int} {v:Bool} (h:ML part gV a_=some v):qw 98 [(.ax (part.map hU) part.length .shared),(.bT [(.bT [(hU gV.1),(.ax (gV.2.flatMap p2) gV.2.length .shared)])]),(.bT [(hU a_)])] (B v):=by
 refine q7 eo afo rfl rfl fun Q bo=>?_;have jB:qK [.tmp 4] Q (fun v=>(B v)) v:=fun T H bH=>bo _ T H bH;unfold ML at h;unfold aaq;conv=>whnf
 obtain ⟨r1,gD,h⟩:=qj h;refine ⟨_,_,I2 (cs:=[(qi part .shared),(.func 99 [] [(.bT [(.bT [(hU gV.1),(p6 gV.2 .shared)])]),(.bT [(hU a_)])])]) (bs:=[(qi part .shared),(.func 99 [] [(.bT [(.bT [(hU gV.1),(p6 gV.2 .shared)])]),(.bT [(hU a_)])])]) (ru rfl (ru (K0 rY (ru rfl (ru rfl rY))) rY)) (by rfl) (by exact (p1 (rX (fun _=>rfl) _ _ _) (p1 (Kl rfl (p1 (rj (p1 (rj (p1 rfl (p1 (q8 (fun _=>(p1 rfl (p1 rfl rfl))) _ _ _) rfl))) rfl)) (p1 (rj (p1 rfl rfl)) rfl))) rfl))) (ZG ⟨(p1 (rj (p1 (rj (p1 rfl (p1 (q8 (fun _=>(p1 rfl (p1 rfl rfl))) _ _ _) rfl))) rfl)) (p1 (rj (p1 rfl rfl)) rfl)),by simp⟩ (fun _ _ aY=>ajJ aY) gD) rfl,?_⟩;conv=>whnf
 exact qd h jB rfl rfl

abbrev Iz (tab:p5):I:=.bT [hU tab.1,.ax (tab.2.flatMap p2) tab.2.length .shared]
abbrev IA (tab:p5):ar:=.cells [Iz tab]
def PQ (tab:p5) (s:Int) (own r:List Int):Option (List Int):=(ML r tab s).bind fun b=>if b=true then p9 ((own.length+r.length)*8≤140737488355328) (some (own++r)) else some own
def OB (tab:p5) (out:List (List Int)) (s:Int):Option (List (List Int)) :=
 (H9 (PQ tab s) out [s]).bind fun own=>p9 (own.length≤12∧own.length≠0∧out.length≤1000) ((L0 (fun r=>ML r tab s) out).bind fun rest=>some (rest++[r9 own]))
def Ku (tab:p5) (qf:List Int):Option (List (List Int)) :=
 p9 (qf.length≤1000) ((H9 (OB tab) qf []).bind fun out=>p9 (out.length≤12∧out.all Nn=true) (some (Iy out)))
theorem Vz {H:List ar} {tab:p5} {c:Nat} {s:Int} (aU:H[0]?=some (IA tab)) (al:H[c]?=some (.cells [hU s])):[I.ptr 0 0,.ptr c 0].map (im H)=[.bT [Iz tab],.bT [hU s]] :=
 ru (J3 aU rfl) (ru (J3 al rfl) rY)
theorem Vy (tab:p5) (s:Int):[I.bT [Iz tab],.bT [hU s]].all (ch 8)=true :=
 p1 (rj (p1 (rj (p1 rfl (p1 (q8 (fun _=>(p1 rfl (p1 rfl rfl))) _ _ _) rfl))) rfl)) (p1 rfl rfl)
theorem adj {tab:p5} {s:Int} {out:List (List Int)} {own:List Int} {x c i n:Nat} {sl:I} {H1:List ar} (bE:H9 (PQ tab s) out [s]=some own) (hlen:out.length≤1000) (L5:H1[x]?=some (.grow (out.map oL) (x+1) 1)) (aU:H1[0]?=some (IA tab)) (al:H1[c]?=some (.cells [hU s]))
  {Q:cz→List I→List ar→Prop} (av:Q (.exit 2) (Hc 46 [(2,.ptr 0 0),(5,.ck x (x+1) out.length 1),(8,.func 98 [] [.ptr 0 0,.ptr c 0]),(9,.ax (own.map hU) own.length (.uniq 1)),(12,sl),(13,hU n),(14,hU i),(21,.ref x 0 out.length none 1),(22,hU out.length),(23,hU out.length),(24,B (decide ((out.length:Int)<(out.length:Int))))]) H1)
  {T:List I} (bW:eX [false,false,true,false,false,true,false,false,true,true,false,false,true,true,true,false,false,false,false,false,false,true,true,true,false,false,false,false,false,false,false,false,false,false,false,false,false,false,false,false,false,false,false,false,false,false] T=Hc 46 [(2,.ptr 0 0),(5,.ck x (x+1) out.length 1),(8,.func 98 [] [.ptr 0 0,.ptr c 0]),(9,.ax [hU s] 1 (.uniq 1)),(12,sl),(13,hU n),(14,hU i),(21,.ref x 0 out.length none 1),(22,hU out.length),(23,hU (0:Nat))]) :
  dO Tryz.prog MT 79 0 none Nl T H1 Q:=by
 unfold Nl;obtain ⟨ba,b5⟩:∃ c,Ql=c:=⟨_,rfl⟩;rw [b5];refine wp_loop bW ?_;obtain ⟨F,Rl,Fn,Rn⟩:=PF bE;refine .intro (fun m T H=>∃ k:Nat,k≤out.length∧m=out.length-k∧T=Hc 46 [(2,.ptr 0 0),(5,.ck x (x+1) out.length 1),(8,.func 98 [] [.ptr 0 0,.ptr c 0]),(9,.ax ((F k).map hU) (F k).length (.uniq 1)),(12,sl),(13,hU n),(14,hU i),(21,.ref x 0 out.length none 1),(22,hU out.length),(23,hU k)]∧H=H1) out.length ⟨0,by omega,by omega,by rw [Rl];rfl,rfl⟩ ?_;clear bW;rintro m T H ⟨k,akh,rfl,rfl,rfl⟩;conv=>whnf
 refine I4 (fun aS=>?_) (fun aS=>?_)
 ·have aS:k<out.length:=by omega
  conv=>whnf
  subst b5;unfold Ql;obtain ⟨a_,ca⟩:∃ c,TL=c:=⟨_,rfl⟩;rw [ca];refine IW fun m' Hv=>?_;conv=>whnf
  refine ⟨by omega,?_⟩;conv=>whnf
  refine Es L5 ?_;conv=>whnf
  refine Es (TV out rfl aS) ?_;conv=>whnf
  obtain ⟨b,ag,ai⟩:=qj (Rn k aS);refine ⟨_,_,I2 (cs:=[oL out[k],.bT [Iz tab],.bT [hU s]]) (bs:=[oL out[k],.bT [Iz tab],.bT [hU s]]) (ru rfl (Vz aU al)) rfl (p1 (rX (fun _=>rfl) _ _ _) (Vy tab s)) (ZJ ag) rfl,?_⟩;conv=>whnf
  cases b with
  | true =>
    rw [if_pos rfl] at ai;obtain ⟨ao,ai⟩:=qB ai;have ai:=Option.some.inj ai;(conv=>whnf);subst ca;unfold TL;(conv=>whnf);refine ⟨by simp,by omega,rfl,ao,?_⟩;erw [abL hU (F k) out[k]];rw [ai];(conv=>whnf);refine Hv _ _ _ ?_;(conv=>whnf);exact ⟨out.length-(k+1),by omega,k+1,by omega,rfl,by rw [←Ho k (by omega)] <;> rfl,rfl⟩
  | false =>
    have ai:=Option.some.inj ai;(conv=>whnf);refine Hv _ _ _ ?_;(conv=>whnf);exact ⟨out.length-(k+1),by omega,k+1,by omega,rfl,by rw [←ai,←Ho k (by omega)] <;> rfl,rfl⟩
 ·obtain rfl:k=out.length:=by omega
  conv=>whnf
  rw [Fn];exact av
theorem adk {s:Int} {c i n:Nat} {sl:I} {H1:List ar}
  {Q:cz→List I→List ar→Prop} (av:Q (.exit 2) (Hc 46 [(2,.ptr 0 0),(5,.ax [] 0 .full),(8,.func 98 [] [.ptr 0 0,.ptr c 0]),(9,.ax [hU s] 1 (.uniq 1)),(12,sl),(13,hU n),(14,hU i),(21,.ax [] 0 .full),(22,hU 0),(23,hU 0),(24,B false)]) H1)
  {T:List I} (bW:eX [false,false,true,false,false,true,false,false,true,true,false,false,true,true,true,false,false,false,false,false,false,true,true,true,false,false,false,false,false,false,false,false,false,false,false,false,false,false,false,false,false,false,false,false,false,false] T=Hc 46 [(2,.ptr 0 0),(5,.ax [] 0 .full),(8,.func 98 [] [.ptr 0 0,.ptr c 0]),(9,.ax [hU s] 1 (.uniq 1)),(12,sl),(13,hU n),(14,hU i),(21,.ax [] 0 .full),(22,hU 0),(23,hU 0)]) :
  dO Tryz.prog MT 79 0 none Nl T H1 Q:=by
 unfold Nl;obtain ⟨ba,b5⟩:∃ c,Ql=c:=⟨_,rfl⟩;rw [b5];refine wp_loop bW ?_;refine .intro (fun m T H=>T=Hc 46 [(2,.ptr 0 0),(5,.ax [] 0 .full),(8,.func 98 [] [.ptr 0 0,.ptr c 0]),(9,.ax [hU s] 1 (.uniq 1)),(12,sl),(13,hU n),(14,hU i),(21,.ax [] 0 .full),(22,hU 0),(23,hU 0)]∧H=H1) 0 ⟨rfl,rfl⟩ ?_;clear bW;rintro m T H ⟨rfl,rfl⟩;conv=>whnf
 exact av
def KB (tab:p5) (out:List (List Int)) (v5:I) (H:List ar):Prop :=
 H[0]?=some (IA tab)∧((out=[]∧v5=.ax [] 0 .full)∨∃ X:List ar,0<X.length∧v5=.ck X.length (X.length+1) out.length 1∧H=X++[.grow (out.map oL) (X.length+1) 1,.dead])
theorem KB.mk' {tab:p5} {out:List (List Int)} {X:List ar} (h:X[0]?=some (IA tab)) {l:List I} (ao:l=out.map oL) {n:Nat} (aN:n=out.length):KB tab out (.ck X.length (X.length+1) n 1) (X++[.grow l (X.length+1) 1,.dead]):=by
 subst ao aN;have ad:=(sb.1 h).1;exact ⟨qU h,.inr ⟨X,ad,rfl,rfl⟩⟩
theorem qH {H:List ar} {i j:Nat} {o c:ar} (h:H[i]?=some o) (aN:j≠i):(H.set j c)[i]?=some o:=by rw [List.getElem?_set_ne aN];exact h
theorem V1 {P:Program} {C:b7} {id n:Nat} {o:Oper} {x:Operand} {H:List ar} (l:List Int) (aq:o.op=.move x) (aN:n=l.length) (ah:H[id]?=some (.cells (l.map hU))) :
  a4 P C 0 o 2 [.ref id 0 n none 1] H=some (oL l,H.set id .dead) :=
 acX (cs:=l.map hU) (sz:=1) aq (sC _) ah aN (by simp) (ah1 (fun _=>rfl) _)
theorem W8 {tab:p5} {s:Int} {out rest:List (List Int)} {own:List Int} {v5:I} {H:List ar} {i n:Nat} {sl:I} (cl:KB tab out v5 H) (MY:own.length≤12) (bN:own.length≠0) (hlen:out.length≤1000) (a2:L0 (fun r=>ML r tab s) out=some rest)
  {v21 v22 v23 v24:I} {Q:cz→List I→List ar→Prop} (av:∀ Nt H' T4 Ji Jj Jk Jl Ie Ig Ih Jm,KB tab (rest++[r9 own]) Nt H'→Q .normal (Hc 46 [(2,.ptr 0 0),(5,Nt),(9,T4),(12,sl),(13,hU n),(14,hU i),(21,v21),(22,v22),(23,v23),(24,v24),(34,Ji),(35,Jj),(36,Jk),(37,Jl),(38,Ie),(39,Ig),(40,Ih),(41,Jm)]) H') :
  dO Tryz.prog MT 79 0 none Qn (Hc 46 [(2,.ptr 0 0),(5,v5),(8,.func 98 [] [.ptr 0 0,.ptr H.length 0]),(9,.ax (own.map hU) own.length (.uniq 1)),(12,sl),(13,hU n),(14,hU i),(21,v21),(22,v22),(23,v23),(24,v24)]) (H++[.cells [hU s]]) Q:=by
 unfold Qn;obtain ⟨br,en⟩:∃ c,TM=c:=⟨_,rfl⟩;rw [en];obtain ⟨aU,cl⟩:=cl;have gC:=(sb.1 aU).1;conv=>whnf
 refine .inl ⟨bN,?_⟩;conv=>whnf
 refine ⟨_,_,HB (XS own (sC _) MY rfl (I7 _ _)),?_⟩;rw [rK];conv=>whnf
 subst en;unfold TM;rcases cl with ⟨rfl,rfl⟩ | ⟨X,H_,rfl,rfl⟩
 ·obtain rfl:rest=[]:=(Option.some.inj a2).symm;conv=>whnf
  refine ⟨_,_,HB acv,?_⟩;conv=>whnf
  refine ⟨_,_,fun C=>V1 (r9 own) rfl (Qu own).symm (I7 _ _),?_⟩;rw [rK];conv=>whnf
  refine ⟨⟨rfl,by decide⟩,?_⟩;conv=>whnf
  refine ⟨⟨by decide,by decide,rfl⟩,?_⟩;conv=>whnf
  exact av _ _ _ _ _ _ _ _ _ _ _ (KB.mk' (qU (qU aU)) rfl rfl)
 ·conv=>whnf
  refine ⟨_,_,HB (acw (g:=X.length+1) (cs:=[.bT [Iz tab],.bT [hU s]]) a2 (sC _) (fun c=>Vz (qH (qU (qU aU)) (by omega)) (qH (qU (I7 _ _)) (by simp))) rfl (Vy tab s) hlen rfl (fun _ _ ag=>ZJ ag) (qU (qU (MX _ _)))),?_⟩;conv=>whnf
  refine ⟨_,_,fun C=>V1 (r9 own) rfl (Qu own).symm (qH (I7 _ _) (by simp <;> omega)),?_⟩;conv=>whnf
  refine ⟨⟨rfl,by decide⟩,?_⟩;conv=>whnf
  have aj:rest.length≤out.length:=by
   obtain ⟨p,_,e⟩:=VI a2;rw [e];exact List.length_filter_le _ _
  refine ⟨⟨rfl,by decide,by omega⟩,?_⟩;conv=>whnf
  exact av _ _ _ _ _ _ _ _ _ _ _ (KB.mk' (qH (qH (qU (qU aU)) (by omega)) (by simp)) (by rw [List.map_append];rfl) (by simp))
theorem afJ {tab:p5} {qf:List Int} {M9:List (List Int)} {H:List ar} (bE:H9 (OB tab) qf []=some M9) (DD:qf.length≤1000) (aU:H[0]?=some (IA tab))
  {Q:cz→List I→List ar→Prop} (av:∀ v5 H',KB tab M9 v5 H'→Q (.exit 0) (Hc 46 [(2,.ptr 0 0),(5,v5),(12,oL qf),(13,hU qf.length),(14,hU qf.length),(15,B (decide ((qf.length:Int)<(qf.length:Int))))]) H')
  {T:List I} (bW:eX [false,false,true,false,false,true,false,false,false,false,false,false,true,true,true,false,false,false,false,false,false,false,false,false,false,false,false,false,false,false,false,false,false,false,false,false,false,false,false,false,false,false,false,false,false,false] T=Hc 46 [(2,.ptr 0 0),(5,.ax [] 0 .full),(12,oL qf),(13,hU qf.length),(14,hU (0:Nat))]) :
  dO Tryz.prog MT 79 0 none Qm T H Q:=by
 unfold Qm;obtain ⟨fW,HF⟩:∃ c,TQ=c:=⟨_,rfl⟩;rw [HF];refine wp_loop bW ?_;obtain ⟨F,Rl,Fn,Rn⟩:=PF bE;refine .intro (fun m T H=>∃ (i:Nat) (v5:I),i≤qf.length∧m=qf.length-i∧KB tab (F i) v5 H∧T=Hc 46 [(2,.ptr 0 0),(5,v5),(12,oL qf),(13,hU qf.length),(14,hU i)]) qf.length ⟨0,_,by omega,by omega,⟨aU,.inl ⟨Rl,rfl⟩⟩,rfl⟩ ?_;clear bW aU;rintro m T H ⟨i,v5,hi,rfl,cl,rfl⟩;conv=>whnf
 refine I4 (fun aS=>?_) (fun aS=>?_)
 ·have aS:i<qf.length:=by omega
  obtain ⟨own,nI,aB⟩:=qj (Rn i aS);obtain ⟨⟨MY,bN,hlen⟩,aB⟩:=qB aB;obtain ⟨rest,a2,aB⟩:=qj aB;have aB:=Option.some.inj aB;conv=>whnf
  subst HF;unfold TQ;obtain ⟨dV,Cs⟩:∃ c,TP=c:=⟨_,rfl⟩;rw [Cs];refine IW fun m' Hv=>?_;conv=>whnf
  refine ⟨by omega,?_⟩;conv=>whnf
  refine afA _ _ _ (aS) ?_;conv=>whnf
  refine Es (I7 _ _) ?_;conv=>whnf
  rw [rK];conv=>whnf
  subst Cs;unfold TP;obtain ⟨b8,iD⟩:∃ c,TN=c:=⟨_,rfl⟩;rw [iD];conv=>whnf
  refine Es (I7 _ _) ?_;conv=>whnf
  subst iD;unfold TN;obtain ⟨RE,I6⟩:∃ c,Nl=c:=⟨_,rfl⟩;obtain ⟨aj1,RS⟩:∃ c,Qn=c:=⟨_,rfl⟩;rw [I6,RS];have pc:=cl;obtain ⟨aU,cl⟩:=cl;rcases cl with ⟨aq,rfl⟩ | ⟨X,H_,rfl,ah⟩
  ·(conv=>whnf);subst I6;have jQ:own=[qf[i]]:=by
    rw [aq] at nI;exact (Option.some.inj nI).symm
   refine adk (s:=qf[i]) (c:=H.length) (n:=qf.length) (i:=i) (sl:=oL qf) ?_ (by exact rfl);(conv=>whnf);subst RS;refine W8 (own:=own) (v5:=.ax [] 0 .full) pc MY bN hlen a2 (v21:=.ax [] 0 .full) (v22:=hU 0) (v23:=hU 0) (v24:=B false) ?_ |> cast (by rw [jQ];rfl)
   intro Nt H' T4 Ji Jj Jk Jl Ie Ig Ih Jm JN;(conv=>whnf);refine Hv _ _ _ ?_;(conv=>whnf);exact ⟨qf.length-(i+1),by omega,i+1,Nt,by omega,rfl,by rw [←aB];exact JN,by rw [←Ho i (by omega)] <;> rfl⟩
  ·(conv=>whnf);subst I6;refine adj (x:=X.length) (c:=H.length) (n:=qf.length) (i:=i) (sl:=oL qf) nI hlen (qU (by rw [ah];exact MX _ _)) (qU aU) (I7 _ _) ?_ (by exact rfl);(conv=>whnf);subst RS;refine W8 (own:=own) pc MY bN hlen a2 ?_;intro Nt H' T4 Ji Jj Jk Jl Ie Ig Ih Jm JN;(conv=>whnf);refine Hv _ _ _ ?_;(conv=>whnf);exact ⟨qf.length-(i+1),by omega,i+1,Nt,by omega,rfl,by rw [←aB];exact JN,by rw [←Ho i (by omega)] <;> rfl⟩
 ·obtain rfl:i=qf.length:=by omega
  conv=>whnf
  exact av _ _ (by rw [←Fn];exact cl)
theorem Zw {t:p5} {qf:List Int} {v:List (List Int)} (h:Ku t qf=some v):qw 79 [Iz t,.ax (qf.map hU) qf.length .shared] (.ax (v.map oL) v.length .shared):=by
 obtain ⟨DD,h⟩:=qB h;obtain ⟨out,bE,h⟩:=qj h;obtain ⟨⟨MY,cP⟩,h⟩:=qB h;obtain rfl:=Option.some.inj h;refine q7 eo aeI rfl (rX (fun _=>(rX (fun _=>rfl) _ _ _)) _ _ _) fun Q bo=>?_;have jB:∀ T H,ID [.tmp 4] (.ax ((Iy out).map oL) (Iy out).length .shared) .ret T H→Q .ret T H:=fun T H bH=>bo _ T H bH;unfold Xu;obtain ⟨nj,Hl⟩:∃ c,TS=c:=⟨_,rfl⟩;rw [Hl];conv=>whnf
 subst Hl;unfold TS;obtain ⟨RE,I6⟩:∃ c,Qm=c:=⟨_,rfl⟩;obtain ⟨ni,Io⟩:∃ c,TR=c:=⟨_,rfl⟩;rw [I6,Io];conv=>whnf
 subst I6;refine afJ (tab:=t) bE DD rfl ?_ (by exact rfl);intro v5 H' cl;conv=>whnf
 subst Io;unfold TR;obtain ⟨aU,cl⟩:=cl;rcases cl with ⟨rfl,rfl⟩ | ⟨X,H_,rfl,rfl⟩
 ·have e:Iy []=[]:=List.eq_nil_of_length_eq_zero (by rw [T0];rfl);rw [e] at jB;conv=>whnf
  refine ⟨_,_,HB ahg,?_⟩;conv=>whnf
  refine ⟨_,_,fun C=>rfl,?_⟩;conv=>whnf
  exact jB _ _ ⟨.inr rfl,_,rfl,_,o9 rfl,rfl⟩
 ·conv=>whnf
  refine ⟨_,_,HB (ahk out (sC _) MY cP rfl (MX X _)),?_⟩;rw [XM];conv=>whnf
  refine ⟨_,_,fun C=>V2 rfl (sC _) (MX X _) (by rw [List.length_map,T0,Nat.mul_one]),?_⟩;rw [T8 (fun _=>rfl),XM];conv=>whnf
  rw [T0] at jB;exact jB _ _ ⟨.inr rfl,_,rfl,_,o9 (rX (fun _=>(rX (fun _=>rfl) _ _ _)) _ _ _),rfl⟩
end Go.Proofs.YtfakoboiahbhaaaGreat.Ab


namespace Go.Proofs.YtfakoboiahbhaaaGreat.Ab
open Go
def XZ:qu:=.pure 100 [.bT [.int .i64 4,.ax [.int .i64 0,.int .i64 1,.int .i64 1,.int .i64 2,.int .i64 2,.int .i64 0,.int .i64 2,.int .i64 3] 4 .shared],.int .i64 0,.int .i64 0] (.bool true)
theorem ahq:qG Go.Proofs.Tryz.prog XZ:=rV (p:=16) (by kernel_rfl)
def X0:qu:=.pure 100 [.bT [.int .i64 4,.ax [.int .i64 0,.int .i64 1,.int .i64 1,.int .i64 2,.int .i64 2,.int .i64 0,.int .i64 2,.int .i64 3] 4 .shared],.int .i64 0,.int .i64 1] (.bool true)
theorem ahr:qG Go.Proofs.Tryz.prog X0:=rV (p:=16) (by kernel_rfl)
def X1:qu:=.pure 100 [.bT [.int .i64 4,.ax [.int .i64 0,.int .i64 1,.int .i64 1,.int .i64 2,.int .i64 2,.int .i64 0,.int .i64 2,.int .i64 3] 4 .shared],.int .i64 0,.int .i64 2] (.bool true)
theorem ahs:qG Go.Proofs.Tryz.prog X1:=rV (p:=16) (by kernel_rfl)
def X2:qu:=.pure 100 [.bT [.int .i64 4,.ax [.int .i64 0,.int .i64 1,.int .i64 1,.int .i64 2,.int .i64 2,.int .i64 0,.int .i64 2,.int .i64 3] 4 .shared],.int .i64 0,.int .i64 3] (.bool false)
theorem aht:qG Go.Proofs.Tryz.prog X2:=rV (p:=16) (by kernel_rfl)
def X3:qu:=.pure 100 [.bT [.int .i64 4,.ax [.int .i64 0,.int .i64 1,.int .i64 1,.int .i64 2,.int .i64 2,.int .i64 0,.int .i64 2,.int .i64 3] 4 .shared],.int .i64 1,.int .i64 0] (.bool true)
theorem ahu:qG Go.Proofs.Tryz.prog X3:=rV (p:=16) (by kernel_rfl)
def X4:qu:=.pure 100 [.bT [.int .i64 4,.ax [.int .i64 0,.int .i64 1,.int .i64 1,.int .i64 2,.int .i64 2,.int .i64 0,.int .i64 2,.int .i64 3] 4 .shared],.int .i64 1,.int .i64 1] (.bool true)
theorem ahv:qG Go.Proofs.Tryz.prog X4:=rV (p:=16) (by kernel_rfl)
def X5:qu:=.pure 100 [.bT [.int .i64 4,.ax [.int .i64 0,.int .i64 1,.int .i64 1,.int .i64 2,.int .i64 2,.int .i64 0,.int .i64 2,.int .i64 3] 4 .shared],.int .i64 1,.int .i64 2] (.bool true)
theorem ahw:qG Go.Proofs.Tryz.prog X5:=rV (p:=16) (by kernel_rfl)
def X6:qu:=.pure 100 [.bT [.int .i64 4,.ax [.int .i64 0,.int .i64 1,.int .i64 1,.int .i64 2,.int .i64 2,.int .i64 0,.int .i64 2,.int .i64 3] 4 .shared],.int .i64 1,.int .i64 3] (.bool true)
theorem ahx:qG Go.Proofs.Tryz.prog X6:=rV (p:=16) (by kernel_rfl)
def X7:qu:=.pure 100 [.bT [.int .i64 4,.ax [.int .i64 0,.int .i64 1,.int .i64 1,.int .i64 2,.int .i64 2,.int .i64 0,.int .i64 2,.int .i64 3] 4 .shared],.int .i64 2,.int .i64 0] (.bool true)
theorem ahy:qG Go.Proofs.Tryz.prog X7:=rV (p:=16) (by kernel_rfl)
def X8:qu:=.pure 100 [.bT [.int .i64 4,.ax [.int .i64 0,.int .i64 1,.int .i64 1,.int .i64 2,.int .i64 2,.int .i64 0,.int .i64 2,.int .i64 3] 4 .shared],.int .i64 2,.int .i64 1] (.bool true)
theorem ahz:qG Go.Proofs.Tryz.prog X8:=rV (p:=16) (by kernel_rfl)
def X9:qu:=.pure 100 [.bT [.int .i64 4,.ax [.int .i64 0,.int .i64 1,.int .i64 1,.int .i64 2,.int .i64 2,.int .i64 0,.int .i64 2,.int .i64 3] 4 .shared],.int .i64 2,.int .i64 2] (.bool true)
theorem ahA:qG Go.Proofs.Tryz.prog X9:=rV (p:=16) (by kernel_rfl)
def X_:qu:=.pure 100 [.bT [.int .i64 4,.ax [.int .i64 0,.int .i64 1,.int .i64 1,.int .i64 2,.int .i64 2,.int .i64 0,.int .i64 2,.int .i64 3] 4 .shared],.int .i64 2,.int .i64 3] (.bool true)
theorem ahB:qG Go.Proofs.Tryz.prog X_:=rV (p:=16) (by kernel_rfl)
def X':qu:=.pure 100 [.bT [.int .i64 4,.ax [.int .i64 0,.int .i64 1,.int .i64 1,.int .i64 2,.int .i64 2,.int .i64 0,.int .i64 2,.int .i64 3] 4 .shared],.int .i64 3,.int .i64 0] (.bool false)
theorem ahC:qG Go.Proofs.Tryz.prog X':=rV (p:=16) (by kernel_rfl)
def Ya:qu:=.pure 100 [.bT [.int .i64 4,.ax [.int .i64 0,.int .i64 1,.int .i64 1,.int .i64 2,.int .i64 2,.int .i64 0,.int .i64 2,.int .i64 3] 4 .shared],.int .i64 3,.int .i64 1] (.bool true)
theorem ahD:qG Go.Proofs.Tryz.prog Ya:=rV (p:=16) (by kernel_rfl)
def Yb:qu:=.pure 100 [.bT [.int .i64 4,.ax [.int .i64 0,.int .i64 1,.int .i64 1,.int .i64 2,.int .i64 2,.int .i64 0,.int .i64 2,.int .i64 3] 4 .shared],.int .i64 3,.int .i64 2] (.bool true)
theorem ahE:qG Go.Proofs.Tryz.prog Yb:=rV (p:=16) (by kernel_rfl)
def Yc:qu:=.pure 100 [.bT [.int .i64 4,.ax [.int .i64 0,.int .i64 1,.int .i64 1,.int .i64 2,.int .i64 2,.int .i64 0,.int .i64 2,.int .i64 3] 4 .shared],.int .i64 3,.int .i64 3] (.bool true)
theorem ahF:qG Go.Proofs.Tryz.prog Yc:=rV (p:=16) (by kernel_rfl)
def Ye:qu:=.pure 100 [.bT [.int .i64 5,.ax [.int .i64 0,.int .i64 1,.int .i64 2,.int .i64 3,.int .i64 4,.int .i64 4] 3 .shared],.int .i64 0,.int .i64 0] (.bool true)
theorem ahJ:qG Go.Proofs.Tryz.prog Ye:=rV (p:=16) (by kernel_rfl)
def Yf:qu:=.pure 100 [.bT [.int .i64 5,.ax [.int .i64 0,.int .i64 1,.int .i64 2,.int .i64 3,.int .i64 4,.int .i64 4] 3 .shared],.int .i64 0,.int .i64 1] (.bool false)
theorem ahK:qG Go.Proofs.Tryz.prog Yf:=rV (p:=16) (by kernel_rfl)
def Yg:qu:=.pure 100 [.bT [.int .i64 5,.ax [.int .i64 0,.int .i64 1,.int .i64 2,.int .i64 3,.int .i64 4,.int .i64 4] 3 .shared],.int .i64 0,.int .i64 2] (.bool false)
theorem ahL:qG Go.Proofs.Tryz.prog Yg:=rV (p:=16) (by kernel_rfl)
def Yh:qu:=.pure 100 [.bT [.int .i64 5,.ax [.int .i64 0,.int .i64 1,.int .i64 2,.int .i64 3,.int .i64 4,.int .i64 4] 3 .shared],.int .i64 1,.int .i64 0] (.bool false)
theorem ahM:qG Go.Proofs.Tryz.prog Yh:=rV (p:=16) (by kernel_rfl)
def Yi:qu:=.pure 100 [.bT [.int .i64 5,.ax [.int .i64 0,.int .i64 1,.int .i64 2,.int .i64 3,.int .i64 4,.int .i64 4] 3 .shared],.int .i64 1,.int .i64 1] (.bool true)
theorem ahN:qG Go.Proofs.Tryz.prog Yi:=rV (p:=16) (by kernel_rfl)
def Yj:qu:=.pure 100 [.bT [.int .i64 5,.ax [.int .i64 0,.int .i64 1,.int .i64 2,.int .i64 3,.int .i64 4,.int .i64 4] 3 .shared],.int .i64 1,.int .i64 2] (.bool false)
theorem ahO:qG Go.Proofs.Tryz.prog Yj:=rV (p:=16) (by kernel_rfl)
def Yk:qu:=.pure 100 [.bT [.int .i64 5,.ax [.int .i64 0,.int .i64 1,.int .i64 2,.int .i64 3,.int .i64 4,.int .i64 4] 3 .shared],.int .i64 2,.int .i64 0] (.bool false)
theorem ahP:qG Go.Proofs.Tryz.prog Yk:=rV (p:=16) (by kernel_rfl)
def Yl:qu:=.pure 100 [.bT [.int .i64 5,.ax [.int .i64 0,.int .i64 1,.int .i64 2,.int .i64 3,.int .i64 4,.int .i64 4] 3 .shared],.int .i64 2,.int .i64 1] (.bool false)
theorem ahQ:qG Go.Proofs.Tryz.prog Yl:=rV (p:=16) (by kernel_rfl)
def Ym:qu:=.pure 100 [.bT [.int .i64 5,.ax [.int .i64 0,.int .i64 1,.int .i64 2,.int .i64 3,.int .i64 4,.int .i64 4] 3 .shared],.int .i64 2,.int .i64 2] (.bool true)
theorem ahR:qG Go.Proofs.Tryz.prog Ym:=rV (p:=16) (by kernel_rfl)
def Yn:qu:=.pure 100 [.bT [.int .i64 2,.ax [.int .i64 0,.int .i64 1,.int .i64 1,.int .i64 0] 2 .shared],.int .i64 0,.int .i64 0] (.bool true)
theorem ahS:qG Go.Proofs.Tryz.prog Yn:=rV (p:=16) (by kernel_rfl)
def Yo:qu:=.pure 100 [.bT [.int .i64 2,.ax [.int .i64 0,.int .i64 1,.int .i64 1,.int .i64 0] 2 .shared],.int .i64 0,.int .i64 1] (.bool true)
theorem ahT:qG Go.Proofs.Tryz.prog Yo:=rV (p:=16) (by kernel_rfl)
def Yp:qu:=.pure 100 [.bT [.int .i64 2,.ax [.int .i64 0,.int .i64 1,.int .i64 1,.int .i64 0] 2 .shared],.int .i64 1,.int .i64 0] (.bool true)
theorem ahU:qG Go.Proofs.Tryz.prog Yp:=rV (p:=16) (by kernel_rfl)
def Yq:qu:=.pure 100 [.bT [.int .i64 2,.ax [.int .i64 0,.int .i64 1,.int .i64 1,.int .i64 0] 2 .shared],.int .i64 1,.int .i64 1] (.bool true)
theorem ahV:qG Go.Proofs.Tryz.prog Yq:=rV (p:=16) (by kernel_rfl)
def Yw:List qu:=[XZ,X0,X1,X2,X3,X4,X5,X6,X7,X8,X9,X_,X',Ya,Yb,Yc,Ye,Yf,Yg,Yh,Yi,Yj,Yk,Yl,Ym,Yn,Yo,Yp,Yq]
theorem Hs:∀ e∈Yw,qG Go.Proofs.Tryz.prog e:=by
 simp only [Yw,List.forall_mem_cons];exact ⟨ahq,ahr,ahs,aht,ahu,ahv,ahw,ahx,ahy,ahz,ahA,ahB,ahC,ahD,ahE,ahF,ahJ,ahK,ahL,ahM,ahN,ahO,ahP,ahQ,ahR,ahS,ahT,ahU,ahV,by simp⟩
end Go.Proofs.YtfakoboiahbhaaaGreat.Ab


namespace Go.Proofs.YtfakoboiahbhaaaGreat.Ab
open Go
def bG:qu:=.pure 18 [.agg [.int .i64 4,.ax [.int .i64 0,.int .i64 1,.int .i64 1,.int .i64 2,.int .i64 2,.int .i64 0,.int .i64 2,.int .i64 3] 4 .shared],.ax [.int .i64 0,.int .i64 0,.int .i64 1,.int .i64 0,.int .i64 3,.int .i64 0] 3 .shared] (.tuple [.int .i64 0,.int .i64 3,.int .i64 0])
theorem aid:qG Go.Proofs.Tryz.prog bG:=r8 Hs (by kernel_rfl)
def bX:qu:=.pure 18 [.agg [.int .i64 4,.ax [.int .i64 0,.int .i64 1,.int .i64 1,.int .i64 2,.int .i64 2,.int .i64 0,.int .i64 2,.int .i64 3] 4 .shared],.ax [.int .i64 0,.int .i64 0,.int .i64 1,.int .i64 0,.int .i64 2,.int .i64 0,.int .i64 0,.int .i64 0] 4 .shared] (.tuple [.int .i64 0,.int .i64 0,.int .i64 11])
theorem aij:qG Go.Proofs.Tryz.prog bX:=r8 Hs (by kernel_rfl)
def rZ:qu:=.pure 18 [.agg [.int .i64 4,.ax [.int .i64 0,.int .i64 1,.int .i64 1,.int .i64 2,.int .i64 2,.int .i64 0,.int .i64 2,.int .i64 3] 4 .shared],.ax [.int .i64 0,.int .i64 0,.int .i64 2,.int .i64 0] 2 .shared] (.tuple [.int .i64 0,.int .i64 0,.int .i64 27])
theorem aik:qG Go.Proofs.Tryz.prog rZ:=r8 Hs (by kernel_rfl)
def JB:qu:=.pure 18 [.agg [.int .i64 4,.ax [.int .i64 0,.int .i64 1,.int .i64 1,.int .i64 2,.int .i64 2,.int .i64 0,.int .i64 2,.int .i64 3] 4 .shared],.ax [.int .i64 0,.int .i64 0,.int .i64 4,.int .i64 0] 2 .shared] (.tuple [.int .i64 0,.int .i64 0,.int .i64 3])
theorem ail:qG Go.Proofs.Tryz.prog JB:=r8 Hs (by kernel_rfl)
def Nv:qu:=.pure 18 [.agg [.int .i64 4,.ax [.int .i64 0,.int .i64 1,.int .i64 1,.int .i64 2,.int .i64 2,.int .i64 0,.int .i64 2,.int .i64 3] 4 .shared],.ax [] 0 .shared] (.tuple [.int .i64 0,.int .i64 0,.int .i64 6])
theorem aim:qG Go.Proofs.Tryz.prog Nv:=r8 Hs (by kernel_rfl)
def YN:qu:=.pure 25 [.agg [.int .i64 4,.ax [.int .i64 0,.int .i64 1,.int .i64 1,.int .i64 2,.int .i64 2,.int .i64 0,.int .i64 2,.int .i64 3] 4 .shared],.ax [.ax [.int .i64 0,.int .i64 0,.int .i64 1,.int .i64 0,.int .i64 3,.int .i64 0] 3 .shared,.ax [.int .i64 2,.int .i64 0] 1 .shared] 2 .shared] (.tuple [.int .i64 2,.int .i64 0])
theorem ain:qG Go.Proofs.Tryz.prog YN:=r8 Hs (by kernel_rfl)
def YO:qu:=.pure 25 [.agg [.int .i64 4,.ax [.int .i64 0,.int .i64 1,.int .i64 1,.int .i64 2,.int .i64 2,.int .i64 0,.int .i64 2,.int .i64 3] 4 .shared],.ax [.ax [.int .i64 0,.int .i64 0,.int .i64 1,.int .i64 0,.int .i64 3,.int .i64 0] 3 .shared] 1 .shared] (.tuple [.int .i64 0,.int .i64 15])
theorem aio:qG Go.Proofs.Tryz.prog YO:=r8 Hs (by kernel_rfl)
def YP:qu:=.pure 25 [.agg [.int .i64 4,.ax [.int .i64 0,.int .i64 1,.int .i64 1,.int .i64 2,.int .i64 2,.int .i64 0,.int .i64 2,.int .i64 3] 4 .shared],.ax [.ax [.int .i64 0,.int .i64 0,.int .i64 1,.int .i64 0,.int .i64 3,.int .i64 0] 3 .shared,.ax [.int .i64 2,.int .i64 0,.int .i64 0,.int .i64 0] 2 .shared] 2 .shared] (.tuple [.int .i64 0,.int .i64 11])
theorem aip:qG Go.Proofs.Tryz.prog YP:=r8 Hs (by kernel_rfl)
def YQ:qu:=.pure 22 [.agg [.int .i64 2,.ax [.int .i64 0,.int .i64 1,.int .i64 1,.int .i64 0] 2 .shared],.ax [.int .i64 0,.int .i64 0,.int .i64 1,.int .i64 0] 2 .shared] (.int .i64 0)
theorem aiq:qG Go.Proofs.Tryz.prog YQ:=r8 Hs (by kernel_rfl)
def Yz:qu:=.pure 22 [.agg [.int .i64 2,.ax [.int .i64 0,.int .i64 1,.int .i64 1,.int .i64 0] 2 .shared],.ax [.int .i64 0,.int .i64 0] 1 .shared] (.int .i64 15)
theorem ah4:qG Go.Proofs.Tryz.prog Yz:=r8 Hs (by kernel_rfl)
def YA:qu:=.pure 27 [.agg [.int .i64 4,.ax [.int .i64 0,.int .i64 1,.int .i64 1,.int .i64 2,.int .i64 2,.int .i64 0,.int .i64 2,.int .i64 3] 4 .shared]] (.tuple [.ax [.int .i64 2,.int .i64 3] 2 .full,.int .i64 0])
theorem ah5:qG Go.Proofs.Tryz.prog YA:=r8 Hs (by kernel_rfl)
def YB:qu:=.pure 29 [.agg [.int .i64 5,.ax [.int .i64 0,.int .i64 1,.int .i64 2,.int .i64 3,.int .i64 4,.int .i64 4] 3 .shared]] (.tuple [.ax [.ax [.int .i64 0] 1 .shared,.ax [.int .i64 1] 1 .shared,.ax [.int .i64 2] 1 .shared] 3 .shared,.int .i64 0])
theorem ah6:qG Go.Proofs.Tryz.prog YB:=r8 Hs (by kernel_rfl)
def YC:qu:=.pure 35 [.agg [.int .i64 5,.ax [.int .i64 0,.int .i64 1,.int .i64 2,.int .i64 3,.int .i64 4,.int .i64 4] 3 .shared]] (.tuple [.int .i64 3,.int .i64 0])
theorem ah7:qG Go.Proofs.Tryz.prog YC:=r8 Hs (by kernel_rfl)
def YD:qu:=.pure 41 [.agg [.int .i64 5,.ax [.int .i64 0,.int .i64 1,.int .i64 2,.int .i64 3,.int .i64 4,.int .i64 4] 3 .shared]] (.tuple [.ax [.ax [.int .i64 0,.int .i64 0] 1 .shared,.ax [.int .i64 1,.int .i64 0] 1 .shared,.ax [.int .i64 2,.int .i64 0] 1 .shared] 3 .shared,.int .i64 0])
theorem ah8:qG Go.Proofs.Tryz.prog YD:=r8 Hs (by kernel_rfl)
def YF:qu:=.pure 37 [.agg [.int .i64 5,.ax [.int .i64 0,.int .i64 1,.int .i64 2,.int .i64 3,.int .i64 4,.int .i64 4] 3 .shared]] (.tuple [.ax [] 0 .shared,.int .i64 27])
theorem ah_:qG Go.Proofs.Tryz.prog YF:=r8 Hs (by kernel_rfl)
def YG:qu:=.pure 42 [.agg [.int .i64 2,.ax [.int .i64 0,.int .i64 1,.int .i64 1,.int .i64 0] 2 .shared]] (.tuple [.ax [.int .i64 0,.int .i64 0,.int .i64 1,.int .i64 0] 2 .shared,.int .i64 0])
theorem aia:qG Go.Proofs.Tryz.prog YG:=r8 Hs (by kernel_rfl)
def YI:qu:=.pure 39 [.agg [.int .i64 5,.ax [.int .i64 0,.int .i64 1,.int .i64 2,.int .i64 3,.int .i64 4,.int .i64 4] 3 .shared]] (.tuple [.int .i64 3,.int .i64 0])
theorem aic:qG Go.Proofs.Tryz.prog YI:=r8 Hs (by kernel_rfl)
def YJ:qu:=.pure 31 [.agg [.int .i64 4,.ax [.int .i64 0,.int .i64 1,.int .i64 1,.int .i64 2,.int .i64 2,.int .i64 0,.int .i64 2,.int .i64 3] 4 .shared]] (.tuple [.ax [.int .i64 3] 1 .shared,.int .i64 0])
theorem aie:qG Go.Proofs.Tryz.prog YJ:=r8 Hs (by kernel_rfl)
def YK:qu:=.pure 45 [.agg [.int .i64 4,.ax [.int .i64 0,.int .i64 1,.int .i64 1,.int .i64 2,.int .i64 2,.int .i64 0,.int .i64 2,.int .i64 3] 4 .shared],.int .i64 0,.int .i64 3] (.tuple [.ax [.int .i64 2,.int .i64 1,.int .i64 3,.int .i64 0] 2 .shared,.int .i64 0])
theorem aif:qG Go.Proofs.Tryz.prog YK:=r8 Hs (by kernel_rfl)
def YL:qu:=.pure 45 [.agg [.int .i64 4,.ax [.int .i64 0,.int .i64 1,.int .i64 1,.int .i64 2,.int .i64 2,.int .i64 0,.int .i64 2,.int .i64 3] 4 .shared],.int .i64 1,.int .i64 1] (.tuple [.ax [] 0 .shared,.int .i64 2])
theorem aih:qG Go.Proofs.Tryz.prog YL:=r8 Hs (by kernel_rfl)
def YM:qu:=.pure 45 [.agg [.int .i64 5,.ax [.int .i64 0,.int .i64 1,.int .i64 2,.int .i64 3,.int .i64 4,.int .i64 4] 3 .shared],.int .i64 0,.int .i64 2] (.tuple [.ax [] 0 .shared,.int .i64 5])
theorem aii:qG Go.Proofs.Tryz.prog YM:=r8 Hs (by kernel_rfl)
end Go.Proofs.YtfakoboiahbhaaaGreat.Ab
