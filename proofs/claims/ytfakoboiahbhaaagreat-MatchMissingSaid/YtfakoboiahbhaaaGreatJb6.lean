
import Derived.Test.YtfakoboiahbhaaaGreatJb5
import Derived.KernelRfl
import Derived.Test.YtfakoboiahbhaaaGreatJb3
set_option linter.unusedSimpArgs false
set_option linter.unusedVariables false
set_option linter.unusedSectionVars false

open List renaming getElem?_eq_some_iff→sv,map_cons→sG
open Nat renaming blt_eq→tF,zero_le→sP
open Option renaming bind_eq_some_iff→sE
namespace Go.Proofs.YtfakoboiahbhaaaGreat.Ab
open Go
set_option maxRecDepth 20000
set_option maxHeartbeats 4000000
noncomputable def Rq:fW :=
 .loop (some (qb false [0,2,5,2,10])) (pZ [GC 9 [.sl 8,.sl 7] (.bin .lss)] (.seq (.cond (.sl 9) .skip (.exit 0)) (.seq (.block 1 (pZ [p1 10 8,pY 5 10] (pZ [p1 11 1,p1 12 0,p1 13 5,qZ 14 12 13 1,qo 15 14,GC 16 [.sl 11,.sl 15] (.call 6)] (.cond (.sl 16) (pZ [pY 17 5,pY 4 17] .ret) .skip)))) (qK [qU 18 8 1,pY 8 18]))))
noncomputable def abI:fW :=
 pZ [qd 4 0] (.seq (pZ [p1 6 0,qI 7 6,qd 8 0] (.block 0 Rq)) (pZ [qd 4 (-1)] .ret))
theorem agr:zE Tryz.prog R1 114=some (abI,19,[.tmp 4]):=by kernel_rfl
def My (s:qt) (f:(Int→Option Bool)) (qq:Unit→Option Int):Nat→Int→Option Int
 | 0,_=>none
 | m+1,s1 =>
   if (decide (s1<(s.length:Int)))=true then
    qg (0≤s1∧s1<(s.length:Int)) <|
    (f (ix s s1)).bind fun aT =>
    if aT=true then
     some s1
    else
     My s f qq m (w (s1+(1:Int)))
   else
    qq ()
def N0 (s:qt) (f:(Int→Option Bool)):Option Int :=
 My s f (fun _ =>
   some (-1:Int)) qc (0:Int)
theorem aks {s:qt} {f:(Int→Option Bool)} {qq:Unit→Option Int} {s1:Int} {rX:FuncId} {rh:List I} (r8:sk rh) (Iz:∀ (qV:Int) (r:Bool),f qV=some r→qB rX ((hW qV)::rh) (B r)) {v:Int} {Q:rf}   (jD:qR [.tmp 4] Q (fun v=>(hW v)) v) (r9:∀ (p7:List I),qq ()=some v→qQ 19 [] p7→Q (.exit 0) p7 []) {T:List I} (bX:e0 (qb false [0,2,5,2,10]) T=Hc 19 [(0,(qJ s .shared)),(1,(.func rX [] rh)),(7,(hW (s.length:Int))),(8,(hW s1))]) (h:My s f qq qc s1=some v) :
  dR Tryz.prog R1 114 0 none Rq T [] Q:=by
 unfold Rq;refine wp_loop bX ?_;refine .intro (fun m T H=>∃ (s1:Int),T=Hc 19 [(0,(qJ s .shared)),(1,(.func rX [] rh)),(7,(hW (s.length:Int))),(8,(hW s1))]∧H=[]∧My s f qq m s1=some v) qc ⟨s1,rfl,rfl,h⟩ ?_;clear h bX;rintro m T H ⟨s1,rfl,rfl,h⟩;cases m
 ·exact rj h
 rename_i m;rw [My.eq_2] at h;conv=>whnf
 refine bs h (fun gG h=>?_) fun gG h=>?_
 ·rw [gG];conv=>whnf
  refine qx h id fun gH h=>?_;rw [se hW s s1 gH];conv=>whnf
  obtain ⟨aT,qs,h⟩:=qm h;refine ⟨_,_,call6 (bs:=((hW (ix s s1))::rh)) (by simp only [sG,r8.ir,r8.cr];rfl) (by simp only [sG,r8.ir];exact (p2 rfl r8.M5)) (Iz _ _ qs) rfl,?_⟩;conv=>whnf
  cases aT
  ·(conv=>whnf);replace h:=Hl rfl h;exact ⟨m,Nat.lt_succ_self m,(w (s1+(1:Int))),rfl,rfl,h⟩
  ·(conv=>whnf);replace h:=Hm rfl h;exact qi h jD rfl rfl
 ·rw [gG];conv=>whnf
  exact r9  _ h ⟨rfl,rfl⟩
theorem Vo {s:qt} {f:(Int→Option Bool)} {rX:FuncId} {rh:List I} (r8:sk rh) (Iz:∀ (qV:Int) (r:Bool),f qV=some r→qB rX ((hW qV)::rh) (B r)) {v:Int} (h:N0 s f=some v):qB 114 [(.ax (s.map hW) s.length .shared),(.func rX [] rh)] (hW v):=by
 refine q5 et agr rfl rfl fun Q bp=>?_;have jD:qR [.tmp 4] Q (fun v=>(hW v)) v:=fun T H bI=>bp _ T H bI;unfold N0 at h;unfold abI;obtain ⟨II,q'⟩:∃ c,Rq=c:=⟨_,rfl⟩;rw [q'];conv=>whnf
 subst q';refine aks r8 Iz ?_ ?_ (by exact rfl) h
 ·exact fun T H bI=>jD T H bI
 ·intro  p7 h qe;obtain ⟨qG,rfl⟩:=qe.ex;conv=>whnf
  exact qi h jD rfl rfl

noncomputable def acg:fW :=
 pZ [GC 4 [.lT (.bool false)] .mP] (pZ [pY 5 0,pY 6 1,GC 7 [.lT (.func 114 [] []),.sl 5,.sl 6] (.call 6),qA 8 7 0 .geq,pY 4 8] .ret)
theorem agZ:zE Tryz.prog WK 92=some (acg,9,[.tmp 4]):=by kernel_rfl
def Ld (s:qt) (f:(Int→Option Bool)):Option Bool :=
 (N0 s f).bind fun aT =>
 some (decide ((0:Int)≤aT))
theorem Ri {s:qt} {f:(Int→Option Bool)} {rX:FuncId} {rh:List I} (r8:sk rh) (Iz:∀ (qV:Int) (r:Bool),f qV=some r→qB rX ((hW qV)::rh) (B r)) {v:Bool} (h:Ld s f=some v):qB 92 [(.ax (s.map hW) s.length .shared),(.func rX [] rh)] (B v):=by
 refine q5 et agZ rfl rfl fun Q bp=>?_;have jD:qR [.tmp 4] Q (fun v=>(B v)) v:=fun T H bI=>bp _ T H bI;unfold Ld at h;unfold acg;conv=>whnf
 obtain ⟨aT,gG,h⟩:=qm h;refine ⟨_,_,Ja (cs:=[(qJ s .shared),(.func rX [] rh)]) (bs:=[(qJ s .shared),(.func rX [] rh)]) (rA rfl (rA (r8.fn _ _) rY)) (by rfl) (by exact (p2 (r7 (fun _=>rfl) _ _ _) (p2 (r8.OV _) rfl))) (Vo r8 Iz gG) rfl,?_⟩;conv=>whnf
 exact qi h jD rfl rfl
end Go.Proofs.YtfakoboiahbhaaaGreat.Ab


namespace Go.Proofs.YtfakoboiahbhaaaGreat.Ab
open Go
section
variable {P:Program} {B N:Nat} {J:List Nat} {w:World} {U:Nat→Option aH} {S:Nat→Nat→Prop}
theorem ahG {k : Nat} {f : Func} {c : Code} (aP : P.funcs[k]? = some f) (ag : f.body = some c) (aN : f.name ≠ "runtime.NumGoroutine")
  {args:List I} {v:I} (aB:cj 8 v=true) {K:cA→a7→Prop}
  (ai:∀ (Q:Exit→Act→World→Prop) (B N:Nat) (J:List Nat) (w:World) (U:Nat→Option aH) (S:Nat→Nat→Prop) (a:Act),(∀ l a w,¬ Q (.goto l) a w)→cw B N U J S w ⟨args++List.replicate (f.ntmps-args.length) .junk,[]⟩ a →
   (∀ e aF,K e aF→∀ aM w',Step B N U J S w aF aM w'→Q (toExit e) aM w')→c.wpIn Fence.wide 0 P Q a w)
  (fI:∀ e s,K e s→(e=.normal∨e=.ret)∧∃ vs r,fo P s.H s.T f.results.toList=some vs∧bJ s.H 0 s.H.length 0 8 (hl vs)=some r∧(r=v∨r.settle=v)):lE P k args v:=by
 refine ⟨⟨bc.refl _ _,⟨f,aP,by simp [ag],aN⟩,fun B U J S w xs ah _ ae=>?_⟩,aB⟩;refine callsIn_of_wp_marks aP ag trivial ?_;have aL:=x6 ah ae f.ntmps;have dy:=(oG ah).1;refine ai _ B w.heap.size J w (hR U) S _ (fun l a w aO=>aO.elim) aL fun e s av aM w' ai=>?_;obtain ⟨he,vs,r,aj,C0,eG⟩:=fI e s av;obtain ⟨b5,c2,a8,aJ,aQ,cg⟩:=ai;have iM:LeavesInM Fence.wide 0 P f aM.tmps (fV B U J S w [] v) aM.defers .returning w':=by
  refine nY (U:=b5) (S:=a8) (J:=c2) (B:=B) (H:=s.H) (lC:=U) (S0:=S) (w0:=w) aM.defers w' cg.M.2.1 cg.M.2.2 (dy.trans aQ) cg.H fun bY dB dq mD mE=>?_
  have bX:a9 .slot b5 c2 a8 bY s.T aM.tmps.toList:=⟨cg.T.len,fun i u v hu ae=>(cg.T.rel i u v hu ae).mono (Ext.refl _) (fun b o h=>⟨h,dq b o h⟩),fun i u v hu ae =>
   (cg.T.own i u v hu ae).mono (Ext.refl _) (fun b o h=>⟨h,dq b o h⟩) fun b ag=>⟨ag,dB b _ ag,fun _ h=>h⟩⟩
  obtain ⟨x,q1,aX⟩:=xJ mE bX aj;have kJ:=xA ah (fun id aE=>by simp at aE) C0 (a1.after aJ mD aX);refine ⟨x,q1,?_⟩;rcases eG with rfl | eG
  ·exact kJ
  ·cases r with
   | ax cells len eo =>
     cases eo with
     | uniq z=>simp only [I.settle] at eG;subst eG;exact kJ.settle
     | _=>simp only [I.settle] at eG;subst eG;exact kJ
   | _=>simp only [I.settle] at eG;subst eG;exact kJ
 rcases he with rfl | rfl
 ·exact iM
 ·exact iM
end
theorem Ql (P:Program):dc P (fun _ _ _ _=>none):=⟨fun h=>by simp at h,fun h=>by simp at h⟩
noncomputable def Qo (f:Func):Option (cA×a7)→Option I
 | some (.normal,s) | some (.ret,s)=>(fo Go.Proofs.Tryz.prog s.H s.T f.results.toList).bind fun vs=>bJ s.H 0 s.H.length 0 8 (hl vs)
 | _=>none
theorem YD {f:Func} {x:Option (cA×a7)} {v:I} (h:Qo f x=some v):∃ e s,x=some (e,s)∧(e=.normal∨e=.ret)∧∃ vs,fo Go.Proofs.Tryz.prog s.H s.T f.results.toList=some vs∧bJ s.H 0 s.H.length 0 8 (hl vs)=some v:=by
 unfold Qo at h;split at h
 ·simp only [sE] at h;obtain ⟨vs,ad,af⟩:=h;exact ⟨_,_,rfl,.inl rfl,vs,ad,af⟩
 ·simp only [sE] at h;obtain ⟨vs,ad,af⟩:=h;exact ⟨_,_,rfl,.inr rfl,vs,ad,af⟩
 ·cases h
noncomputable def Zh (k p:Nat) (args:List I):Option I:=match Go.Proofs.Tryz.prog.funcs[k]? with
 | some f=>match f.body with
   | some (.seq hM (.seq (.region id ops true) rest)) =>
     match codeOk (jx k) hM, codeOk (jx k) rest, f.name == "runtime.NumGoroutine", Nat.blt (p + 1) ops.size, nt ops ((jx k).ops.getD id []) p (p + 1) with
     | true,true,false,true,true =>
       match exec Go.Proofs.Tryz.prog (jx k) (fun _ _ _ _=>none) k 0 9 none hM 0 ⟨args++List.replicate (f.ntmps-args.length) .junk,[]⟩ with
       | some (.normal,U6) =>
         match cv Go.Proofs.Tryz.prog (fun _ _ _ _=>none) 0 ops ((jx k).ops.getD id []) (List.range ops.size) U6,cv Go.Proofs.Tryz.prog (fun _ _ _ _=>none) 0 ops ((jx k).ops.getD id []) (fp ops.size p (p+1)) U6 with
         | some s1,some s2 =>
           match Qo f (exec Go.Proofs.Tryz.prog (jx k) (fun _ _ _ _=>none) k 0 9 none rest 0 s1),Qo f (exec Go.Proofs.Tryz.prog (jx k) (fun _ _ _ _=>none) k 0 9 none rest 0 s2) with
           | some u,some v=>match I_ 20 u v,cj 8 u with
             | true,true=>some u
             | _,_=>none
           | _,_=>none
         | _,_=>none
       | _=>none
     | _,_,_,_,_=>none
   | _=>none
 | none=>none
theorem sn {k p:Nat} {args:List I} {v:I} (h:Zh k p args=some v):lE Go.Proofs.Tryz.prog k args v:=by
 unfold Zh at h;split at h
 ·rename_i f aP;split at h
  ·rename_i hM id ops rest ag;split at h
   ·rename_i a' bb bt b9 dY;split at h
    ·rename_i U6 afR;split at h
     ·rename_i s1 s2 dz Dq;split at h
      ·rename_i u bn jT pQ;split at h
       ·rename_i heq aB;have e:=M7 20 _ _ heq;subst e;cases h;obtain ⟨e1,t1,xd,OJ,yc,d_,CV⟩:=YD jT;obtain ⟨ca,t2,hb,Ni,eZ,da,pw⟩:=YD pQ;refine ahG aP ag (by simpa using bt) aB (K:=fun e s=>(e=e1∧s=t1)∨(e=ca∧s=t2)) (fun Q B N J w U S a aO aL bp=>?_) (fun e s av=>?_)
        ·have GZ:=et;refine wpIn_seq (nx (Ql _) GZ hM 0 _ _ _ afR a' Fence.wide _ B N J w U S a (.inl ⟨rfl,rfl⟩) (fun l a w=>aO l a w) aL fun aM w' ai=>?_);obtain ⟨b5,c2,a8,aJ,aQ,cg⟩:=ai;refine wpIn_seq (ER (jn.lZ (J:=c2) (rl:=none) (.inl ⟨rfl,rfl⟩)) GZ (Ql _) (by simpa [tF] using b9) dY dz Dq cg fun aF g9 aI bY dO=>?_);obtain ⟨br,ck,bL,cp,mF,Cx⟩:=dO;rcases g9 with rfl | rfl
         ·exact nx (Ql _) GZ rest 0 _ _ _ xd bb Fence.wide Q B N ck bY br bL aI (.inl ⟨rfl,rfl⟩) aO Cx fun aR Hh DA=>bp _ _ (.inl ⟨rfl,rfl⟩) aR Hh ((DA.trans cp mF).trans aJ aQ)
         ·exact nx (Ql _) GZ rest 0 _ _ _ hb bb Fence.wide Q B N ck bY br bL aI (.inl ⟨rfl,rfl⟩) aO Cx fun aR Hh DA=>bp _ _ (.inr ⟨rfl,rfl⟩) aR Hh ((DA.trans cp mF).trans aJ aQ)
        ·rcases av with ⟨rfl,rfl⟩ | ⟨rfl,rfl⟩
         ·exact ⟨OJ,yc,_,d_,CV,.inl rfl⟩
         ·exact ⟨Ni,eZ,_,da,pw,.inl rfl⟩
       ·cases h
      ·cases h
     ·cases h
    ·cases h
   ·cases h
  ·cases h
 ·cases h
end Go.Proofs.YtfakoboiahbhaaaGreat.Ab


namespace Go.Proofs.YtfakoboiahbhaaaGreat.Ab
open Go
section
variable {P:Program}
theorem Tw {lo:Nat} {ops:Array Oper} {an:List b3}:∀ {O:List Nat} {rl:List du} {acc:dk} {T:List I} {H:List ar} {K:List I→List ar→Prop},fm P ops an O=some rl→hx P acc→gQ P lo true rl acc T H K →
  ∃ dD ba H',hx P dD∧(∀ p∈acc,p∈dD)∧(∀ C,hT C dD→cv P C lo ops an O ⟨T,H⟩=some ⟨ba,H'⟩)∧K ba H'
 | [],rl,acc,T,H,K,ao,cc,h=>by simp only [fm,Option.some.injEq] at ao;subst ao;exact ⟨acc,T,H,cc,fun _ h=>h,fun _ _=>rfl,h⟩
 | i::r,rl,acc,T,H,K,ao,cc,h=>by
   simp only [fm] at ao;split at ao
   ·rename_i o hi;split at ao
    ·rename_i cS l' ad af;simp only [Option.some.injEq] at ao;subst ao;obtain ⟨yk,fX,H1,aC,aI,aR,bl⟩:=ye ad cc h;obtain ⟨oR,dU,a4,bq,cI,eE,jy⟩:=Tw af aC bl;refine ⟨oR,dU,a4,bq,fun p aB=>cI p (aI p aB),fun C cf=>?_,jy⟩;simp only [cv,hi];rw [aR C (fun p aB=>cf p (cI p aB)),Option.bind_some];exact eE C cf
    ·cases ao
   ·cases ao
theorem ahH {k : Nat} {f : Func} {c : Code} (aP : P.funcs[k]? = some f) (ag : f.body = some c) (aN : f.name ≠ "runtime.NumGoroutine")
  {args:List I} {v:I} (aB:cj 8 v=true) {K:cA→a7→Prop}
  (ai:∀ (Q:Exit→Act→World→Prop) (B N:Nat) (J:List Nat) (w:World) (U:Nat→Option aH) (S:Nat→Nat→Prop) (a:Act),(∀ l a w,¬ Q (.goto l) a w)→cw B N U J S w ⟨args++List.replicate (f.ntmps-args.length) .junk,[]⟩ a →
   (∀ e aF,K e aF→∀ aM w',Step B N U J S w aF aM w'→Q (toExit e) aM w')→c.wpIn Fence.wide 0 P Q a w)
  (fI:∀ e s,K e s→(e=.normal∨e=.ret)∧∃ vs r,fo P s.H s.T f.results.toList=some vs∧bJ s.H 0 s.H.length 0 8 (hl vs)=some r∧r.settle.view.cr=v):lE P k args v:=by
 refine ⟨⟨bc.refl _ _,⟨f,aP,by simp [ag],aN⟩,fun B U J S w xs ah _ ae=>?_⟩,aB⟩;refine callsIn_of_wp_marks aP ag trivial ?_;have aL:=x6 ah ae f.ntmps;have dy:=(oG ah).1;refine ai _ B w.heap.size J w (hR U) S _ (fun l a w aO=>aO.elim) aL fun e s av aM w' ai=>?_;obtain ⟨he,vs,r,aj,C0,eG⟩:=fI e s av;obtain ⟨b5,c2,a8,aJ,aQ,cg⟩:=ai;have iM:LeavesInM Fence.wide 0 P f aM.tmps (fV B U J S w [] v) aM.defers .returning w':=by
  refine nY (U:=b5) (S:=a8) (J:=c2) (B:=B) (H:=s.H) (lC:=U) (S0:=S) (w0:=w) aM.defers w' cg.M.2.1 cg.M.2.2 (dy.trans aQ) cg.H fun bY dB dq mD mE=>?_
  have bX:a9 .slot b5 c2 a8 bY s.T aM.tmps.toList:=⟨cg.T.len,fun i u v hu ae=>(cg.T.rel i u v hu ae).mono (Ext.refl _) (fun b o h=>⟨h,dq b o h⟩),fun i u v hu ae =>
   (cg.T.own i u v hu ae).mono (Ext.refl _) (fun b o h=>⟨h,dq b o h⟩) fun b ag=>⟨ag,dB b _ ag,fun _ h=>h⟩⟩
  obtain ⟨x,q1,aX⟩:=xJ mE bX aj;have kJ:=xA ah (fun id aE=>by simp at aE) C0 (a1.after aJ mD aX);refine ⟨x,q1,?_⟩;rw [←eG];exact kJ.aaD
 rcases he with rfl | rfl
 ·exact iM
 ·exact iM
noncomputable def Tx (P:Program) (A:dd) (k p:Nat):Option (fW×List du×List du×fW×Nat×List jr):=match P.funcs[k]? with
 | some f=>match f.body with
   | some (.seq hM (.seq (.region id ops true) rest)) =>
     match codeOk A hM, codeOk A rest, f.name == "runtime.NumGoroutine", Nat.blt (p + 1) ops.size, nt ops (A.ops.getD id []) p (p + 1) with
     | true,true,false,true,true =>
       match ej P A hM 0,fm P ops (A.ops.getD id []) (List.range ops.size),fm P ops (A.ops.getD id []) (fp ops.size p (p+1)),ej P A rest 0,ka P f.results.toList with
       | some a,some b,some c,some d,some rs=>some (a,b,c,d,f.ntmps,rs)
       | _,_,_,_,_=>none
     | _,_,_,_,_=>none
   | _=>none
 | none=>none
theorem aeF (et:P.follows .mixedOrders=true) {k p:Nat} {A:dd} {oe rd:fW} {og rc:List du} {n:Nat} {rs:List jr} (ao:Tx P A k p=some (oe,og,rc,rd,n,rs)) {args T:List I} (bX:args++List.replicate (n-args.length) .junk=T) {v:I} (aB:cj 8 v=true)
  (h:∀ Q:cA→List I→List ar→Prop,(∀ e T H,I9 rs v e T H→Q e T H)→dR P A k 0 none oe T [] fun e T H=>e=.normal∧gQ P 0 true og [] T H (fun T H=>dR P A k 0 none rd T H Q)∧∀ acc,gQ P 0 true rc acc T H (fun T H=>dR P A k 0 none rd T H Q)):lE P k args v:=by
 unfold Tx at ao;split at ao
 ·rename_i f aP;split at ao
  ·rename_i hM id ops rest ag;split at ao
   ·rename_i a' bb bt b9 dY;split at ao
    ·rename_i a b c d Zc dL kV Nq X8 af5;simp only [Option.some.injEq,Prod.mk.injEq] at ao;obtain ⟨rfl,rfl,rfl,rfl,rfl,rfl⟩:=ao;subst bX;have h:=h (fun e T H=>I9 Zc v e T H) fun _ _ _ h=>h;refine ahH aP ag (by simpa using bt) aB (K:=fun e s=>I9 Zc v e s.T s.H) (fun Q B N J w U S a aO aL bp=>?_) (fun e s ⟨cb,vs,Cr,r,b6,er⟩=>⟨cb,vs,r,by rw [xD _ _ af5,Cr],b6,er⟩);refine wpIn_seq (By et hM 0 _ _ (DV dL h) a' Fence.wide _ B N J w U S a (.inl ⟨rfl,rfl⟩) (fun l a w=>aO l a w) aL fun e aF av aM w' ai=>?_);obtain ⟨rfl,ad,af⟩:=av;obtain ⟨b5,c2,a8,aJ,aQ,cg⟩:=ai;obtain ⟨yk,fX,H1,aC,_,aR,bl⟩:=Tw kV ⟨fun p aB=>by simp at aB,fun p aB=>by simp at aB⟩ ad;obtain ⟨oR,dU,a4,bq,cI,eE,jy⟩:=Tw Nq aC (af yk);obtain ⟨C,bw,cf⟩:=oS bq;refine wpIn_seq (ER (jn.lZ (J:=c2) (rl:=none) (.inl ⟨rfl,rfl⟩)) et bw (by simpa [tF] using b9) dY (aR C fun p aB=>cf p (cI p aB)) (eE C cf) cg fun aF g9 aI bY dO=>?_);obtain ⟨br,ck,bL,cp,mF,Cx⟩:=dO;rcases g9 with rfl | rfl
     ·exact By et rest 0 _ _ (DV X8 bl) bb Fence.wide Q B N ck bY br bL aI (.inl ⟨rfl,rfl⟩) aO Cx fun e s av aR Hh DA=>bp e s av aR Hh ((DA.trans cp mF).trans aJ aQ)
     ·exact By et rest 0 _ _ (DV X8 jy) bb Fence.wide Q B N ck bY br bL aI (.inl ⟨rfl,rfl⟩) aO Cx fun e s av aR Hh DA=>bp e s av aR Hh ((DA.trans cp mF).trans aJ aQ)
    ·cases ao
   ·cases ao
  ·cases ao
 ·cases ao
end
end Go.Proofs.YtfakoboiahbhaaaGreat.Ab


namespace Go.Proofs.YtfakoboiahbhaaaGreat.Ab
open Go
set_option maxRecDepth 20000
set_option maxHeartbeats 4000000
noncomputable def abx:fW:=.oj false [GC 6 [.lT (.bool false)] .mP]
noncomputable def aby:List du:=[GC 9 [.sl 0] .mP,GC 10 [.Bt 9] .zY,GC 11 [.Bt 10] (.yH 0),GC 12 [.Bt 11] (.yH 1),GC 13 [.Bt 12] (.zy .one),GC 14 [.jh 1] .mP,GC 15 [.Bt 13,.Bt 14] (.kR 2),GC 16 [.Bt 15] (.zy (.str 2)),GC 17 [.sl 0] .mP,GC 18 [.Bt 17] .zY,GC 19 [.Bt 18] (.yH 0),GC 20 [.Bt 19] (.yH 1),GC 21 [.Bt 20] (.zz .one),GC 22 [.jh 2] .mP,GC 23 [.Bt 21,.Bt 22] (.kR 2),GC 24 [.Bt 23] (.zz (.str 2)),GC 7 [] (.alloc [.int .i64 0,.int .i64 0]),GC 8 [] (.alloc [.int .i64 0,.int .i64 0]),⟨none,[.sl 7,.jh 16],none,none,.st 2⟩,⟨none,[.sl 8,.jh 24],none,none,.st 2⟩]
noncomputable def abz:List du:=[GC 9 [.sl 0] .mP,GC 10 [.Bt 9] .zY,GC 11 [.Bt 10] (.yH 0),GC 12 [.Bt 11] (.yH 1),GC 13 [.Bt 12] (.zy .one),GC 14 [.jh 1] .mP,GC 15 [.Bt 13,.Bt 14] (.kR 2),GC 16 [.Bt 15] (.zy (.str 2)),GC 17 [.sl 0] .mP,GC 18 [.Bt 17] .zY,GC 19 [.Bt 18] (.yH 0),GC 20 [.Bt 19] (.yH 1),GC 21 [.Bt 20] (.zz .one),GC 22 [.jh 2] .mP,GC 23 [.Bt 21,.Bt 22] (.kR 2),GC 24 [.Bt 23] (.zz (.str 2)),GC 8 [] (.alloc [.int .i64 0,.int .i64 0]),GC 7 [] (.alloc [.int .i64 0,.int .i64 0]),⟨none,[.sl 7,.jh 16],none,none,.st 2⟩,⟨none,[.sl 8,.jh 24],none,none,.st 2⟩]
noncomputable def alM:fW:=.seq (.oj false [GC 25 [.sl 7] (.yH 0),GC 26 [.Bt 25] (.zy .one),GC 27 [.sl 8] (.yH 0),GC 28 [.Bt 27] (.zy .one),GC 29 [.Bt 26,.Bt 28] (.bin .eql),GC 30 [.jh 29] .mP,⟨some 31,[.sl 7],some (30,false),none,.yH 0⟩,⟨some 32,[.Bt 31],some (30,false),none,.zy .one⟩,⟨some 33,[.sl 8],some (30,false),none,.yH 1⟩,⟨some 34,[.Bt 33],some (30,false),none,.zy .one⟩,⟨some 35,[.Bt 32,.Bt 34],some (30,false),none,.bin .eql⟩,GC 36 [.Bt 30,.lT (.bool true),.Bt 35] .pick,GC 37 [.jh 36] .mP,⟨some 38,[.sl 7],some (37,false),none,.yH 1⟩,⟨some 39,[.Bt 38],some (37,false),none,.zy .one⟩,⟨some 40,[.sl 8],some (37,false),none,.yH 0⟩,⟨some 41,[.Bt 40],some (37,false),none,.zy .one⟩,⟨some 42,[.Bt 39,.Bt 41],some (37,false),none,.bin .eql⟩,GC 43 [.Bt 37,.lT (.bool true),.Bt 42] .pick,GC 44 [.jh 43] .mP,⟨some 45,[.Bt 7],some (44,false),none,.yH 1⟩,⟨some 46,[.Bt 45],some (44,false),none,.zy .one⟩,⟨some 47,[.Bt 8],some (44,false),none,.yH 1⟩,⟨some 48,[.Bt 47],some (44,false),none,.zy .one⟩,⟨some 49,[.Bt 46,.Bt 48],some (44,false),none,.bin .eql⟩,GC 50 [.Bt 44,.lT (.bool true),.Bt 49] .pick,GC 6 [.jh 50] .mP]) .ret
theorem agi:Tx Tryz.prog V5 100 16=some (abx,aby,abz,alM,51,[.tmp 6]):=by kernel_rfl
def J3 (a b:Int×Int):Bool:=decide (a.1=b.1) || decide (a.1=b.2) || decide (a.2=b.1) || decide (a.2=b.2)
def Vi (t:p9) (i k:Int):Option Bool :=
 qg (0≤i∧i<(t.2.length:Int)) <|
 qg (0≤k∧k<(t.2.length:Int)) <|
 some (J3 (ix t.2 i) (ix t.2 k))
theorem akg {t:p9} {i k:Int} {v:Bool} (h:Vi t i k=some v):qB 100 [.bU [hW t.1,.ax (t.2.flatMap p0) t.2.length .shared],hW i,hW k] (B v):=by
 obtain ⟨gG,h⟩:=qC h;obtain ⟨gH,h⟩:=qC h;obtain rfl:=Option.some.inj h;refine aeF et agi rfl rfl fun Q bp=>?_;have jD:∀ T H,I9 [.tmp 6] (B (J3 (ix t.2 i) (ix t.2 k))) .ret T H→Q .ret T H:=fun T H bI=>bp _ T H bI;unfold abx;conv=>whnf
 refine ⟨rfl,?_,fun acc=>?_⟩
 ·unfold aby;conv=>whnf
  refine ⟨gG,?_⟩;rw [qX p0 2 qv t.2 i gG];conv=>whnf
  refine ⟨gH,?_⟩;rw [qX p0 2 qv t.2 k gH];conv=>whnf
  rcases Jr (decide ((ix t.2 i).1=(ix t.2 k).1)) with f' | f'
  ·rw [f'];(conv=>whnf);exact jD _ _ ⟨.inr rfl,_,rfl,_,o' rfl,(by unfold J3;rw [f'];rfl)⟩
  ·rw [f'];(conv=>whnf);rcases Jr (decide ((ix t.2 i).1=(ix t.2 k).2)) with e1 | e1
   ·rw [e1];(conv=>whnf);exact jD _ _ ⟨.inr rfl,_,rfl,_,o' rfl,(by unfold J3;rw [f',e1];rfl)⟩
   ·rw [e1];(conv=>whnf);rcases Jr (decide ((ix t.2 i).2=(ix t.2 k).1)) with ca | ca
    ·rw [ca];(conv=>whnf);exact jD _ _ ⟨.inr rfl,_,rfl,_,o' rfl,(by unfold J3;rw [f',e1,ca];rfl)⟩
    ·rw [ca];(conv=>whnf);exact jD _ _ ⟨.inr rfl,_,rfl,_,o' rfl,(by unfold J3;rw [f',e1,ca];rfl)⟩
 ·unfold abz;conv=>whnf
  refine ⟨gG,?_⟩;rw [qX p0 2 qv t.2 i gG];conv=>whnf
  refine ⟨gH,?_⟩;rw [qX p0 2 qv t.2 k gH];conv=>whnf
  rcases Jr (decide ((ix t.2 i).1=(ix t.2 k).1)) with f' | f'
  ·rw [f'];(conv=>whnf);exact jD _ _ ⟨.inr rfl,_,rfl,_,o' rfl,(by unfold J3;rw [f'];rfl)⟩
  ·rw [f'];(conv=>whnf);rcases Jr (decide ((ix t.2 i).1=(ix t.2 k).2)) with e1 | e1
   ·rw [e1];(conv=>whnf);exact jD _ _ ⟨.inr rfl,_,rfl,_,o' rfl,(by unfold J3;rw [f',e1];rfl)⟩
   ·rw [e1];(conv=>whnf);rcases Jr (decide ((ix t.2 i).2=(ix t.2 k).1)) with ca | ca
    ·rw [ca];(conv=>whnf);exact jD _ _ ⟨.inr rfl,_,rfl,_,o' rfl,(by unfold J3;rw [f',e1,ca];rfl)⟩
    ·rw [ca];(conv=>whnf);exact jD _ _ ⟨.inr rfl,_,rfl,_,o' rfl,(by unfold J3;rw [f',e1,ca];rfl)⟩

noncomputable def acm:fW :=
 pZ [GC 4 [.lT (.bool false)] .mP] (pZ [qo 5 1,qo 6 2,pY 7 0,GC 8 [.lT (.func 100 [] []),.sl 5,.sl 6,.sl 7] (.call 3),pY 4 8] .ret)
theorem ag4:zE Tryz.prog WO 99=some (acm,9,[.tmp 4]):=by kernel_rfl
def Rl (k:Int) (c0:qn) (a':Int):Option Bool :=
 (Vi c0 a' k).bind fun aT =>
 some aT
theorem alH {k:Int} {c0:qn} {a':Int} {v:Bool} (h:Rl k c0 a'=some v):qB 99 [(hW k),(.bU [(.bU [(hW c0.1),(.ax (c0.2.flatMap p0) c0.2.length .shared)])]),(.bU [(hW a')])] (B v):=by
 refine q5 et ag4 rfl rfl fun Q bp=>?_;have jD:qR [.tmp 4] Q (fun v=>(B v)) v:=fun T H bI=>bp _ T H bI;unfold Rl at h;unfold acm;conv=>whnf
 obtain ⟨aT,gG,h⟩:=qm h;refine ⟨qw.pl,_,akg gG,?_⟩;conv=>whnf
 exact qi h jD rfl rfl

noncomputable def ack:fW :=
 pZ [GC 4 [.lT (.bool false)] .mP] (pZ [pY 5 0,GC 6 [.Bt 1,.Bt 2] (.zS 99 0 2),GC 7 [.lT (.func 92 [] []),.sl 5,.sl 6] (.call 6),pY 4 7] .ret)
theorem ag3:zE Tryz.prog WN 98=some (ack,8,[.tmp 4]):=by kernel_rfl
def MU (part:qt) (c0:qn) (a':Int):Option Bool :=
 (Ld part (fun qV=>Rl qV c0 a')).bind fun aT =>
 some aT
theorem abv {part:qt} {c0:qn} {a':Int} {v:Bool} (h:MU part c0 a'=some v):qB 98 [(.ax (part.map hW) part.length .shared),(.bU [(.bU [(hW c0.1),(.ax (c0.2.flatMap p0) c0.2.length .shared)])]),(.bU [(hW a')])] (B v):=by
 refine q5 et ag3 rfl rfl fun Q bp=>?_;have jD:qR [.tmp 4] Q (fun v=>(B v)) v:=fun T H bI=>bp _ T H bI;unfold MU at h;unfold ack;conv=>whnf
 obtain ⟨aT,gG,h⟩:=qm h;refine ⟨_,_,Ja (cs:=[(qJ part .shared),(.func 99 [] [(.bU [(.bU [(hW c0.1),(p4 c0.2 .shared)])]),(.bU [(hW a')])])]) (bs:=[(qJ part .shared),(.func 99 [] [(.bU [(.bU [(hW c0.1),(p4 c0.2 .shared)])]),(.bU [(hW a')])])]) (rA rfl (rA (KQ rY (rA rfl (rA rfl rY))) rY)) (by rfl) (by exact (p2 (r7 (fun _=>rfl) _ _ _) (p2 (Kg rfl (p2 (re (p2 (re (p2 rfl (p2 (q4 (fun _=>(p2 rfl (p2 rfl rfl))) _ _ _) rfl))) rfl)) (p2 (re (p2 rfl rfl)) rfl))) rfl))) (Ri ⟨(p2 (re (p2 (re (p2 rfl (p2 (q4 (fun _=>(p2 rfl (p2 rfl rfl))) _ _ _) rfl))) rfl)) (p2 (re (p2 rfl rfl)) rfl)),by simp⟩ (fun _ _ aZ=>alH aZ) gG) rfl,?_⟩;conv=>whnf
 exact qi h jD rfl rfl

abbrev Hy (tab:p9):I:=.bU [hW tab.1,.ax (tab.2.flatMap p0) tab.2.length .shared]
abbrev Jm (tab:p9):ar:=.cells [Hy tab]
def P1 (tab:p9) (s:Int) (own r:List Int):Option (List Int):=(MU r tab s).bind fun b=>if b=true then qg ((own.length+r.length)*8≤140737488355328) (some (own++r)) else some own
def OU (tab:p9) (out:List (List Int)) (s:Int):Option (List (List Int)) :=
 (IZ (P1 tab s) out [s]).bind fun own=>qg (own.length≤12∧own.length≠0∧out.length≤1000) ((L8 (fun r=>MU r tab s) out).bind fun rest=>some (rest++[Hq own]))
def LV (tab:p9) (qp:List Int):Option (List (List Int)) :=
 qg (qp.length≤1000) ((IZ (OU tab) qp []).bind fun out=>qg (out.length≤12∧out.all NL=true) (some (Jl out)))
theorem W2 {H:List ar} {tab:p9} {c:Nat} {s:Int} (aV:H[0]?=some (Jm tab)) (al:H[c]?=some (.cells [hW s])):[I.ptr 0 0,.ptr c 0].map (ir H)=[.bU [Hy tab],.bU [hW s]] :=
 rA (Jk aV rfl) (rA (Jk al rfl) rY)
theorem W1 (tab:p9) (s:Int):[I.bU [Hy tab],.bU [hW s]].all (cj 8)=true :=
 p2 (re (p2 (re (p2 rfl (p2 (q4 (fun _=>(p2 rfl (p2 rfl rfl))) _ _ _) rfl))) rfl)) (p2 rfl rfl)
theorem aeZ {tab:p9} {s:Int} {out:List (List Int)} {own:List Int} {x c i n:Nat} {sl:I} {H1:List ar} (bF:IZ (P1 tab s) out [s]=some own) (hlen:out.length≤1000) (HN:H1[x]?=some (.grow (out.map oN) (x+1) 1)) (aV:H1[0]?=some (Jm tab)) (al:H1[c]?=some (.cells [hW s]))
  {Q:cA→List I→List ar→Prop} (av:Q (.exit 2) (Hc 46 [(2,.ptr 0 0),(5,.cl x (x+1) out.length 1),(8,.func 98 [] [.ptr 0 0,.ptr c 0]),(9,.ax (own.map hW) own.length (.uniq 1)),(12,sl),(13,hW n),(14,hW i),(21,.ref x 0 out.length none 1),(22,hW out.length),(23,hW out.length),(24,B (decide ((out.length:Int)<(out.length:Int))))]) H1)
  {T:List I} (bX:e0 [false,false,true,false,false,true,false,false,true,true,false,false,true,true,true,false,false,false,false,false,false,true,true,true,false,false,false,false,false,false,false,false,false,false,false,false,false,false,false,false,false,false,false,false,false,false] T=Hc 46 [(2,.ptr 0 0),(5,.cl x (x+1) out.length 1),(8,.func 98 [] [.ptr 0 0,.ptr c 0]),(9,.ax [hW s] 1 (.uniq 1)),(12,sl),(13,hW n),(14,hW i),(21,.ref x 0 out.length none 1),(22,hW out.length),(23,hW (0:Nat))]) :
  dR Tryz.prog M6 79 0 none NJ T H1 Q:=by
 unfold NJ;obtain ⟨bb,b6⟩:∃ c,QC=c:=⟨_,rfl⟩;rw [b6];refine wp_loop bX ?_;obtain ⟨F,RO,Fn,RQ⟩:=Sw bF;refine .intro (fun m T H=>∃ k:Nat,k≤out.length∧m=out.length-k∧T=Hc 46 [(2,.ptr 0 0),(5,.cl x (x+1) out.length 1),(8,.func 98 [] [.ptr 0 0,.ptr c 0]),(9,.ax ((F k).map hW) (F k).length (.uniq 1)),(12,sl),(13,hW n),(14,hW i),(21,.ref x 0 out.length none 1),(22,hW out.length),(23,hW k)]∧H=H1) out.length ⟨0,by omega,by omega,by rw [RO];rfl,rfl⟩ ?_;clear bX;rintro m T H ⟨k,amj,rfl,rfl,rfl⟩;conv=>whnf
 refine Ip (fun aS=>?_) (fun aS=>?_)
 ·have aS:k<out.length:=by omega
  conv=>whnf
  subst b6;unfold QC;obtain ⟨a',cb⟩:∃ c,UG=c:=⟨_,rfl⟩;rw [cb];refine I5 fun nc Hv=>?_;conv=>whnf
  refine ⟨by omega,?_⟩;conv=>whnf
  refine Es HN ?_;conv=>whnf
  refine Es (U4 out rfl aS) ?_;conv=>whnf
  obtain ⟨b,ag,ai⟩:=qm (RQ k aS);refine ⟨_,_,Ja (cs:=[oN out[k],.bU [Hy tab],.bU [hW s]]) (bs:=[oN out[k],.bU [Hy tab],.bU [hW s]]) (rA rfl (W2 aV al)) rfl (p2 (r7 (fun _=>rfl) _ _ _) (W1 tab s)) (abv ag) rfl,?_⟩;conv=>whnf
  cases b with
  | true =>
    rw [if_pos rfl] at ai;obtain ⟨ao,ai⟩:=qC ai;have ai:=Option.some.inj ai;(conv=>whnf);subst cb;unfold UG;(conv=>whnf);refine ⟨by simp,by omega,rfl,ao,?_⟩;erw [ady hW (F k) out[k]];rw [ai];(conv=>whnf);refine Hv _ _ _ ?_;(conv=>whnf);exact ⟨out.length-(k+1),by omega,k+1,by omega,rfl,by rw [←rJ k (by omega)] <;> rfl,rfl⟩
  | false =>
    have ai:=Option.some.inj ai;(conv=>whnf);refine Hv _ _ _ ?_;(conv=>whnf);exact ⟨out.length-(k+1),by omega,k+1,by omega,rfl,by rw [←ai,←rJ k (by omega)] <;> rfl,rfl⟩
 ·obtain rfl:k=out.length:=by omega
  conv=>whnf
  rw [Fn];exact av
theorem ae0 {s:Int} {c i n:Nat} {sl:I} {H1:List ar}
  {Q:cA→List I→List ar→Prop} (av:Q (.exit 2) (Hc 46 [(2,.ptr 0 0),(5,.ax [] 0 .full),(8,.func 98 [] [.ptr 0 0,.ptr c 0]),(9,.ax [hW s] 1 (.uniq 1)),(12,sl),(13,hW n),(14,hW i),(21,.ax [] 0 .full),(22,hW 0),(23,hW 0),(24,B false)]) H1)
  {T:List I} (bX:e0 [false,false,true,false,false,true,false,false,true,true,false,false,true,true,true,false,false,false,false,false,false,true,true,true,false,false,false,false,false,false,false,false,false,false,false,false,false,false,false,false,false,false,false,false,false,false] T=Hc 46 [(2,.ptr 0 0),(5,.ax [] 0 .full),(8,.func 98 [] [.ptr 0 0,.ptr c 0]),(9,.ax [hW s] 1 (.uniq 1)),(12,sl),(13,hW n),(14,hW i),(21,.ax [] 0 .full),(22,hW 0),(23,hW 0)]) :
  dR Tryz.prog M6 79 0 none NJ T H1 Q:=by
 unfold NJ;obtain ⟨bb,b6⟩:∃ c,QC=c:=⟨_,rfl⟩;rw [b6];refine wp_loop bX ?_;refine .intro (fun m T H=>T=Hc 46 [(2,.ptr 0 0),(5,.ax [] 0 .full),(8,.func 98 [] [.ptr 0 0,.ptr c 0]),(9,.ax [hW s] 1 (.uniq 1)),(12,sl),(13,hW n),(14,hW i),(21,.ax [] 0 .full),(22,hW 0),(23,hW 0)]∧H=H1) 0 ⟨rfl,rfl⟩ ?_;clear bX;rintro m T H ⟨rfl,rfl⟩;conv=>whnf
 exact av
def Lj (tab:p9) (out:List (List Int)) (v5:I) (H:List ar):Prop :=
 H[0]?=some (Jm tab)∧((out=[]∧v5=.ax [] 0 .full)∨∃ X:List ar,0<X.length∧v5=.cl X.length (X.length+1) out.length 1∧H=X++[.grow (out.map oN) (X.length+1) 1,.dead])
theorem Lj.mk' {tab:p9} {out:List (List Int)} {X:List ar} (h:X[0]?=some (Jm tab)) {l:List I} (ao:l=out.map oN) {n:Nat} (aN:n=out.length):Lj tab out (.cl X.length (X.length+1) n 1) (X++[.grow l (X.length+1) 1,.dead]):=by
 subst ao aN;have ad:=(sv.1 h).1;exact ⟨qY h,.inr ⟨X,ad,rfl,rfl⟩⟩
theorem q3 {H:List ar} {i j:Nat} {o c:ar} (h:H[i]?=some o) (aN:j≠i):(H.set j c)[i]?=some o:=by rw [List.getElem?_set_ne aN];exact h
theorem Xs {P:Program} {C:b8} {id n:Nat} {o:Oper} {x:Operand} {H:List ar} (l:List Int) (aq:o.op=.move x) (aN:n=l.length) (ah:H[id]?=some (.cells (l.map hW))) :
  a5 P C 0 o 2 [.ref id 0 n none 1] H=some (oN l,H.set id .dead) :=
 aeI (cs:=l.map hW) (sz:=1) aq (sP _) ah aN (by simp) (ajL (fun _=>rfl) _)
theorem YG {tab:p9} {s:Int} {out rest:List (List Int)} {own:List Int} {v5:I} {H:List ar} {i n:Nat} {sl:I} (cm:Lj tab out v5 H) (Nb:own.length≤12) (bO:own.length≠0) (hlen:out.length≤1000) (a3:L8 (fun r=>MU r tab s) out=some rest)
  {v21 v22 v23 v24:I} {Q:cA→List I→List ar→Prop} (av:∀ NV H' Vg Vb Vc Vd Ve NR NS NT Vf,Lj tab (rest++[Hq own]) NV H'→Q .normal (Hc 46 [(2,.ptr 0 0),(5,NV),(9,Vg),(12,sl),(13,hW n),(14,hW i),(21,v21),(22,v22),(23,v23),(24,v24),(34,Vb),(35,Vc),(36,Vd),(37,Ve),(38,NR),(39,NS),(40,NT),(41,Vf)]) H') :
  dR Tryz.prog M6 79 0 none QE (Hc 46 [(2,.ptr 0 0),(5,v5),(8,.func 98 [] [.ptr 0 0,.ptr H.length 0]),(9,.ax (own.map hW) own.length (.uniq 1)),(12,sl),(13,hW n),(14,hW i),(21,v21),(22,v22),(23,v23),(24,v24)]) (H++[.cells [hW s]]) Q:=by
 unfold QE;obtain ⟨bt,er⟩:∃ c,UH=c:=⟨_,rfl⟩;rw [er];obtain ⟨aV,cm⟩:=cm;have gF:=(sv.1 aV).1;conv=>whnf
 refine .inl ⟨bO,?_⟩;conv=>whnf
 refine ⟨_,_,HL (Zu own (sP _) Nb rfl (JU _ _)),?_⟩;rw [rB];conv=>whnf
 subst er;unfold UH;rcases cm with ⟨rfl,rfl⟩ | ⟨X,Lq,rfl,rfl⟩
 ·obtain rfl:rest=[]:=(Option.some.inj a3).symm;conv=>whnf
  refine ⟨_,_,HL aeg,?_⟩;conv=>whnf
  refine ⟨_,_,fun C=>Xs (Hq own) rfl (QT own).symm (JU _ _),?_⟩;rw [rB];conv=>whnf
  refine ⟨⟨rfl,by decide⟩,?_⟩;conv=>whnf
  refine ⟨⟨by decide,by decide,rfl⟩,?_⟩;conv=>whnf
  exact av _ _ _ _ _ _ _ _ _ _ _ (Lj.mk' (qY (qY aV)) rfl rfl)
 ·conv=>whnf
  refine ⟨_,_,HL (aei (g:=X.length+1) (cs:=[.bU [Hy tab],.bU [hW s]]) a3 (sP _) (fun c=>W2 (q3 (qY (qY aV)) (by omega)) (q3 (qY (JU _ _)) (by simp))) rfl (W1 tab s) hlen rfl (fun _ _ ag=>abv ag) (qY (qY (Na _ _)))),?_⟩;conv=>whnf
  refine ⟨_,_,fun C=>Xs (Hq own) rfl (QT own).symm (q3 (JU _ _) (by simp <;> omega)),?_⟩;conv=>whnf
  refine ⟨⟨rfl,by decide⟩,?_⟩;conv=>whnf
  have aj:rest.length≤out.length:=by
   obtain ⟨p,_,e⟩:=W' a3;rw [e];exact List.length_filter_le _ _
  refine ⟨⟨rfl,by decide,by omega⟩,?_⟩;conv=>whnf
  exact av _ _ _ _ _ _ _ _ _ _ _ (Lj.mk' (q3 (q3 (qY (qY aV)) (by omega)) (by simp)) (by rw [List.map_append];rfl) (by simp))
theorem aht {tab:p9} {qp:List Int} {Nt:List (List Int)} {H:List ar} (bF:IZ (OU tab) qp []=some Nt) (DD:qp.length≤1000) (aV:H[0]?=some (Jm tab))
  {Q:cA→List I→List ar→Prop} (av:∀ v5 H',Lj tab Nt v5 H'→Q (.exit 0) (Hc 46 [(2,.ptr 0 0),(5,v5),(12,oN qp),(13,hW qp.length),(14,hW qp.length),(15,B (decide ((qp.length:Int)<(qp.length:Int))))]) H')
  {T:List I} (bX:e0 [false,false,true,false,false,true,false,false,false,false,false,false,true,true,true,false,false,false,false,false,false,false,false,false,false,false,false,false,false,false,false,false,false,false,false,false,false,false,false,false,false,false,false,false,false,false] T=Hc 46 [(2,.ptr 0 0),(5,.ax [] 0 .full),(12,oN qp),(13,hW qp.length),(14,hW (0:Nat))]) :
  dR Tryz.prog M6 79 0 none QD T H Q:=by
 unfold QD;obtain ⟨fZ,Hg⟩:∃ c,UK=c:=⟨_,rfl⟩;rw [Hg];refine wp_loop bX ?_;obtain ⟨F,RO,Fn,RQ⟩:=Sw bF;refine .intro (fun m T H=>∃ (i:Nat) (v5:I),i≤qp.length∧m=qp.length-i∧Lj tab (F i) v5 H∧T=Hc 46 [(2,.ptr 0 0),(5,v5),(12,oN qp),(13,hW qp.length),(14,hW i)]) qp.length ⟨0,_,by omega,by omega,⟨aV,.inl ⟨RO,rfl⟩⟩,rfl⟩ ?_;clear bX aV;rintro m T H ⟨i,v5,hi,rfl,cm,rfl⟩;conv=>whnf
 refine Ip (fun aS=>?_) (fun aS=>?_)
 ·have aS:i<qp.length:=by omega
  obtain ⟨own,nK,aB⟩:=qm (RQ i aS);obtain ⟨⟨Nb,bO,hlen⟩,aB⟩:=qC aB;obtain ⟨rest,a3,aB⟩:=qm aB;have aB:=Option.some.inj aB;conv=>whnf
  subst Hg;unfold UK;obtain ⟨dY,Cs⟩:∃ c,UJ=c:=⟨_,rfl⟩;rw [Cs];refine I5 fun nc Hv=>?_;conv=>whnf
  refine ⟨by omega,?_⟩;conv=>whnf
  refine ahb _ _ _ (aS) ?_;conv=>whnf
  refine Es (JU _ _) ?_;conv=>whnf
  rw [rB];conv=>whnf
  subst Cs;unfold UJ;obtain ⟨b9,iF⟩:∃ c,UI=c:=⟨_,rfl⟩;rw [iF];conv=>whnf
  refine Es (JU _ _) ?_;conv=>whnf
  subst iF;unfold UI;obtain ⟨Sc,JT⟩:∃ c,NJ=c:=⟨_,rfl⟩;obtain ⟨al3,Sy⟩:∃ c,QE=c:=⟨_,rfl⟩;rw [JT,Sy];have pe:=cm;obtain ⟨aV,cm⟩:=cm;rcases cm with ⟨aq,rfl⟩ | ⟨X,Lq,rfl,ah⟩
  ·(conv=>whnf);subst JT;have jS:own=[qp[i]]:=by
    rw [aq] at nK;exact (Option.some.inj nK).symm
   refine ae0 (s:=qp[i]) (c:=H.length) (n:=qp.length) (i:=i) (sl:=oN qp) ?_ (by exact rfl);(conv=>whnf);subst Sy;refine YG (own:=own) (v5:=.ax [] 0 .full) pe Nb bO hlen a3 (v21:=.ax [] 0 .full) (v22:=hW 0) (v23:=hW 0) (v24:=B false) ?_ |> cast (by rw [jS];rfl)
   intro NV H' Vg Vb Vc Vd Ve NR NS NT Vf KE;(conv=>whnf);refine Hv _ _ _ ?_;(conv=>whnf);exact ⟨qp.length-(i+1),by omega,i+1,NV,by omega,rfl,by rw [←aB];exact KE,by rw [←rJ i (by omega)] <;> rfl⟩
  ·(conv=>whnf);subst JT;refine aeZ (x:=X.length) (c:=H.length) (n:=qp.length) (i:=i) (sl:=oN qp) nK hlen (qY (by rw [ah];exact Na _ _)) (qY aV) (JU _ _) ?_ (by exact rfl);(conv=>whnf);subst Sy;refine YG (own:=own) pe Nb bO hlen a3 ?_;intro NV H' Vg Vb Vc Vd Ve NR NS NT Vf KE;(conv=>whnf);refine Hv _ _ _ ?_;(conv=>whnf);exact ⟨qp.length-(i+1),by omega,i+1,NV,by omega,rfl,by rw [←aB];exact KE,by rw [←rJ i (by omega)] <;> rfl⟩
 ·obtain rfl:i=qp.length:=by omega
  conv=>whnf
  exact av _ _ (by rw [←Fn];exact cm)
theorem VC {t:p9} {qp:List Int} {v:List (List Int)} (h:LV t qp=some v):qB 79 [Hy t,.ax (qp.map hW) qp.length .shared] (.ax (v.map oN) v.length .shared):=by
 obtain ⟨DD,h⟩:=qC h;obtain ⟨out,bF,h⟩:=qm h;obtain ⟨⟨Nb,cQ⟩,h⟩:=qC h;obtain rfl:=Option.some.inj h;refine q5 et age rfl (r7 (fun _=>(r7 (fun _=>rfl) _ _ _)) _ _ _) fun Q bp=>?_;have jD:∀ T H,I9 [.tmp 4] (.ax ((Jl out).map oN) (Jl out).length .shared) .ret T H→Q .ret T H:=fun T H bI=>bp _ T H bI;unfold Y2;obtain ⟨nm,Hi⟩:∃ c,UM=c:=⟨_,rfl⟩;rw [Hi];conv=>whnf
 subst Hi;unfold UM;obtain ⟨Sc,JT⟩:∃ c,QD=c:=⟨_,rfl⟩;obtain ⟨nk,HC⟩:∃ c,UL=c:=⟨_,rfl⟩;rw [JT,HC];conv=>whnf
 subst JT;refine aht (tab:=t) bF DD rfl ?_ (by exact rfl);intro v5 H' cm;conv=>whnf
 subst HC;unfold UL;obtain ⟨aV,cm⟩:=cm;rcases cm with ⟨rfl,rfl⟩ | ⟨X,Lq,rfl,rfl⟩
 ·have e:Jl []=[]:=List.eq_nil_of_length_eq_zero (by rw [U9];rfl);rw [e] at jD;conv=>whnf
  refine ⟨_,_,HL ai1,?_⟩;conv=>whnf
  refine ⟨_,_,fun C=>rfl,?_⟩;conv=>whnf
  exact jD _ _ ⟨.inr rfl,_,rfl,_,o' rfl,rfl⟩
 ·conv=>whnf
  refine ⟨_,_,HL (ai5 out (sP _) Nb cQ rfl (Na X _)),?_⟩;rw [Zl];conv=>whnf
  refine ⟨_,_,fun C=>Xt rfl (sP _) (Na X _) (by rw [List.length_map,U9,Nat.mul_one]),?_⟩;rw [aak (fun _=>rfl),Zl];conv=>whnf
  rw [U9] at jD;exact jD _ _ ⟨.inr rfl,_,rfl,_,o' (r7 (fun _=>(r7 (fun _=>rfl) _ _ _)) _ _ _),rfl⟩
end Go.Proofs.YtfakoboiahbhaaaGreat.Ab


namespace Go.Proofs.YtfakoboiahbhaaaGreat.Ab
open Go
def ZA:qL:=.pure 100 [.bU [.int .i64 4,.ax [.int .i64 0,.int .i64 1,.int .i64 1,.int .i64 2,.int .i64 2,.int .i64 0,.int .i64 2,.int .i64 3] 4 .shared],.int .i64 0,.int .i64 0] (.bool true)
theorem aja:q2 Go.Proofs.Tryz.prog ZA:=sn (p:=16) (by kernel_rfl)
def ZB:qL:=.pure 100 [.bU [.int .i64 4,.ax [.int .i64 0,.int .i64 1,.int .i64 1,.int .i64 2,.int .i64 2,.int .i64 0,.int .i64 2,.int .i64 3] 4 .shared],.int .i64 0,.int .i64 1] (.bool true)
theorem ajb:q2 Go.Proofs.Tryz.prog ZB:=sn (p:=16) (by kernel_rfl)
def ZC:qL:=.pure 100 [.bU [.int .i64 4,.ax [.int .i64 0,.int .i64 1,.int .i64 1,.int .i64 2,.int .i64 2,.int .i64 0,.int .i64 2,.int .i64 3] 4 .shared],.int .i64 0,.int .i64 2] (.bool true)
theorem ajc:q2 Go.Proofs.Tryz.prog ZC:=sn (p:=16) (by kernel_rfl)
def ZD:qL:=.pure 100 [.bU [.int .i64 4,.ax [.int .i64 0,.int .i64 1,.int .i64 1,.int .i64 2,.int .i64 2,.int .i64 0,.int .i64 2,.int .i64 3] 4 .shared],.int .i64 0,.int .i64 3] (.bool false)
theorem ajd:q2 Go.Proofs.Tryz.prog ZD:=sn (p:=16) (by kernel_rfl)
def ZE:qL:=.pure 100 [.bU [.int .i64 4,.ax [.int .i64 0,.int .i64 1,.int .i64 1,.int .i64 2,.int .i64 2,.int .i64 0,.int .i64 2,.int .i64 3] 4 .shared],.int .i64 1,.int .i64 0] (.bool true)
theorem aje:q2 Go.Proofs.Tryz.prog ZE:=sn (p:=16) (by kernel_rfl)
def ZF:qL:=.pure 100 [.bU [.int .i64 4,.ax [.int .i64 0,.int .i64 1,.int .i64 1,.int .i64 2,.int .i64 2,.int .i64 0,.int .i64 2,.int .i64 3] 4 .shared],.int .i64 1,.int .i64 1] (.bool true)
theorem ajf:q2 Go.Proofs.Tryz.prog ZF:=sn (p:=16) (by kernel_rfl)
def ZG:qL:=.pure 100 [.bU [.int .i64 4,.ax [.int .i64 0,.int .i64 1,.int .i64 1,.int .i64 2,.int .i64 2,.int .i64 0,.int .i64 2,.int .i64 3] 4 .shared],.int .i64 1,.int .i64 2] (.bool true)
theorem ajg:q2 Go.Proofs.Tryz.prog ZG:=sn (p:=16) (by kernel_rfl)
def ZH:qL:=.pure 100 [.bU [.int .i64 4,.ax [.int .i64 0,.int .i64 1,.int .i64 1,.int .i64 2,.int .i64 2,.int .i64 0,.int .i64 2,.int .i64 3] 4 .shared],.int .i64 1,.int .i64 3] (.bool true)
theorem ajh:q2 Go.Proofs.Tryz.prog ZH:=sn (p:=16) (by kernel_rfl)
def ZI:qL:=.pure 100 [.bU [.int .i64 4,.ax [.int .i64 0,.int .i64 1,.int .i64 1,.int .i64 2,.int .i64 2,.int .i64 0,.int .i64 2,.int .i64 3] 4 .shared],.int .i64 2,.int .i64 0] (.bool true)
theorem aji:q2 Go.Proofs.Tryz.prog ZI:=sn (p:=16) (by kernel_rfl)
def ZJ:qL:=.pure 100 [.bU [.int .i64 4,.ax [.int .i64 0,.int .i64 1,.int .i64 1,.int .i64 2,.int .i64 2,.int .i64 0,.int .i64 2,.int .i64 3] 4 .shared],.int .i64 2,.int .i64 1] (.bool true)
theorem ajj:q2 Go.Proofs.Tryz.prog ZJ:=sn (p:=16) (by kernel_rfl)
def ZK:qL:=.pure 100 [.bU [.int .i64 4,.ax [.int .i64 0,.int .i64 1,.int .i64 1,.int .i64 2,.int .i64 2,.int .i64 0,.int .i64 2,.int .i64 3] 4 .shared],.int .i64 2,.int .i64 2] (.bool true)
theorem ajk:q2 Go.Proofs.Tryz.prog ZK:=sn (p:=16) (by kernel_rfl)
def ZL:qL:=.pure 100 [.bU [.int .i64 4,.ax [.int .i64 0,.int .i64 1,.int .i64 1,.int .i64 2,.int .i64 2,.int .i64 0,.int .i64 2,.int .i64 3] 4 .shared],.int .i64 2,.int .i64 3] (.bool true)
theorem ajl:q2 Go.Proofs.Tryz.prog ZL:=sn (p:=16) (by kernel_rfl)
def ZM:qL:=.pure 100 [.bU [.int .i64 4,.ax [.int .i64 0,.int .i64 1,.int .i64 1,.int .i64 2,.int .i64 2,.int .i64 0,.int .i64 2,.int .i64 3] 4 .shared],.int .i64 3,.int .i64 0] (.bool false)
theorem ajm:q2 Go.Proofs.Tryz.prog ZM:=sn (p:=16) (by kernel_rfl)
def ZN:qL:=.pure 100 [.bU [.int .i64 4,.ax [.int .i64 0,.int .i64 1,.int .i64 1,.int .i64 2,.int .i64 2,.int .i64 0,.int .i64 2,.int .i64 3] 4 .shared],.int .i64 3,.int .i64 1] (.bool true)
theorem ajn:q2 Go.Proofs.Tryz.prog ZN:=sn (p:=16) (by kernel_rfl)
def ZO:qL:=.pure 100 [.bU [.int .i64 4,.ax [.int .i64 0,.int .i64 1,.int .i64 1,.int .i64 2,.int .i64 2,.int .i64 0,.int .i64 2,.int .i64 3] 4 .shared],.int .i64 3,.int .i64 2] (.bool true)
theorem ajo:q2 Go.Proofs.Tryz.prog ZO:=sn (p:=16) (by kernel_rfl)
def ZP:qL:=.pure 100 [.bU [.int .i64 4,.ax [.int .i64 0,.int .i64 1,.int .i64 1,.int .i64 2,.int .i64 2,.int .i64 0,.int .i64 2,.int .i64 3] 4 .shared],.int .i64 3,.int .i64 3] (.bool true)
theorem ajp:q2 Go.Proofs.Tryz.prog ZP:=sn (p:=16) (by kernel_rfl)
def ZR:qL:=.pure 100 [.bU [.int .i64 5,.ax [.int .i64 0,.int .i64 1,.int .i64 2,.int .i64 3,.int .i64 4,.int .i64 4] 3 .shared],.int .i64 0,.int .i64 0] (.bool true)
theorem ajt:q2 Go.Proofs.Tryz.prog ZR:=sn (p:=16) (by kernel_rfl)
def ZS:qL:=.pure 100 [.bU [.int .i64 5,.ax [.int .i64 0,.int .i64 1,.int .i64 2,.int .i64 3,.int .i64 4,.int .i64 4] 3 .shared],.int .i64 0,.int .i64 1] (.bool false)
theorem aju:q2 Go.Proofs.Tryz.prog ZS:=sn (p:=16) (by kernel_rfl)
def ZT:qL:=.pure 100 [.bU [.int .i64 5,.ax [.int .i64 0,.int .i64 1,.int .i64 2,.int .i64 3,.int .i64 4,.int .i64 4] 3 .shared],.int .i64 0,.int .i64 2] (.bool false)
theorem ajv:q2 Go.Proofs.Tryz.prog ZT:=sn (p:=16) (by kernel_rfl)
def ZU:qL:=.pure 100 [.bU [.int .i64 5,.ax [.int .i64 0,.int .i64 1,.int .i64 2,.int .i64 3,.int .i64 4,.int .i64 4] 3 .shared],.int .i64 1,.int .i64 0] (.bool false)
theorem ajw:q2 Go.Proofs.Tryz.prog ZU:=sn (p:=16) (by kernel_rfl)
def ZV:qL:=.pure 100 [.bU [.int .i64 5,.ax [.int .i64 0,.int .i64 1,.int .i64 2,.int .i64 3,.int .i64 4,.int .i64 4] 3 .shared],.int .i64 1,.int .i64 1] (.bool true)
theorem ajx:q2 Go.Proofs.Tryz.prog ZV:=sn (p:=16) (by kernel_rfl)
def ZW:qL:=.pure 100 [.bU [.int .i64 5,.ax [.int .i64 0,.int .i64 1,.int .i64 2,.int .i64 3,.int .i64 4,.int .i64 4] 3 .shared],.int .i64 1,.int .i64 2] (.bool false)
theorem ajy:q2 Go.Proofs.Tryz.prog ZW:=sn (p:=16) (by kernel_rfl)
def ZX:qL:=.pure 100 [.bU [.int .i64 5,.ax [.int .i64 0,.int .i64 1,.int .i64 2,.int .i64 3,.int .i64 4,.int .i64 4] 3 .shared],.int .i64 2,.int .i64 0] (.bool false)
theorem ajz:q2 Go.Proofs.Tryz.prog ZX:=sn (p:=16) (by kernel_rfl)
def ZY:qL:=.pure 100 [.bU [.int .i64 5,.ax [.int .i64 0,.int .i64 1,.int .i64 2,.int .i64 3,.int .i64 4,.int .i64 4] 3 .shared],.int .i64 2,.int .i64 1] (.bool false)
theorem ajA:q2 Go.Proofs.Tryz.prog ZY:=sn (p:=16) (by kernel_rfl)
def ZZ:qL:=.pure 100 [.bU [.int .i64 5,.ax [.int .i64 0,.int .i64 1,.int .i64 2,.int .i64 3,.int .i64 4,.int .i64 4] 3 .shared],.int .i64 2,.int .i64 2] (.bool true)
theorem ajB:q2 Go.Proofs.Tryz.prog ZZ:=sn (p:=16) (by kernel_rfl)
def Z0:qL:=.pure 100 [.bU [.int .i64 2,.ax [.int .i64 0,.int .i64 1,.int .i64 1,.int .i64 0] 2 .shared],.int .i64 0,.int .i64 0] (.bool true)
theorem ajC:q2 Go.Proofs.Tryz.prog Z0:=sn (p:=16) (by kernel_rfl)
def Z1:qL:=.pure 100 [.bU [.int .i64 2,.ax [.int .i64 0,.int .i64 1,.int .i64 1,.int .i64 0] 2 .shared],.int .i64 0,.int .i64 1] (.bool true)
theorem ajD:q2 Go.Proofs.Tryz.prog Z1:=sn (p:=16) (by kernel_rfl)
def Z2:qL:=.pure 100 [.bU [.int .i64 2,.ax [.int .i64 0,.int .i64 1,.int .i64 1,.int .i64 0] 2 .shared],.int .i64 1,.int .i64 0] (.bool true)
theorem ajE:q2 Go.Proofs.Tryz.prog Z2:=sn (p:=16) (by kernel_rfl)
def Z3:qL:=.pure 100 [.bU [.int .i64 2,.ax [.int .i64 0,.int .i64 1,.int .i64 1,.int .i64 0] 2 .shared],.int .i64 1,.int .i64 1] (.bool true)
theorem ajF:q2 Go.Proofs.Tryz.prog Z3:=sn (p:=16) (by kernel_rfl)
def Z9:List qL:=[ZA,ZB,ZC,ZD,ZE,ZF,ZG,ZH,ZI,ZJ,ZK,ZL,ZM,ZN,ZO,ZP,ZR,ZS,ZT,ZU,ZV,ZW,ZX,ZY,ZZ,Z0,Z1,Z2,Z3]
theorem HI:∀ e∈Z9,q2 Go.Proofs.Tryz.prog e:=by
 simp only [Z9,List.forall_mem_cons];exact ⟨aja,ajb,ajc,ajd,aje,ajf,ajg,ajh,aji,ajj,ajk,ajl,ajm,ajn,ajo,ajp,ajt,aju,ajv,ajw,ajx,ajy,ajz,ajA,ajB,ajC,ajD,ajE,ajF,by simp⟩
end Go.Proofs.YtfakoboiahbhaaaGreat.Ab


namespace Go.Proofs.YtfakoboiahbhaaaGreat.Ab
open Go
def bH:qL:=.pure 18 [.agg [.int .i64 4,.ax [.int .i64 0,.int .i64 1,.int .i64 1,.int .i64 2,.int .i64 2,.int .i64 0,.int .i64 2,.int .i64 3] 4 .shared],.ax [.int .i64 0,.int .i64 0,.int .i64 1,.int .i64 0,.int .i64 3,.int .i64 0] 3 .shared] (.tuple [.int .i64 0,.int .i64 3,.int .i64 0])
theorem ajY:q2 Go.Proofs.Tryz.prog bH:=Hp HI (by kernel_rfl)
def bY:qL:=.pure 18 [.agg [.int .i64 4,.ax [.int .i64 0,.int .i64 1,.int .i64 1,.int .i64 2,.int .i64 2,.int .i64 0,.int .i64 2,.int .i64 3] 4 .shared],.ax [.int .i64 0,.int .i64 0,.int .i64 1,.int .i64 0,.int .i64 2,.int .i64 0,.int .i64 0,.int .i64 0] 4 .shared] (.tuple [.int .i64 0,.int .i64 0,.int .i64 11])
theorem aj3:q2 Go.Proofs.Tryz.prog bY:=Hp HI (by kernel_rfl)
def Hh:qL:=.pure 18 [.agg [.int .i64 4,.ax [.int .i64 0,.int .i64 1,.int .i64 1,.int .i64 2,.int .i64 2,.int .i64 0,.int .i64 2,.int .i64 3] 4 .shared],.ax [.int .i64 0,.int .i64 0,.int .i64 2,.int .i64 0] 2 .shared] (.tuple [.int .i64 0,.int .i64 0,.int .i64 27])
theorem aj4:q2 Go.Proofs.Tryz.prog Hh:=Hp HI (by kernel_rfl)
def Kj:qL:=.pure 18 [.agg [.int .i64 4,.ax [.int .i64 0,.int .i64 1,.int .i64 1,.int .i64 2,.int .i64 2,.int .i64 0,.int .i64 2,.int .i64 3] 4 .shared],.ax [.int .i64 0,.int .i64 0,.int .i64 4,.int .i64 0] 2 .shared] (.tuple [.int .i64 0,.int .i64 0,.int .i64 3])
theorem aj5:q2 Go.Proofs.Tryz.prog Kj:=Hp HI (by kernel_rfl)
def NW:qL:=.pure 18 [.agg [.int .i64 4,.ax [.int .i64 0,.int .i64 1,.int .i64 1,.int .i64 2,.int .i64 2,.int .i64 0,.int .i64 2,.int .i64 3] 4 .shared],.ax [] 0 .shared] (.tuple [.int .i64 0,.int .i64 0,.int .i64 6])
theorem aj6:q2 Go.Proofs.Tryz.prog NW:=Hp HI (by kernel_rfl)
def aaz:qL:=.pure 25 [.agg [.int .i64 4,.ax [.int .i64 0,.int .i64 1,.int .i64 1,.int .i64 2,.int .i64 2,.int .i64 0,.int .i64 2,.int .i64 3] 4 .shared],.ax [.ax [.int .i64 0,.int .i64 0,.int .i64 1,.int .i64 0,.int .i64 3,.int .i64 0] 3 .shared,.ax [.int .i64 2,.int .i64 0] 1 .shared] 2 .shared] (.tuple [.int .i64 2,.int .i64 0])
theorem aj7:q2 Go.Proofs.Tryz.prog aaz:=Hp HI (by kernel_rfl)
def aaA:qL:=.pure 25 [.agg [.int .i64 4,.ax [.int .i64 0,.int .i64 1,.int .i64 1,.int .i64 2,.int .i64 2,.int .i64 0,.int .i64 2,.int .i64 3] 4 .shared],.ax [.ax [.int .i64 0,.int .i64 0,.int .i64 1,.int .i64 0,.int .i64 3,.int .i64 0] 3 .shared] 1 .shared] (.tuple [.int .i64 0,.int .i64 15])
theorem aj8:q2 Go.Proofs.Tryz.prog aaA:=Hp HI (by kernel_rfl)
def aaB:qL:=.pure 25 [.agg [.int .i64 4,.ax [.int .i64 0,.int .i64 1,.int .i64 1,.int .i64 2,.int .i64 2,.int .i64 0,.int .i64 2,.int .i64 3] 4 .shared],.ax [.ax [.int .i64 0,.int .i64 0,.int .i64 1,.int .i64 0,.int .i64 3,.int .i64 0] 3 .shared,.ax [.int .i64 2,.int .i64 0,.int .i64 0,.int .i64 0] 2 .shared] 2 .shared] (.tuple [.int .i64 0,.int .i64 11])
theorem aj9:q2 Go.Proofs.Tryz.prog aaB:=Hp HI (by kernel_rfl)
def aaC:qL:=.pure 22 [.agg [.int .i64 2,.ax [.int .i64 0,.int .i64 1,.int .i64 1,.int .i64 0] 2 .shared],.ax [.int .i64 0,.int .i64 0,.int .i64 1,.int .i64 0] 2 .shared] (.int .i64 0)
theorem aj_:q2 Go.Proofs.Tryz.prog aaC:=Hp HI (by kernel_rfl)
def aal:qL:=.pure 22 [.agg [.int .i64 2,.ax [.int .i64 0,.int .i64 1,.int .i64 1,.int .i64 0] 2 .shared],.ax [.int .i64 0,.int .i64 0] 1 .shared] (.int .i64 15)
theorem ajO:q2 Go.Proofs.Tryz.prog aal:=Hp HI (by kernel_rfl)
def aam:qL:=.pure 27 [.agg [.int .i64 4,.ax [.int .i64 0,.int .i64 1,.int .i64 1,.int .i64 2,.int .i64 2,.int .i64 0,.int .i64 2,.int .i64 3] 4 .shared]] (.tuple [.ax [.int .i64 2,.int .i64 3] 2 .full,.int .i64 0])
theorem ajP:q2 Go.Proofs.Tryz.prog aam:=Hp HI (by kernel_rfl)
def aan:qL:=.pure 29 [.agg [.int .i64 5,.ax [.int .i64 0,.int .i64 1,.int .i64 2,.int .i64 3,.int .i64 4,.int .i64 4] 3 .shared]] (.tuple [.ax [.ax [.int .i64 0] 1 .shared,.ax [.int .i64 1] 1 .shared,.ax [.int .i64 2] 1 .shared] 3 .shared,.int .i64 0])
theorem ajQ:q2 Go.Proofs.Tryz.prog aan:=Hp HI (by kernel_rfl)
def aao:qL:=.pure 35 [.agg [.int .i64 5,.ax [.int .i64 0,.int .i64 1,.int .i64 2,.int .i64 3,.int .i64 4,.int .i64 4] 3 .shared]] (.tuple [.int .i64 3,.int .i64 0])
theorem ajR:q2 Go.Proofs.Tryz.prog aao:=Hp HI (by kernel_rfl)
def aap:qL:=.pure 41 [.agg [.int .i64 5,.ax [.int .i64 0,.int .i64 1,.int .i64 2,.int .i64 3,.int .i64 4,.int .i64 4] 3 .shared]] (.tuple [.ax [.ax [.int .i64 0,.int .i64 0] 1 .shared,.ax [.int .i64 1,.int .i64 0] 1 .shared,.ax [.int .i64 2,.int .i64 0] 1 .shared] 3 .shared,.int .i64 0])
theorem ajS:q2 Go.Proofs.Tryz.prog aap:=Hp HI (by kernel_rfl)
def aar:qL:=.pure 37 [.agg [.int .i64 5,.ax [.int .i64 0,.int .i64 1,.int .i64 2,.int .i64 3,.int .i64 4,.int .i64 4] 3 .shared]] (.tuple [.ax [] 0 .shared,.int .i64 27])
theorem ajU:q2 Go.Proofs.Tryz.prog aar:=Hp HI (by kernel_rfl)
def aas:qL:=.pure 42 [.agg [.int .i64 2,.ax [.int .i64 0,.int .i64 1,.int .i64 1,.int .i64 0] 2 .shared]] (.tuple [.ax [.int .i64 0,.int .i64 0,.int .i64 1,.int .i64 0] 2 .shared,.int .i64 0])
theorem ajV:q2 Go.Proofs.Tryz.prog aas:=Hp HI (by kernel_rfl)
def aau:qL:=.pure 39 [.agg [.int .i64 5,.ax [.int .i64 0,.int .i64 1,.int .i64 2,.int .i64 3,.int .i64 4,.int .i64 4] 3 .shared]] (.tuple [.int .i64 3,.int .i64 0])
theorem ajX:q2 Go.Proofs.Tryz.prog aau:=Hp HI (by kernel_rfl)
def aav:qL:=.pure 31 [.agg [.int .i64 4,.ax [.int .i64 0,.int .i64 1,.int .i64 1,.int .i64 2,.int .i64 2,.int .i64 0,.int .i64 2,.int .i64 3] 4 .shared]] (.tuple [.ax [.int .i64 3] 1 .shared,.int .i64 0])
theorem ajZ:q2 Go.Proofs.Tryz.prog aav:=Hp HI (by kernel_rfl)
def aaw:qL:=.pure 45 [.agg [.int .i64 4,.ax [.int .i64 0,.int .i64 1,.int .i64 1,.int .i64 2,.int .i64 2,.int .i64 0,.int .i64 2,.int .i64 3] 4 .shared],.int .i64 0,.int .i64 3] (.tuple [.ax [.int .i64 2,.int .i64 1,.int .i64 3,.int .i64 0] 2 .shared,.int .i64 0])
theorem aj0:q2 Go.Proofs.Tryz.prog aaw:=Hp HI (by kernel_rfl)
def aax:qL:=.pure 45 [.agg [.int .i64 4,.ax [.int .i64 0,.int .i64 1,.int .i64 1,.int .i64 2,.int .i64 2,.int .i64 0,.int .i64 2,.int .i64 3] 4 .shared],.int .i64 1,.int .i64 1] (.tuple [.ax [] 0 .shared,.int .i64 2])
theorem aj1:q2 Go.Proofs.Tryz.prog aax:=Hp HI (by kernel_rfl)
def aay:qL:=.pure 45 [.agg [.int .i64 5,.ax [.int .i64 0,.int .i64 1,.int .i64 2,.int .i64 3,.int .i64 4,.int .i64 4] 3 .shared],.int .i64 0,.int .i64 2] (.tuple [.ax [] 0 .shared,.int .i64 5])
theorem aj2:q2 Go.Proofs.Tryz.prog aay:=Hp HI (by kernel_rfl)
end Go.Proofs.YtfakoboiahbhaaaGreat.Ab
