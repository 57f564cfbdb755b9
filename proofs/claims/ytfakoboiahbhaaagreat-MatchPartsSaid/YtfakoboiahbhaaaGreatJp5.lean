
import Derived.Test.YtfakoboiahbhaaaGreatJp4
import Derived.Test.YtfakoboiahbhaaaGreatProg
import Derived.KernelRfl
import Derived.Test.YtfakoboiahbhaaaGreatJp3
set_option linter.unusedSimpArgs false
set_option linter.unusedVariables false
set_option linter.unusedSectionVars false

open List renaming getElem?_eq_some_iff→rV,map_cons→sE
open Nat renaming blt_eq→te,zero_le→si
open Option renaming bind_eq_some_iff→sb
namespace Go.Proofs.YtfakoboiahbhaaaGreat.Ab
open Go
noncomputable def TW:ez :=
 .j3 false [Gq 30 9,Gq 31 11,gO 32 [.hJ 30,.hJ 31] (.app 1 8),Gq 9 32]
noncomputable def P5:ez :=
 .block 3 (GC [gO 25 [.sl 21,.sl 23] (.pQ 1),Gm 26 25,Gq 11 26] (GC [Gp 27 8,Gp 28 11,gO 29 [.sl 27,.sl 28] (.call 6)] (.cond (.sl 29) TW .skip)))
noncomputable def TX:ez :=
 .j3 false [Gq 36 5, Gq 37 8, gO 38 [.iD (.func 101 [] []), .hJ 36, .hJ 37] (.call 1), ⟨some 39, [.hJ 9], none, some 9, .other (Oper.mk (some 39) (Op.move (Operand.tmp 9)) 38 "table.go:86" (Array.mk []) none) 2⟩, gO 40 [.hM 39] (.ya 1 1 [.ay [] 0 .full] [0]), gO 41 [.hJ 38, .hJ 40] (.x4 1 24), Gq 5 41]
noncomputable def MO:ez :=
 .loop (some (EA false [2,1,2,1,2,2,2,3,6,3,22])) (GC [gO 24 [.sl 23,.sl 22] (.bin .lss)] (.seq (.cond (.sl 24) .skip (.exit 2)) (.seq P5 (Gt [F0 33 23 1,Gq 23 33]))))
noncomputable def P7:ez :=
 GC [⟨some 34,[.hJ 9],none,some 9,.A7⟩,gO 35 [.iD (.func 73 [] []),.hJ 34] (.call 1)] TX
noncomputable def TY:ez :=
 .seq (GC [Gp 21 5,gO 22 [.sl 21] .w_,Gn 23 0] (.block 2 MO)) P7
noncomputable def TZ:ez :=
 GC [gO 18 [.sl 2,.sl 7] (.zw 98 0 2),Gq 8 18] (GC [Gm 19 7,gO 20 [.hM 19] (.ya 1 1 [.int .i64 0] [0]),Gq 9 20] TY)
noncomputable def T0:ez :=
 .block 1 (GC [gO 16 [.sl 12,.sl 14] (.pQ 1),Gm 17 16,gO 7 [] (.alloc [.int .i64 0]),⟨none,[.sl 7,.hJ 17],none,none,.st 1⟩] TZ)
noncomputable def T1:ez :=
 GC [Gp 43 5, gO 44 [.iD (.func 102 [] []), .hJ 43, .iD (.func 103 [] [])] (.call 1)] (GC [⟨some 45, [.hJ 5], none, some 5, .other (Oper.mk (some 45) (Op.move (Operand.tmp 5)) 41 "table.go:89" (Array.mk []) none) 2⟩, Gq 4 45] .ret)
noncomputable def P6:ez :=
 .loop (some (EA false [2,1,2,1,6,3,31])) (GC [gO 15 [.sl 14,.sl 13] (.bin .lss)] (.seq (.cond (.sl 15) .skip (.exit 0)) (.seq T0 (Gt [F0 42 14 1,Gq 14 42]))))
noncomputable def T2:ez :=
 .seq (GC [Gq 12 1,gO 13 [.sl 12] .w_,Gn 14 0] (.block 0 P6)) T1
noncomputable def Yw:ez :=
 GC [gO 2 [.hJ 0] .box,gO 4 [.iD (.ay [] 0 .full)] (.nil 1)] (GC [gO 5 [.iD (.ay [] 0 .full)] .A7] T2)
theorem afE:zg Go.Proofs.Tryz.prog Mz 79=some (Yw,46,[.tmp 4]):=by kernel_rfl
end Go.Proofs.YtfakoboiahbhaaaGreat.Ab


namespace Go.Proofs.YtfakoboiahbhaaaGreat.Ab
open Go
set_option maxRecDepth 20000
set_option maxHeartbeats 4000000
noncomputable def QI:ez :=
 .loop (some (EA false [0,2,5,2,10])) (GC [gO 9 [.sl 8,.sl 7] (.bin .lss)] (.seq (.cond (.sl 9) .skip (.exit 0)) (.seq (.block 1 (GC [Gp 10 8,Gq 5 10] (GC [Gp 11 1,Gp 12 0,Gp 13 5,Gi 14 12 13 1,Gm 15 14,gO 16 [.sl 11,.sl 15] (.call 6)] (.cond (.sl 16) (GC [Gq 17 5,Gq 4 17] .ret) .skip)))) (Gt [F0 18 8 1,Gq 8 18]))))
noncomputable def aa4:ez :=
 GC [Gn 4 0] (.seq (GC [Gp 6 0,Gl 7 6,Gn 8 0] (.block 0 QI)) (GC [Gn 4 (-1)] .ret))
theorem afI:zg Tryz.prog Rg 114=some (aa4,19,[.tmp 4]):=by kernel_rfl
def LV (s:p0) (f:(Int→Option Bool)) (p4:Unit→Option Int):Nat→Int→Option Int
 | 0,_=>none
 | m+1,s1 =>
   if (decide (s1<(s.length:Int)))=true then
    p2 (0≤s1∧s1<(s.length:Int)) <|
    (f (ix s s1)).bind fun aS =>
    if aS=true then
     some s1
    else
     LV s f p4 m (w (s1+(1:Int)))
   else
    p4 ()
def Qt (s:p0) (f:(Int→Option Bool)):Option Int :=
 LV s f (fun _ =>
   some (-1:Int)) p6 (0:Int)
theorem ajU {s:p0} {f:(Int→Option Bool)} {p4:Unit→Option Int} {s1:Int} {q':FuncId} {qM:List I} (rn:Ha qM) (HQ:∀ (qq:Int) (r:Bool),f qq=some r→qt q' ((hS qq)::qM) (B r)) {v:Int} {Q:rm}   (jz:qD [.tmp 4] Q (fun v=>(hS v)) v) (qY:∀ (p9:List I),p4 ()=some v→qV 19 [] p9→Q (.exit 0) p9 []) {T:List I} (bZ:eS (EA false [0,2,5,2,10]) T=GH 19 [(0,(qj s .shared)),(1,(.func q' [] qM)),(7,(hS (s.length:Int))),(8,(hS s1))]) (h:LV s f p4 p6 s1=some v) :
  dC Tryz.prog Rg 114 0 none QI T [] Q:=by
 unfold QI;refine wp_loop bZ ?_;refine .intro (fun m T H=>∃ (s1:Int),T=GH 19 [(0,(qj s .shared)),(1,(.func q' [] qM)),(7,(hS (s.length:Int))),(8,(hS s1))]∧H=[]∧LV s f p4 m s1=some v) p6 ⟨s1,rfl,rfl,h⟩ ?_;clear h bZ;rintro m T H ⟨s1,rfl,rfl,h⟩;cases m
 ·exact q4 h
 rename_i m;rw [LV.eq_2] at h;conv=>whnf
 refine bs h (fun eV h=>?_) fun eV h=>?_
 ·rw [eV];conv=>whnf
  refine qy h id fun fl h=>?_;rw [Ht hS s s1 fl];conv=>whnf
  obtain ⟨aS,qo,h⟩:=qi h;refine ⟨_,_,call6 (bs:=((hS (ix s s1))::qM)) (by simp only [sE,rn.im,rn.cu];rfl) (by simp only [sE,rn.im];exact (p5 rfl rn.Rf)) (HQ _ _ qo) rfl,?_⟩;conv=>whnf
  cases aS
  ·(conv=>whnf);replace h:=Hu rfl h;exact ⟨m,Nat.lt_succ_self m,(w (s1+(1:Int))),rfl,rfl,h⟩
  ·(conv=>whnf);replace h:=Hv rfl h;exact qd h jz rfl rfl
 ·rw [eV];conv=>whnf
  exact qY  _ h ⟨rfl,rfl⟩
theorem ajV {s:p0} {f:(Int→Option Bool)} {q':FuncId} {qM:List I} (rn:Ha qM) (HQ:∀ (qq:Int) (r:Bool),f qq=some r→qt q' ((hS qq)::qM) (B r)) {v:Int} (h:Qt s f=some v):qt 114 [(.ay (s.map hS) s.length .shared),(.func q' [] qM)] (hS v):=by
 refine qN dI afI rfl rfl fun Q bn=>?_;have jz:qD [.tmp 4] Q (fun v=>(hS v)) v:=fun T H bK=>bn _ T H bK;unfold Qt at h;unfold aa4;obtain ⟨Hy,qB⟩:∃ c,QI=c:=⟨_,rfl⟩;rw [qB];conv=>whnf
 subst qB;refine ajU rn HQ ?_ ?_ (by exact rfl) h
 ·exact fun T H bK=>jz T H bK
 ·intro  p9 h qs;obtain ⟨ru,rfl⟩:=qs.ex;conv=>whnf
  exact qd h jz rfl rfl

noncomputable def abH:ez :=
 GC [gO 4 [.iD (.bool false)] .iT] (GC [Gq 5 0,Gq 6 1,gO 7 [.iD (.func 114 [] []),.sl 5,.sl 6] (.call 6),F1 8 7 0 .geq,Gq 4 8] .ret)
theorem agk:zg Tryz.prog VS 92=some (abH,9,[.tmp 4]):=by kernel_rfl
def Ki (s:p0) (f:(Int→Option Bool)):Option Bool :=
 (Qt s f).bind fun aS =>
 some (decide ((0:Int)≤aS))
theorem aaV {s:p0} {f:(Int→Option Bool)} {q':FuncId} {qM:List I} (rn:Ha qM) (HQ:∀ (qq:Int) (r:Bool),f qq=some r→qt q' ((hS qq)::qM) (B r)) {v:Bool} (h:Ki s f=some v):qt 92 [(.ay (s.map hS) s.length .shared),(.func q' [] qM)] (B v):=by
 refine qN dI agk rfl rfl fun Q bn=>?_;have jz:qD [.tmp 4] Q (fun v=>(B v)) v:=fun T H bK=>bn _ T H bK;unfold Ki at h;unfold abH;conv=>whnf
 obtain ⟨aS,eV,h⟩:=qi h;refine ⟨_,_,JX (cs:=[(qj s .shared),(.func q' [] qM)]) (bs:=[(qj s .shared),(.func q' [] qM)]) (GN rfl (GN (rn.fn _ _) HC)) (by rfl) (by exact (p5 (rz (fun _=>rfl) _ _ _) (p5 (rn.SL _) rfl))) (ajV rn HQ eV) rfl,?_⟩;conv=>whnf
 exact qd h jz rfl rfl
end Go.Proofs.YtfakoboiahbhaaaGreat.Ab


namespace Go.Proofs.YtfakoboiahbhaaaGreat.Ab
open Go
section
variable {P:Program} {B N:Nat} {J:List Nat} {w:World} {U:Nat→Option aI} {S:Nat→Nat→Prop}
theorem ag6 {k : Nat} {f : Func} {c : Code} (aQ : P.funcs[k]? = some f) (ag : f.body = some c) (aN : f.name ≠ "runtime.NumGoroutine")
  {args:List I} {v:I} (aC:ct 8 v=true) {K:cD→a6→Prop}
  (ai:∀ (Q:Exit→Act→World→Prop) (B N:Nat) (J:List Nat) (w:World) (U:Nat→Option aI) (S:Nat→Nat→Prop) (a:Act),(∀ l a w,¬ Q (.goto l) a w)→cv B N U J S w ⟨args++List.replicate (f.ntmps-args.length) .junk,[]⟩ a →
   (∀ e aF,K e aF→∀ aM w',Step B N U J S w aF aM w'→Q (toExit e) aM w')→c.wpIn Fence.wide 0 P Q a w)
  (fE:∀ e s,K e s→(e=.normal∨e=.ret)∧∃ vs r,ff P s.H s.T f.results.toList=some vs∧bL s.H 0 s.H.length 0 8 (hc vs)=some r∧(r=v∨r.settle=v)):lk P k args v:=by
 refine ⟨⟨bb.refl _ _,⟨f,aQ,by simp [ag],aN⟩,fun B U J S w xs ah _ ae=>?_⟩,aC⟩;refine callsIn_of_wp_marks aQ ag trivial ?_;have aK:=xO ah ae f.ntmps;have dc:=(oh ah).1;refine ai _ B w.heap.size J w (hL U) S _ (fun l a w aO=>aO.elim) aK fun e s av aM w' ai=>?_;obtain ⟨he,vs,r,aj,Cv,eh⟩:=fE e s av;obtain ⟨b4,cS,a5,aJ,aP,cb⟩:=ai;have iL:LeavesInM Fence.wide 0 P f aM.tmps (fu B U J S w [] v) aM.defers .returning w':=by
  refine nH (U:=b4) (S:=a5) (J:=cS) (B:=B) (H:=s.H) (lj:=U) (S0:=S) (w0:=w) aM.defers w' cb.M.2.1 cb.M.2.2 (dc.trans aP) cb.H fun bV dt dm ml mm=>?_
  have bZ:a_ .slot b4 cS a5 bV s.T aM.tmps.toList:=⟨cb.T.len,fun i u v hu ae=>(cb.T.rel i u v hu ae).mono (Ext.refl _) (fun b o h=>⟨h,dm b o h⟩),fun i u v hu ae =>
   (cb.T.own i u v hu ae).mono (Ext.refl _) (fun b o h=>⟨h,dm b o h⟩) fun b ag=>⟨ag,dt b _ ag,fun _ h=>h⟩⟩
  obtain ⟨x,q1,aX⟩:=xt mm bZ aj;have nu:=xj ah (fun id aE=>by simp at aE) Cv (a2.after aJ ml aX);refine ⟨x,q1,?_⟩;rcases eh with rfl | eh
  ·exact nu
  ·cases r with
   | ay cells len gx =>
     cases gx with
     | uniq z=>simp only [I.settle] at eh;subst eh;exact nu.settle
     | _=>simp only [I.settle] at eh;subst eh;exact nu
   | _=>simp only [I.settle] at eh;subst eh;exact nu
 rcases he with rfl | rfl
 ·exact iL
 ·exact iL
end
theorem PJ (P:Program):da P (fun _ _ _ _=>none):=⟨fun h=>by simp at h,fun h=>by simp at h⟩
noncomputable def PM (f:Func):Option (cD×a6)→Option I
 | some (.normal,s) | some (.ret,s)=>(ff Go.Proofs.Tryz.prog s.H s.T f.results.toList).bind fun vs=>bL s.H 0 s.H.length 0 8 (hc vs)
 | _=>none
theorem XF {f:Func} {x:Option (cD×a6)} {v:I} (h:PM f x=some v):∃ e s,x=some (e,s)∧(e=.normal∨e=.ret)∧∃ vs,ff Go.Proofs.Tryz.prog s.H s.T f.results.toList=some vs∧bL s.H 0 s.H.length 0 8 (hc vs)=some v:=by
 unfold PM at h;split at h
 ·simp only [sb] at h;obtain ⟨vs,ad,af⟩:=h;exact ⟨_,_,rfl,.inl rfl,vs,ad,af⟩
 ·simp only [sb] at h;obtain ⟨vs,ad,af⟩:=h;exact ⟨_,_,rfl,.inr rfl,vs,ad,af⟩
 ·cases h
noncomputable def YK (k p:Nat) (args:List I):Option I:=match Go.Proofs.Tryz.prog.funcs[k]? with
 | some f=>match f.body with
   | some (.seq hE (.seq (.region id ops true) rest)) =>
     match codeOk (js k) hE, codeOk (js k) rest, f.name == "runtime.NumGoroutine", Nat.blt (p + 1) ops.size, m9 ops ((js k).ops.getD id []) p (p + 1) with
     | true,true,false,true,true =>
       match exec Go.Proofs.Tryz.prog (js k) (fun _ _ _ _=>none) k 0 9 none hE 0 ⟨args++List.replicate (f.ntmps-args.length) .junk,[]⟩ with
       | some (.normal,Uh) =>
         match cy Go.Proofs.Tryz.prog (fun _ _ _ _=>none) 0 ops ((js k).ops.getD id []) (List.range ops.size) Uh,cy Go.Proofs.Tryz.prog (fun _ _ _ _=>none) 0 ops ((js k).ops.getD id []) (fg ops.size p (p+1)) Uh with
         | some s1,some s2 =>
           match PM f (exec Go.Proofs.Tryz.prog (js k) (fun _ _ _ _=>none) k 0 9 none rest 0 s1),PM f (exec Go.Proofs.Tryz.prog (js k) (fun _ _ _ _=>none) k 0 9 none rest 0 s2) with
           | some u,some v=>match Im 20 u v,ct 8 u with
             | true,true=>some u
             | _,_=>none
           | _,_=>none
         | _,_=>none
       | _=>none
     | _,_,_,_,_=>none
   | _=>none
 | none=>none
theorem rG {k p:Nat} {args:List I} {v:I} (h:YK k p args=some v):lk Go.Proofs.Tryz.prog k args v:=by
 unfold YK at h;split at h
 ·rename_i f aQ;split at h
  ·rename_i hE id ops rest ag;split at h
   ·rename_i ba bm bt b9 dX;split at h
    ·rename_i Uh ae8;split at h
     ·rename_i s1 s2 dr CY;split at h
      ·rename_i u bu jK pD;split at h
       ·rename_i heq aC;have e:=MB 20 _ _ heq;subst e;cases h;obtain ⟨e1,t1,y3,NQ,ajh,d',Ku⟩:=XF jK;obtain ⟨cm,t2,iQ,R3,mS,dB,Cp⟩:=XF pD;refine ag6 aQ ag (by simpa using bt) aC (K:=fun e s=>(e=e1∧s=t1)∨(e=cm∧s=t2)) (fun Q B N J w U S a aO aK bn=>?_) (fun e s av=>?_)
        ·have Gf:=dI;refine wpIn_seq (nc (PJ _) Gf hE 0 _ _ _ ae8 ba Fence.wide _ B N J w U S a (.inl ⟨rfl,rfl⟩) (fun l a w=>aO l a w) aK fun aM w' ai=>?_);obtain ⟨b4,cS,a5,aJ,aP,cb⟩:=ai;refine wpIn_seq (Ei (ji.lH (J:=cS) (rl:=none) (.inl ⟨rfl,rfl⟩)) Gf (PJ _) (by simpa [te] using b9) dX dr CY cb fun aF g2 aH bV dN=>?_);obtain ⟨bp,cj,bJ,cl,jP,oZ⟩:=dN;rcases g2 with rfl | rfl
         ·exact nc (PJ _) Gf rest 0 _ _ _ y3 bm Fence.wide Q B N cj bV bp bJ aH (.inl ⟨rfl,rfl⟩) aO oZ fun aR rv C8=>bn _ _ (.inl ⟨rfl,rfl⟩) aR rv ((C8.trans cl jP).trans aJ aP)
         ·exact nc (PJ _) Gf rest 0 _ _ _ iQ bm Fence.wide Q B N cj bV bp bJ aH (.inl ⟨rfl,rfl⟩) aO oZ fun aR rv C8=>bn _ _ (.inr ⟨rfl,rfl⟩) aR rv ((C8.trans cl jP).trans aJ aP)
        ·rcases av with ⟨rfl,rfl⟩ | ⟨rfl,rfl⟩
         ·exact ⟨NQ,ajh,_,d',Ku,.inl rfl⟩
         ·exact ⟨R3,mS,_,dB,Cp,.inl rfl⟩
       ·cases h
      ·cases h
     ·cases h
    ·cases h
   ·cases h
  ·cases h
 ·cases h
end Go.Proofs.YtfakoboiahbhaaaGreat.Ab


namespace Go.Proofs.YtfakoboiahbhaaaGreat.Ab
open Go
section
variable {P:Program}
theorem Sp {lo:Nat} {ops:Array Oper} {an:List b7}:∀ {O:List Nat} {rl:List cz} {acc:di} {T:List I} {H:List au} {K:List I→List au→Prop},fc P ops an O=some rl→hn P acc→gH P lo true rl acc T H K →
  ∃ dx a8 H',hn P dx∧(∀ p∈acc,p∈dx)∧(∀ C,hP C dx→cy P C lo ops an O ⟨T,H⟩=some ⟨a8,H'⟩)∧K a8 H'
 | [],rl,acc,T,H,K,ak,cg,h=>by simp only [fc,Option.some.injEq] at ak;subst ak;exact ⟨acc,T,H,cg,fun _ h=>h,fun _ _=>rfl,h⟩
 | i::r,rl,acc,T,H,K,ak,cg,h=>by
   simp only [fc] at ak;split at ak
   ·rename_i o hi;split at ak
    ·rename_i cR l' ad af;simp only [Option.some.injEq] at ak;subst ak;obtain ⟨x3,fh,H1,aB,aH,aR,bl⟩:=xX ad cg h;obtain ⟨oA,dR,a3,bq,cK,eA,jt⟩:=Sp af aB bl;refine ⟨oA,dR,a3,bq,fun p aC=>cK p (aH p aC),fun C ck=>?_,jt⟩;simp only [cy,hi];rw [aR C (fun p aC=>ck p (cK p aC)),Option.bind_some];exact eA C ck
    ·cases ak
   ·cases ak
theorem ag7 {k : Nat} {f : Func} {c : Code} (aQ : P.funcs[k]? = some f) (ag : f.body = some c) (aN : f.name ≠ "runtime.NumGoroutine")
  {args:List I} {v:I} (aC:ct 8 v=true) {K:cD→a6→Prop}
  (ai:∀ (Q:Exit→Act→World→Prop) (B N:Nat) (J:List Nat) (w:World) (U:Nat→Option aI) (S:Nat→Nat→Prop) (a:Act),(∀ l a w,¬ Q (.goto l) a w)→cv B N U J S w ⟨args++List.replicate (f.ntmps-args.length) .junk,[]⟩ a →
   (∀ e aF,K e aF→∀ aM w',Step B N U J S w aF aM w'→Q (toExit e) aM w')→c.wpIn Fence.wide 0 P Q a w)
  (fE:∀ e s,K e s→(e=.normal∨e=.ret)∧∃ vs r,ff P s.H s.T f.results.toList=some vs∧bL s.H 0 s.H.length 0 8 (hc vs)=some r∧r.settle.view.cu=v):lk P k args v:=by
 refine ⟨⟨bb.refl _ _,⟨f,aQ,by simp [ag],aN⟩,fun B U J S w xs ah _ ae=>?_⟩,aC⟩;refine callsIn_of_wp_marks aQ ag trivial ?_;have aK:=xO ah ae f.ntmps;have dc:=(oh ah).1;refine ai _ B w.heap.size J w (hL U) S _ (fun l a w aO=>aO.elim) aK fun e s av aM w' ai=>?_;obtain ⟨he,vs,r,aj,Cv,eh⟩:=fE e s av;obtain ⟨b4,cS,a5,aJ,aP,cb⟩:=ai;have iL:LeavesInM Fence.wide 0 P f aM.tmps (fu B U J S w [] v) aM.defers .returning w':=by
  refine nH (U:=b4) (S:=a5) (J:=cS) (B:=B) (H:=s.H) (lj:=U) (S0:=S) (w0:=w) aM.defers w' cb.M.2.1 cb.M.2.2 (dc.trans aP) cb.H fun bV dt dm ml mm=>?_
  have bZ:a_ .slot b4 cS a5 bV s.T aM.tmps.toList:=⟨cb.T.len,fun i u v hu ae=>(cb.T.rel i u v hu ae).mono (Ext.refl _) (fun b o h=>⟨h,dm b o h⟩),fun i u v hu ae =>
   (cb.T.own i u v hu ae).mono (Ext.refl _) (fun b o h=>⟨h,dm b o h⟩) fun b ag=>⟨ag,dt b _ ag,fun _ h=>h⟩⟩
  obtain ⟨x,q1,aX⟩:=xt mm bZ aj;have nu:=xj ah (fun id aE=>by simp at aE) Cv (a2.after aJ ml aX);refine ⟨x,q1,?_⟩;rw [←eh];exact nu.ZR
 rcases he with rfl | rfl
 ·exact iL
 ·exact iL
noncomputable def Sq (P:Program) (A:c9) (k p:Nat):Option (ez×List cz×List cz×ez×Nat×List jl):=match P.funcs[k]? with
 | some f=>match f.body with
   | some (.seq hE (.seq (.region id ops true) rest)) =>
     match codeOk A hE, codeOk A rest, f.name == "runtime.NumGoroutine", Nat.blt (p + 1) ops.size, m9 ops (A.ops.getD id []) p (p + 1) with
     | true,true,false,true,true =>
       match dT P A hE 0,fc P ops (A.ops.getD id []) (List.range ops.size),fc P ops (A.ops.getD id []) (fg ops.size p (p+1)),dT P A rest 0,j4 P f.results.toList with
       | some a,some b,some c,some d,some rs=>some (a,b,c,d,f.ntmps,rs)
       | _,_,_,_,_=>none
     | _,_,_,_,_=>none
   | _=>none
 | none=>none
theorem aem (dI:P.follows .mixedOrders=true) {k p:Nat} {A:c9} {zT rd:ez} {zW rc:List cz} {n:Nat} {rs:List jl} (ak:Sq P A k p=some (zT,zW,rc,rd,n,rs)) {args T:List I} (bZ:args++List.replicate (n-args.length) .junk=T) {v:I} (aC:ct 8 v=true)
  (h:∀ Q:cD→List I→List au→Prop,(∀ e T H,IW rs v e T H→Q e T H)→dC P A k 0 none zT T [] fun e T H=>e=.normal∧gH P 0 true zW [] T H (fun T H=>dC P A k 0 none rd T H Q)∧∀ acc,gH P 0 true rc acc T H (fun T H=>dC P A k 0 none rd T H Q)):lk P k args v:=by
 unfold Sq at ak;split at ak
 ·rename_i f aQ;split at ak
  ·rename_i hE id ops rest ag;split at ak
   ·rename_i ba bm bt b9 dX;split at ak
    ·rename_i a b c d YG dK kL HU Sl Xh;simp only [Option.some.injEq,Prod.mk.injEq] at ak;obtain ⟨rfl,rfl,rfl,rfl,rfl,rfl⟩:=ak;subst bZ;have h:=h (fun e T H=>IW YG v e T H) fun _ _ _ h=>h;refine ag7 aQ ag (by simpa using bt) aC (K:=fun e s=>IW YG v e s.T s.H) (fun Q B N J w U S a aO aK bn=>?_) (fun e s ⟨cd,vs,B1,r,b_,dZ⟩=>⟨cd,vs,r,by rw [xm _ _ Xh,B1],b_,dZ⟩);refine wpIn_seq (om dI hE 0 _ _ (xb dK h) ba Fence.wide _ B N J w U S a (.inl ⟨rfl,rfl⟩) (fun l a w=>aO l a w) aK fun e aF av aM w' ai=>?_);obtain ⟨rfl,ad,af⟩:=av;obtain ⟨b4,cS,a5,aJ,aP,cb⟩:=ai;obtain ⟨x3,fh,H1,aB,_,aR,bl⟩:=Sp kL ⟨fun p aC=>by simp at aC,fun p aC=>by simp at aC⟩ ad;obtain ⟨oA,dR,a3,bq,cK,eA,jt⟩:=Sp HU aB (af x3);obtain ⟨C,bw,ck⟩:=oB bq;refine wpIn_seq (Ei (ji.lH (J:=cS) (rl:=none) (.inl ⟨rfl,rfl⟩)) dI bw (by simpa [te] using b9) dX (aR C fun p aC=>ck p (cK p aC)) (eA C ck) cb fun aF g2 aH bV dN=>?_);obtain ⟨bp,cj,bJ,cl,jP,oZ⟩:=dN;rcases g2 with rfl | rfl
     ·exact om dI rest 0 _ _ (xb Sl bl) bm Fence.wide Q B N cj bV bp bJ aH (.inl ⟨rfl,rfl⟩) aO oZ fun e s av aR rv C8=>bn e s av aR rv ((C8.trans cl jP).trans aJ aP)
     ·exact om dI rest 0 _ _ (xb Sl jt) bm Fence.wide Q B N cj bV bp bJ aH (.inl ⟨rfl,rfl⟩) aO oZ fun e s av aR rv C8=>bn e s av aR rv ((C8.trans cl jP).trans aJ aP)
    ·cases ak
   ·cases ak
  ·cases ak
 ·cases ak
end
end Go.Proofs.YtfakoboiahbhaaaGreat.Ab


namespace Go.Proofs.YtfakoboiahbhaaaGreat.Ab
open Go
set_option maxRecDepth 20000
set_option maxHeartbeats 4000000
noncomputable def aa0:ez:=.j3 false [gO 6 [.iD (.bool false)] .iT]
noncomputable def aa1:List cz:=[gO 9 [.sl 0] .iT,gO 10 [.hM 9] .zC,gO 11 [.hM 10] (.oT 0),gO 12 [.hM 11] (.oT 1),gO 13 [.hM 12] (.w8 .one),gO 14 [.hJ 1] .iT,gO 15 [.hM 13,.hM 14] (.pQ 2),gO 16 [.hM 15] (.w8 (.str 2)),gO 17 [.sl 0] .iT,gO 18 [.hM 17] .zC,gO 19 [.hM 18] (.oT 0),gO 20 [.hM 19] (.oT 1),gO 21 [.hM 20] (.zc .one),gO 22 [.hJ 2] .iT,gO 23 [.hM 21,.hM 22] (.pQ 2),gO 24 [.hM 23] (.zc (.str 2)),gO 7 [] (.alloc [.int .i64 0,.int .i64 0]),gO 8 [] (.alloc [.int .i64 0,.int .i64 0]),⟨none,[.sl 7,.hJ 16],none,none,.st 2⟩,⟨none,[.sl 8,.hJ 24],none,none,.st 2⟩]
noncomputable def aa2:List cz:=[gO 9 [.sl 0] .iT,gO 10 [.hM 9] .zC,gO 11 [.hM 10] (.oT 0),gO 12 [.hM 11] (.oT 1),gO 13 [.hM 12] (.w8 .one),gO 14 [.hJ 1] .iT,gO 15 [.hM 13,.hM 14] (.pQ 2),gO 16 [.hM 15] (.w8 (.str 2)),gO 17 [.sl 0] .iT,gO 18 [.hM 17] .zC,gO 19 [.hM 18] (.oT 0),gO 20 [.hM 19] (.oT 1),gO 21 [.hM 20] (.zc .one),gO 22 [.hJ 2] .iT,gO 23 [.hM 21,.hM 22] (.pQ 2),gO 24 [.hM 23] (.zc (.str 2)),gO 8 [] (.alloc [.int .i64 0,.int .i64 0]),gO 7 [] (.alloc [.int .i64 0,.int .i64 0]),⟨none,[.sl 7,.hJ 16],none,none,.st 2⟩,⟨none,[.sl 8,.hJ 24],none,none,.st 2⟩]
noncomputable def alr:ez:=.seq (.j3 false [gO 25 [.sl 7] (.oT 0),gO 26 [.hM 25] (.w8 .one),gO 27 [.sl 8] (.oT 0),gO 28 [.hM 27] (.w8 .one),gO 29 [.hM 26,.hM 28] (.bin .eql),gO 30 [.hJ 29] .iT,⟨some 31,[.sl 7],some (30,false),none,.oT 0⟩,⟨some 32,[.hM 31],some (30,false),none,.w8 .one⟩,⟨some 33,[.sl 8],some (30,false),none,.oT 1⟩,⟨some 34,[.hM 33],some (30,false),none,.w8 .one⟩,⟨some 35,[.hM 32,.hM 34],some (30,false),none,.bin .eql⟩,gO 36 [.hM 30,.iD (.bool true),.hM 35] .pick,gO 37 [.hJ 36] .iT,⟨some 38,[.sl 7],some (37,false),none,.oT 1⟩,⟨some 39,[.hM 38],some (37,false),none,.w8 .one⟩,⟨some 40,[.sl 8],some (37,false),none,.oT 0⟩,⟨some 41,[.hM 40],some (37,false),none,.w8 .one⟩,⟨some 42,[.hM 39,.hM 41],some (37,false),none,.bin .eql⟩,gO 43 [.hM 37,.iD (.bool true),.hM 42] .pick,gO 44 [.hJ 43] .iT,⟨some 45,[.hM 7],some (44,false),none,.oT 1⟩,⟨some 46,[.hM 45],some (44,false),none,.w8 .one⟩,⟨some 47,[.hM 8],some (44,false),none,.oT 1⟩,⟨some 48,[.hM 47],some (44,false),none,.w8 .one⟩,⟨some 49,[.hM 46,.hM 48],some (44,false),none,.bin .eql⟩,gO 50 [.hM 44,.iD (.bool true),.hM 49] .pick,gO 6 [.hJ 50] .iT]) .ret
theorem afG:Sq Tryz.prog Vd 100 16=some (aa0,aa1,aa2,alr,51,[.tmp 6]):=by kernel_rfl
def I_ (a b:Int×Int):Bool:=decide (a.1=b.1) || decide (a.1=b.2) || decide (a.2=b.1) || decide (a.2=b.2)
def Uv (t:p3) (i k:Int):Option Bool :=
 p2 (0≤i∧i<(t.2.length:Int)) <|
 p2 (0≤k∧k<(t.2.length:Int)) <|
 some (I_ (ix t.2 i) (ix t.2 k))
theorem ajN {t:p3} {i k:Int} {v:Bool} (h:Uv t i k=some v):qt 100 [.bW [hS t.1,.ay (t.2.flatMap p7) t.2.length .shared],hS i,hS k] (B v):=by
 obtain ⟨eV,h⟩:=qw h;obtain ⟨fl,h⟩:=qw h;obtain rfl:=Option.some.inj h;refine aem dI afG rfl rfl fun Q bn=>?_;have jz:∀ T H,IW [.tmp 6] (B (I_ (ix t.2 i) (ix t.2 k))) .ret T H→Q .ret T H:=fun T H bK=>bn _ T H bK;unfold aa0;conv=>whnf
 refine ⟨rfl,?_,fun acc=>?_⟩
 ·unfold aa1;conv=>whnf
  refine ⟨eV,?_⟩;rw [qR p7 2 qK t.2 i eV];conv=>whnf
  refine ⟨fl,?_⟩;rw [qR p7 2 qK t.2 k fl];conv=>whnf
  rcases Kn (decide ((ix t.2 i).1=(ix t.2 k).1)) with fT | fT
  ·rw [fT];(conv=>whnf);exact jz _ _ ⟨.inr rfl,_,rfl,_,oV rfl,(by unfold I_;rw [fT];rfl)⟩
  ·rw [fT];(conv=>whnf);rcases Kn (decide ((ix t.2 i).1=(ix t.2 k).2)) with e1 | e1
   ·rw [e1];(conv=>whnf);exact jz _ _ ⟨.inr rfl,_,rfl,_,oV rfl,(by unfold I_;rw [fT,e1];rfl)⟩
   ·rw [e1];(conv=>whnf);rcases Kn (decide ((ix t.2 i).2=(ix t.2 k).1)) with cm | cm
    ·rw [cm];(conv=>whnf);exact jz _ _ ⟨.inr rfl,_,rfl,_,oV rfl,(by unfold I_;rw [fT,e1,cm];rfl)⟩
    ·rw [cm];(conv=>whnf);exact jz _ _ ⟨.inr rfl,_,rfl,_,oV rfl,(by unfold I_;rw [fT,e1,cm];rfl)⟩
 ·unfold aa2;conv=>whnf
  refine ⟨eV,?_⟩;rw [qR p7 2 qK t.2 i eV];conv=>whnf
  refine ⟨fl,?_⟩;rw [qR p7 2 qK t.2 k fl];conv=>whnf
  rcases Kn (decide ((ix t.2 i).1=(ix t.2 k).1)) with fT | fT
  ·rw [fT];(conv=>whnf);exact jz _ _ ⟨.inr rfl,_,rfl,_,oV rfl,(by unfold I_;rw [fT];rfl)⟩
  ·rw [fT];(conv=>whnf);rcases Kn (decide ((ix t.2 i).1=(ix t.2 k).2)) with e1 | e1
   ·rw [e1];(conv=>whnf);exact jz _ _ ⟨.inr rfl,_,rfl,_,oV rfl,(by unfold I_;rw [fT,e1];rfl)⟩
   ·rw [e1];(conv=>whnf);rcases Kn (decide ((ix t.2 i).2=(ix t.2 k).1)) with cm | cm
    ·rw [cm];(conv=>whnf);exact jz _ _ ⟨.inr rfl,_,rfl,_,oV rfl,(by unfold I_;rw [fT,e1,cm];rfl)⟩
    ·rw [cm];(conv=>whnf);exact jz _ _ ⟨.inr rfl,_,rfl,_,oV rfl,(by unfold I_;rw [fT,e1,cm];rfl)⟩

noncomputable def abM:ez :=
 GC [gO 4 [.iD (.bool false)] .iT] (GC [Gm 5 1,Gm 6 2,Gq 7 0,gO 8 [.iD (.func 100 [] []),.sl 5,.sl 6,.sl 7] (.call 3),Gq 4 8] .ret)
theorem agp:zg Tryz.prog VV 99=some (abM,9,[.tmp 4]):=by kernel_rfl
def QH (k:Int) (gR:p8) (ba:Int):Option Bool :=
 (Uv gR ba k).bind fun aS =>
 some aS
theorem alq {k:Int} {gR:p8} {ba:Int} {v:Bool} (h:QH k gR ba=some v):qt 99 [(hS k),(.bW [(.bW [(hS gR.1),(.ay (gR.2.flatMap p7) gR.2.length .shared)])]),(.bW [(hS ba)])] (B v):=by
 refine qN dI agp rfl rfl fun Q bn=>?_;have jz:qD [.tmp 4] Q (fun v=>(B v)) v:=fun T H bK=>bn _ T H bK;unfold QH at h;unfold abM;conv=>whnf
 obtain ⟨aS,eV,h⟩:=qi h;refine ⟨qh.pl,_,ajN eV,?_⟩;conv=>whnf
 exact qd h jz rfl rfl

noncomputable def abL:ez :=
 GC [gO 4 [.iD (.bool false)] .iT] (GC [Gq 5 0,gO 6 [.hM 1,.hM 2] (.zw 99 0 2),gO 7 [.iD (.func 92 [] []),.sl 5,.sl 6] (.call 6),Gq 4 7] .ret)
theorem ago:zg Tryz.prog VU 98=some (abL,8,[.tmp 4]):=by kernel_rfl
def Mn (part:p0) (gR:p8) (ba:Int):Option Bool :=
 (Ki part (fun qq=>QH qq gR ba)).bind fun aS =>
 some aS
theorem aaZ {part:p0} {gR:p8} {ba:Int} {v:Bool} (h:Mn part gR ba=some v):qt 98 [(.ay (part.map hS) part.length .shared),(.bW [(.bW [(hS gR.1),(.ay (gR.2.flatMap p7) gR.2.length .shared)])]),(.bW [(hS ba)])] (B v):=by
 refine qN dI ago rfl rfl fun Q bn=>?_;have jz:qD [.tmp 4] Q (fun v=>(B v)) v:=fun T H bK=>bn _ T H bK;unfold Mn at h;unfold abL;conv=>whnf
 obtain ⟨aS,eV,h⟩:=qi h;refine ⟨_,_,JX (cs:=[(qj part .shared),(.func 99 [] [(.bW [(.bW [(hS gR.1),(qf gR.2 .shared)])]),(.bW [(hS ba)])])]) (bs:=[(qj part .shared),(.func 99 [] [(.bW [(.bW [(hS gR.1),(qf gR.2 .shared)])]),(.bW [(hS ba)])])]) (GN rfl (GN (Og HC (GN rfl (GN rfl HC))) HC)) (by rfl) (by exact (p5 (rz (fun _=>rfl) _ _ _) (p5 (MM rfl (p5 (Hf (p5 (Hf (p5 rfl (p5 (HM (fun _=>(p5 rfl (p5 rfl rfl))) _ _ _) rfl))) rfl)) (p5 (Hf (p5 rfl rfl)) rfl))) rfl))) (aaV ⟨(p5 (Hf (p5 (Hf (p5 rfl (p5 (HM (fun _=>(p5 rfl (p5 rfl rfl))) _ _ _) rfl))) rfl)) (p5 (Hf (p5 rfl rfl)) rfl)),by simp⟩ (fun _ _ a1=>alq a1) eV) rfl,?_⟩;conv=>whnf
 exact qd h jz rfl rfl

abbrev LS (tab:p3):I:=.bW [hS tab.1,.ay (tab.2.flatMap p7) tab.2.length .shared]
abbrev MQ (tab:p3):au:=.cells [LS tab]
def Pl (tab:p3) (s:Int) (own r:List Int):Option (List Int):=(Mn r tab s).bind fun b=>if b=true then p2 ((own.length+r.length)*8≤140737488355328) (some (own++r)) else some own
def NZ (tab:p3) (out:List (List Int)) (s:Int):Option (List (List Int)) :=
 (H8 (Pl tab s) out [s]).bind fun own=>p2 (own.length≤12∧own.length≠0∧out.length≤1000) ((Lr (fun r=>Mn r tab s) out).bind fun rest=>some (rest++[rK own]))
def Kh (tab:p3) (p':List Int):Option (List (List Int)) :=
 p2 (p'.length≤1000) ((H8 (NZ tab) p' []).bind fun out=>p2 (out.length≤12∧out.all MP=true) (some (Iu out)))
theorem V_ {H:List au} {tab:p3} {c:Nat} {s:Int} (aT:H[0]?=some (MQ tab)) (ao:H[c]?=some (.cells [hS s])):[I.ptr 0 0,.ptr c 0].map (im H)=[.bW [LS tab],.bW [hS s]] :=
 GN (LR aT rfl) (GN (LR ao rfl) HC)
theorem V9 (tab:p3) (s:Int):[I.bW [LS tab],.bW [hS s]].all (ct 8)=true :=
 p5 (Hf (p5 (Hf (p5 rfl (p5 (HM (fun _=>(p5 rfl (p5 rfl rfl))) _ _ _) rfl))) rfl)) (p5 rfl rfl)
theorem aeF {tab:p3} {s:Int} {out:List (List Int)} {own:List Int} {x c i n:Nat} {sl:I} {H1:List au} (bD:H8 (Pl tab s) out [s]=some own) (hlen:out.length≤1000) (NG:H1[x]?=some (.grow (out.map jk) (x+1) 1)) (aT:H1[0]?=some (MQ tab)) (ao:H1[c]?=some (.cells [hS s]))
  {Q:cD→List I→List au→Prop} (av:Q (.exit 2) (GH 46 [(2,.ptr 0 0),(5,.cn x (x+1) out.length 1),(8,.func 98 [] [.ptr 0 0,.ptr c 0]),(9,.ay (own.map hS) own.length (.uniq 1)),(12,sl),(13,hS n),(14,hS i),(21,.ref x 0 out.length none 1),(22,hS out.length),(23,hS out.length),(24,B (decide ((out.length:Int)<(out.length:Int))))]) H1)
  {T:List I} (bZ:eS [false,false,true,false,false,true,false,false,true,true,false,false,true,true,true,false,false,false,false,false,false,true,true,true,false,false,false,false,false,false,false,false,false,false,false,false,false,false,false,false,false,false,false,false,false,false] T=GH 46 [(2,.ptr 0 0),(5,.cn x (x+1) out.length 1),(8,.func 98 [] [.ptr 0 0,.ptr c 0]),(9,.ay [hS s] 1 (.uniq 1)),(12,sl),(13,hS n),(14,hS i),(21,.ref x 0 out.length none 1),(22,hS out.length),(23,hS (0:Nat))]) :
  dC Tryz.prog Mz 79 0 none MO T H1 Q:=by
 unfold MO;obtain ⟨bm,b_⟩:∃ c,P5=c:=⟨_,rfl⟩;rw [b_];refine wp_loop bZ ?_;obtain ⟨F,Ra,Fn,Rc⟩:=Pc bD;refine .intro (fun m T H=>∃ k:Nat,k≤out.length∧m=out.length-k∧T=GH 46 [(2,.ptr 0 0),(5,.cn x (x+1) out.length 1),(8,.func 98 [] [.ptr 0 0,.ptr c 0]),(9,.ay ((F k).map hS) (F k).length (.uniq 1)),(12,sl),(13,hS n),(14,hS i),(21,.ref x 0 out.length none 1),(22,hS out.length),(23,hS k)]∧H=H1) out.length ⟨0,by omega,by omega,by rw [Ra];rfl,rfl⟩ ?_;clear bZ;rintro m T H ⟨k,alS,rfl,rfl,rfl⟩;conv=>whnf
 refine JF (fun aV=>?_) (fun aV=>?_)
 ·have aV:k<out.length:=by omega
  conv=>whnf
  subst b_;unfold P5;obtain ⟨ba,cd⟩:∃ c,TW=c:=⟨_,rfl⟩;rw [cd];refine JQ fun mV I1=>?_;conv=>whnf
  refine ⟨by omega,?_⟩;conv=>whnf
  refine DX NG ?_;conv=>whnf
  refine DX (Uf out rfl aV) ?_;conv=>whnf
  obtain ⟨b,ag,ai⟩:=qi (Rc k aV);refine ⟨_,_,JX (cs:=[jk out[k],.bW [LS tab],.bW [hS s]]) (bs:=[jk out[k],.bW [LS tab],.bW [hS s]]) (GN rfl (V_ aT ao)) rfl (p5 (rz (fun _=>rfl) _ _ _) (V9 tab s)) (aaZ ag) rfl,?_⟩;conv=>whnf
  cases b with
  | true =>
    rw [if_pos rfl] at ai;obtain ⟨ak,ai⟩:=qw ai;have ai:=Option.some.inj ai;(conv=>whnf);subst cd;unfold TW;(conv=>whnf);refine ⟨by simp,by omega,rfl,ak,?_⟩;erw [ade hS (F k) out[k]];rw [ai];(conv=>whnf);refine I1 _ _ _ ?_;(conv=>whnf);exact ⟨out.length-(k+1),by omega,k+1,by omega,rfl,by rw [←qU k (by omega)] <;> rfl,rfl⟩
  | false =>
    have ai:=Option.some.inj ai;(conv=>whnf);refine I1 _ _ _ ?_;(conv=>whnf);exact ⟨out.length-(k+1),by omega,k+1,by omega,rfl,by rw [←ai,←qU k (by omega)] <;> rfl,rfl⟩
 ·obtain rfl:k=out.length:=by omega
  conv=>whnf
  rw [Fn];exact av
theorem aeG {s:Int} {c i n:Nat} {sl:I} {H1:List au}
  {Q:cD→List I→List au→Prop} (av:Q (.exit 2) (GH 46 [(2,.ptr 0 0),(5,.ay [] 0 .full),(8,.func 98 [] [.ptr 0 0,.ptr c 0]),(9,.ay [hS s] 1 (.uniq 1)),(12,sl),(13,hS n),(14,hS i),(21,.ay [] 0 .full),(22,hS 0),(23,hS 0),(24,B false)]) H1)
  {T:List I} (bZ:eS [false,false,true,false,false,true,false,false,true,true,false,false,true,true,true,false,false,false,false,false,false,true,true,true,false,false,false,false,false,false,false,false,false,false,false,false,false,false,false,false,false,false,false,false,false,false] T=GH 46 [(2,.ptr 0 0),(5,.ay [] 0 .full),(8,.func 98 [] [.ptr 0 0,.ptr c 0]),(9,.ay [hS s] 1 (.uniq 1)),(12,sl),(13,hS n),(14,hS i),(21,.ay [] 0 .full),(22,hS 0),(23,hS 0)]) :
  dC Tryz.prog Mz 79 0 none MO T H1 Q:=by
 unfold MO;obtain ⟨bm,b_⟩:∃ c,P5=c:=⟨_,rfl⟩;rw [b_];refine wp_loop bZ ?_;refine .intro (fun m T H=>T=GH 46 [(2,.ptr 0 0),(5,.ay [] 0 .full),(8,.func 98 [] [.ptr 0 0,.ptr c 0]),(9,.ay [hS s] 1 (.uniq 1)),(12,sl),(13,hS n),(14,hS i),(21,.ay [] 0 .full),(22,hS 0),(23,hS 0)]∧H=H1) 0 ⟨rfl,rfl⟩ ?_;clear bZ;rintro m T H ⟨rfl,rfl⟩;conv=>whnf
 exact av
def Km (tab:p3) (out:List (List Int)) (v5:I) (H:List au):Prop :=
 H[0]?=some (MQ tab)∧((out=[]∧v5=.ay [] 0 .full)∨∃ X:List au,0<X.length∧v5=.cn X.length (X.length+1) out.length 1∧H=X++[.grow (out.map jk) (X.length+1) 1,.dead])
theorem Km.mk' {tab:p3} {out:List (List Int)} {X:List au} (h:X[0]?=some (MQ tab)) {l:List I} (ak:l=out.map jk) {n:Nat} (aN:n=out.length):Km tab out (.cn X.length (X.length+1) n 1) (X++[.grow l (X.length+1) 1,.dead]):=by
 subst ak aN;have ad:=(rV.1 h).1;exact ⟨rD h,.inr ⟨X,ad,rfl,rfl⟩⟩
theorem rp {H:List au} {i j:Nat} {o c:au} (h:H[i]?=some o) (aN:j≠i):(H.set j c)[i]?=some o:=by rw [List.getElem?_set_ne aN];exact h
theorem WB {P:Program} {C:b8} {id n:Nat} {o:Oper} {x:Operand} {H:List au} (l:List Int) (aq:o.op=.move x) (aN:n=l.length) (ah:H[id]?=some (.cells (l.map hS))) :
  a9 P C 0 o 2 [.ref id 0 n none 1] H=some (jk l,H.set id .dead) :=
 aep (cs:=l.map hS) (sz:=1) aq (si _) ah aN (by simp) (aje (fun _=>rfl) _)
theorem XJ {tab:p3} {s:Int} {out rest:List (List Int)} {own:List Int} {v5:I} {H:List au} {i n:Nat} {sl:I} (cp:Km tab out v5 H) (rL:own.length≤12) (bO:own.length≠0) (hlen:out.length≤1000) (a0:Lr (fun r=>Mn r tab s) out=some rest)
  {v21 v22 v23 v24:I} {Q:cD→List I→List au→Prop} (av:∀ MT H' Uq I' Ja Jb Jc Jd Je Jf Jg,Km tab (rest++[rK own]) MT H'→Q .normal (GH 46 [(2,.ptr 0 0),(5,MT),(9,Uq),(12,sl),(13,hS n),(14,hS i),(21,v21),(22,v22),(23,v23),(24,v24),(34,I'),(35,Ja),(36,Jb),(37,Jc),(38,Jd),(39,Je),(40,Jf),(41,Jg)]) H') :
  dC Tryz.prog Mz 79 0 none P7 (GH 46 [(2,.ptr 0 0),(5,v5),(8,.func 98 [] [.ptr 0 0,.ptr H.length 0]),(9,.ay (own.map hS) own.length (.uniq 1)),(12,sl),(13,hS n),(14,hS i),(21,v21),(22,v22),(23,v23),(24,v24)]) (H++[.cells [hS s]]) Q:=by
 unfold P7;obtain ⟨bt,dZ⟩:∃ c,TX=c:=⟨_,rfl⟩;rw [dZ];obtain ⟨aT,cp⟩:=cp;have fD:=(rV.1 aT).1;conv=>whnf
 refine .inl ⟨bO,?_⟩;conv=>whnf
 refine ⟨_,_,qS (aio own (si _) rL rfl (JI _ _)),?_⟩;rw [Ig];conv=>whnf
 subst dZ;unfold TX;rcases cp with ⟨rfl,rfl⟩ | ⟨X,WQ,rfl,rfl⟩
 ·obtain rfl:rest=[]:=(Option.some.inj a0).symm;conv=>whnf
  refine ⟨_,_,qS adZ,?_⟩;conv=>whnf
  refine ⟨_,_,fun C=>WB (rK own) rfl (Qi own).symm (JI _ _),?_⟩;rw [Ig];conv=>whnf
  refine ⟨⟨rfl,by decide⟩,?_⟩;conv=>whnf
  refine ⟨⟨by decide,by decide,rfl⟩,?_⟩;conv=>whnf
  exact av _ _ _ _ _ _ _ _ _ _ _ (Km.mk' (rD (rD aT)) rfl rfl)
 ·conv=>whnf
  refine ⟨_,_,qS (ad0 (g:=X.length+1) (cs:=[.bW [LS tab],.bW [hS s]]) a0 (si _) (fun c=>V_ (rp (rD (rD aT)) (by omega)) (rp (rD (JI _ _)) (by simp))) rfl (V9 tab s) hlen rfl (fun _ _ ag=>aaZ ag) (rD (rD (HH _ _)))),?_⟩;conv=>whnf
  refine ⟨_,_,fun C=>WB (rK own) rfl (Qi own).symm (rp (JI _ _) (by simp <;> omega)),?_⟩;conv=>whnf
  refine ⟨⟨rfl,by decide⟩,?_⟩;conv=>whnf
  have aj:rest.length≤out.length:=by
   obtain ⟨p,_,e⟩:=Wh a0;rw [e];exact List.length_filter_le _ _
  refine ⟨⟨rfl,by decide,by omega⟩,?_⟩;conv=>whnf
  exact av _ _ _ _ _ _ _ _ _ _ _ (Km.mk' (rp (rp (rD (rD aT)) (by omega)) (by simp)) (by rw [List.map_append];rfl) (by simp))
theorem agR {tab:p3} {p':List Int} {XE:List (List Int)} {H:List au} (bD:H8 (NZ tab) p' []=some XE) (C':p'.length≤1000) (aT:H[0]?=some (MQ tab))
  {Q:cD→List I→List au→Prop} (av:∀ v5 H',Km tab XE v5 H'→Q (.exit 0) (GH 46 [(2,.ptr 0 0),(5,v5),(12,jk p'),(13,hS p'.length),(14,hS p'.length),(15,B (decide ((p'.length:Int)<(p'.length:Int))))]) H')
  {T:List I} (bZ:eS [false,false,true,false,false,true,false,false,false,false,false,false,true,true,true,false,false,false,false,false,false,false,false,false,false,false,false,false,false,false,false,false,false,false,false,false,false,false,false,false,false,false,false,false,false,false] T=GH 46 [(2,.ptr 0 0),(5,.ay [] 0 .full),(12,jk p'),(13,hS p'.length),(14,hS (0:Nat))]) :
  dC Tryz.prog Mz 79 0 none P6 T H Q:=by
 unfold P6;obtain ⟨fR,rJ⟩:∃ c,T0=c:=⟨_,rfl⟩;rw [rJ];refine wp_loop bZ ?_;obtain ⟨F,Ra,Fn,Rc⟩:=Pc bD;refine .intro (fun m T H=>∃ (i:Nat) (v5:I),i≤p'.length∧m=p'.length-i∧Km tab (F i) v5 H∧T=GH 46 [(2,.ptr 0 0),(5,v5),(12,jk p'),(13,hS p'.length),(14,hS i)]) p'.length ⟨0,_,by omega,by omega,⟨aT,.inl ⟨Ra,rfl⟩⟩,rfl⟩ ?_;clear bZ aT;rintro m T H ⟨i,v5,hi,rfl,cp,rfl⟩;conv=>whnf
 refine JF (fun aV=>?_) (fun aV=>?_)
 ·have aV:i<p'.length:=by omega
  obtain ⟨own,ns,aC⟩:=qi (Rc i aV);obtain ⟨⟨rL,bO,hlen⟩,aC⟩:=qw aC;obtain ⟨rest,a0,aC⟩:=qi aC;have aC:=Option.some.inj aC;conv=>whnf
  subst rJ;unfold T0;obtain ⟨dX,B2⟩:∃ c,TZ=c:=⟨_,rfl⟩;rw [B2];refine JQ fun mV I1=>?_;conv=>whnf
  refine ⟨by omega,?_⟩;conv=>whnf
  refine agx _ _ _ (aV) ?_;conv=>whnf
  refine DX (JI _ _) ?_;conv=>whnf
  rw [Ig];conv=>whnf
  subst B2;unfold TZ;obtain ⟨b9,hq⟩:∃ c,TY=c:=⟨_,rfl⟩;rw [hq];conv=>whnf
  refine DX (JI _ _) ?_;conv=>whnf
  subst hq;unfold TY;obtain ⟨adr,ME⟩:∃ c,MO=c:=⟨_,rfl⟩;obtain ⟨alE,RJ⟩:∃ c,P7=c:=⟨_,rfl⟩;rw [ME,RJ];have o2:=cp;obtain ⟨aT,cp⟩:=cp;rcases cp with ⟨aq,rfl⟩ | ⟨X,WQ,rfl,ah⟩
  ·(conv=>whnf);subst ME;have CT:own=[p'[i]]:=by
    rw [aq] at ns;exact (Option.some.inj ns).symm
   refine aeG (s:=p'[i]) (c:=H.length) (n:=p'.length) (i:=i) (sl:=jk p') ?_ (by exact rfl);(conv=>whnf);subst RJ;refine XJ (own:=own) (v5:=.ay [] 0 .full) o2 rL bO hlen a0 (v21:=.ay [] 0 .full) (v22:=hS 0) (v23:=hS 0) (v24:=B false) ?_ |> cast (by rw [CT];rfl)
   intro MT H' Uq I' Ja Jb Jc Jd Je Jf Jg RV;(conv=>whnf);refine I1 _ _ _ ?_;(conv=>whnf);exact ⟨p'.length-(i+1),by omega,i+1,MT,by omega,rfl,by rw [←aC];exact RV,by rw [←qU i (by omega)] <;> rfl⟩
  ·(conv=>whnf);subst ME;refine aeF (x:=X.length) (c:=H.length) (n:=p'.length) (i:=i) (sl:=jk p') ns hlen (rD (by rw [ah];exact HH _ _)) (rD aT) (JI _ _) ?_ (by exact rfl);(conv=>whnf);subst RJ;refine XJ (own:=own) o2 rL bO hlen a0 ?_;intro MT H' Uq I' Ja Jb Jc Jd Je Jf Jg RV;(conv=>whnf);refine I1 _ _ _ ?_;(conv=>whnf);exact ⟨p'.length-(i+1),by omega,i+1,MT,by omega,rfl,by rw [←aC];exact RV,by rw [←qU i (by omega)] <;> rfl⟩
 ·obtain rfl:i=p'.length:=by omega
  conv=>whnf
  exact av _ _ (by rw [←Fn];exact cp)
theorem ak4 {t:p3} {p':List Int} {v:List (List Int)} (h:Kh t p'=some v):qt 79 [LS t,.ay (p'.map hS) p'.length .shared] (.ay (v.map jk) v.length .shared):=by
 obtain ⟨C',h⟩:=qw h;obtain ⟨out,bD,h⟩:=qi h;obtain ⟨⟨rL,cU⟩,h⟩:=qw h;obtain rfl:=Option.some.inj h;refine qN dI afE rfl (rz (fun _=>(rz (fun _=>rfl) _ _ _)) _ _ _) fun Q bn=>?_;have jz:∀ T H,IW [.tmp 4] (.ay ((Iu out).map jk) (Iu out).length .shared) .ret T H→Q .ret T H:=fun T H bK=>bn _ T H bK;unfold Yw;obtain ⟨m3,rA⟩:∃ c,T2=c:=⟨_,rfl⟩;rw [rA];conv=>whnf
 subst rA;unfold T2;obtain ⟨adr,ME⟩:∃ c,P6=c:=⟨_,rfl⟩;obtain ⟨m2,Hd⟩:∃ c,T1=c:=⟨_,rfl⟩;rw [ME,Hd];conv=>whnf
 subst ME;refine agR (tab:=t) bD C' rfl ?_ (by exact rfl);intro v5 H' cp;conv=>whnf
 subst Hd;unfold T1;obtain ⟨aT,cp⟩:=cp;rcases cp with ⟨rfl,rfl⟩ | ⟨X,WQ,rfl,rfl⟩
 ·have e:Iu []=[]:=List.eq_nil_of_length_eq_zero (by rw [Um];rfl);rw [e] at jz;conv=>whnf
  refine ⟨_,_,qS air,?_⟩;conv=>whnf
  refine ⟨_,_,fun C=>rfl,?_⟩;conv=>whnf
  exact jz _ _ ⟨.inr rfl,_,rfl,_,oV rfl,rfl⟩
 ·conv=>whnf
  refine ⟨_,_,qS (aiv out (si _) rL cU rfl (HH X _)),?_⟩;rw [Jw];conv=>whnf
  refine ⟨_,_,fun C=>RH rfl (si _) (HH X _) (by rw [List.length_map,Um,Nat.mul_one]),?_⟩;rw [Qp (fun _=>rfl),Jw];conv=>whnf
  rw [Um] at jz;exact jz _ _ ⟨.inr rfl,_,rfl,_,oV (rz (fun _=>(rz (fun _=>rfl) _ _ _)) _ _ _),rfl⟩
end Go.Proofs.YtfakoboiahbhaaaGreat.Ab


namespace Go.Proofs.YtfakoboiahbhaaaGreat.Ab
open Go
def YZ:qu:=.pure 100 [.bW [.int .i64 4,.ay [.int .i64 0,.int .i64 1,.int .i64 1,.int .i64 2,.int .i64 2,.int .i64 0,.int .i64 2,.int .i64 3] 4 .shared],.int .i64 0,.int .i64 0] (.bool true)
theorem aiB:qF Go.Proofs.Tryz.prog YZ:=rG (p:=16) (by kernel_rfl)
def Y0:qu:=.pure 100 [.bW [.int .i64 4,.ay [.int .i64 0,.int .i64 1,.int .i64 1,.int .i64 2,.int .i64 2,.int .i64 0,.int .i64 2,.int .i64 3] 4 .shared],.int .i64 0,.int .i64 1] (.bool true)
theorem aiC:qF Go.Proofs.Tryz.prog Y0:=rG (p:=16) (by kernel_rfl)
def Y1:qu:=.pure 100 [.bW [.int .i64 4,.ay [.int .i64 0,.int .i64 1,.int .i64 1,.int .i64 2,.int .i64 2,.int .i64 0,.int .i64 2,.int .i64 3] 4 .shared],.int .i64 0,.int .i64 2] (.bool true)
theorem aiD:qF Go.Proofs.Tryz.prog Y1:=rG (p:=16) (by kernel_rfl)
def Y2:qu:=.pure 100 [.bW [.int .i64 4,.ay [.int .i64 0,.int .i64 1,.int .i64 1,.int .i64 2,.int .i64 2,.int .i64 0,.int .i64 2,.int .i64 3] 4 .shared],.int .i64 0,.int .i64 3] (.bool false)
theorem aiE:qF Go.Proofs.Tryz.prog Y2:=rG (p:=16) (by kernel_rfl)
def Y3:qu:=.pure 100 [.bW [.int .i64 4,.ay [.int .i64 0,.int .i64 1,.int .i64 1,.int .i64 2,.int .i64 2,.int .i64 0,.int .i64 2,.int .i64 3] 4 .shared],.int .i64 1,.int .i64 0] (.bool true)
theorem aiF:qF Go.Proofs.Tryz.prog Y3:=rG (p:=16) (by kernel_rfl)
def Y4:qu:=.pure 100 [.bW [.int .i64 4,.ay [.int .i64 0,.int .i64 1,.int .i64 1,.int .i64 2,.int .i64 2,.int .i64 0,.int .i64 2,.int .i64 3] 4 .shared],.int .i64 1,.int .i64 1] (.bool true)
theorem aiG:qF Go.Proofs.Tryz.prog Y4:=rG (p:=16) (by kernel_rfl)
def Y5:qu:=.pure 100 [.bW [.int .i64 4,.ay [.int .i64 0,.int .i64 1,.int .i64 1,.int .i64 2,.int .i64 2,.int .i64 0,.int .i64 2,.int .i64 3] 4 .shared],.int .i64 1,.int .i64 2] (.bool true)
theorem aiH:qF Go.Proofs.Tryz.prog Y5:=rG (p:=16) (by kernel_rfl)
def Y6:qu:=.pure 100 [.bW [.int .i64 4,.ay [.int .i64 0,.int .i64 1,.int .i64 1,.int .i64 2,.int .i64 2,.int .i64 0,.int .i64 2,.int .i64 3] 4 .shared],.int .i64 1,.int .i64 3] (.bool true)
theorem aiI:qF Go.Proofs.Tryz.prog Y6:=rG (p:=16) (by kernel_rfl)
def Y7:qu:=.pure 100 [.bW [.int .i64 4,.ay [.int .i64 0,.int .i64 1,.int .i64 1,.int .i64 2,.int .i64 2,.int .i64 0,.int .i64 2,.int .i64 3] 4 .shared],.int .i64 2,.int .i64 0] (.bool true)
theorem aiJ:qF Go.Proofs.Tryz.prog Y7:=rG (p:=16) (by kernel_rfl)
def Y8:qu:=.pure 100 [.bW [.int .i64 4,.ay [.int .i64 0,.int .i64 1,.int .i64 1,.int .i64 2,.int .i64 2,.int .i64 0,.int .i64 2,.int .i64 3] 4 .shared],.int .i64 2,.int .i64 1] (.bool true)
theorem aiK:qF Go.Proofs.Tryz.prog Y8:=rG (p:=16) (by kernel_rfl)
def Y9:qu:=.pure 100 [.bW [.int .i64 4,.ay [.int .i64 0,.int .i64 1,.int .i64 1,.int .i64 2,.int .i64 2,.int .i64 0,.int .i64 2,.int .i64 3] 4 .shared],.int .i64 2,.int .i64 2] (.bool true)
theorem aiL:qF Go.Proofs.Tryz.prog Y9:=rG (p:=16) (by kernel_rfl)
def Y_:qu:=.pure 100 [.bW [.int .i64 4,.ay [.int .i64 0,.int .i64 1,.int .i64 1,.int .i64 2,.int .i64 2,.int .i64 0,.int .i64 2,.int .i64 3] 4 .shared],.int .i64 2,.int .i64 3] (.bool true)
theorem aiM:qF Go.Proofs.Tryz.prog Y_:=rG (p:=16) (by kernel_rfl)
def Y':qu:=.pure 100 [.bW [.int .i64 4,.ay [.int .i64 0,.int .i64 1,.int .i64 1,.int .i64 2,.int .i64 2,.int .i64 0,.int .i64 2,.int .i64 3] 4 .shared],.int .i64 3,.int .i64 0] (.bool false)
theorem aiN:qF Go.Proofs.Tryz.prog Y':=rG (p:=16) (by kernel_rfl)
def Za:qu:=.pure 100 [.bW [.int .i64 4,.ay [.int .i64 0,.int .i64 1,.int .i64 1,.int .i64 2,.int .i64 2,.int .i64 0,.int .i64 2,.int .i64 3] 4 .shared],.int .i64 3,.int .i64 1] (.bool true)
theorem aiO:qF Go.Proofs.Tryz.prog Za:=rG (p:=16) (by kernel_rfl)
def Zb:qu:=.pure 100 [.bW [.int .i64 4,.ay [.int .i64 0,.int .i64 1,.int .i64 1,.int .i64 2,.int .i64 2,.int .i64 0,.int .i64 2,.int .i64 3] 4 .shared],.int .i64 3,.int .i64 2] (.bool true)
theorem aiP:qF Go.Proofs.Tryz.prog Zb:=rG (p:=16) (by kernel_rfl)
def Zc:qu:=.pure 100 [.bW [.int .i64 4,.ay [.int .i64 0,.int .i64 1,.int .i64 1,.int .i64 2,.int .i64 2,.int .i64 0,.int .i64 2,.int .i64 3] 4 .shared],.int .i64 3,.int .i64 3] (.bool true)
theorem aiQ:qF Go.Proofs.Tryz.prog Zc:=rG (p:=16) (by kernel_rfl)
def Ze:qu:=.pure 100 [.bW [.int .i64 5,.ay [.int .i64 0,.int .i64 1,.int .i64 2,.int .i64 3,.int .i64 4,.int .i64 4] 3 .shared],.int .i64 0,.int .i64 0] (.bool true)
theorem aiU:qF Go.Proofs.Tryz.prog Ze:=rG (p:=16) (by kernel_rfl)
def Zf:qu:=.pure 100 [.bW [.int .i64 5,.ay [.int .i64 0,.int .i64 1,.int .i64 2,.int .i64 3,.int .i64 4,.int .i64 4] 3 .shared],.int .i64 0,.int .i64 1] (.bool false)
theorem aiV:qF Go.Proofs.Tryz.prog Zf:=rG (p:=16) (by kernel_rfl)
def Zg:qu:=.pure 100 [.bW [.int .i64 5,.ay [.int .i64 0,.int .i64 1,.int .i64 2,.int .i64 3,.int .i64 4,.int .i64 4] 3 .shared],.int .i64 0,.int .i64 2] (.bool false)
theorem aiW:qF Go.Proofs.Tryz.prog Zg:=rG (p:=16) (by kernel_rfl)
def Zh:qu:=.pure 100 [.bW [.int .i64 5,.ay [.int .i64 0,.int .i64 1,.int .i64 2,.int .i64 3,.int .i64 4,.int .i64 4] 3 .shared],.int .i64 1,.int .i64 0] (.bool false)
theorem aiX:qF Go.Proofs.Tryz.prog Zh:=rG (p:=16) (by kernel_rfl)
def Zi:qu:=.pure 100 [.bW [.int .i64 5,.ay [.int .i64 0,.int .i64 1,.int .i64 2,.int .i64 3,.int .i64 4,.int .i64 4] 3 .shared],.int .i64 1,.int .i64 1] (.bool true)
theorem aiY:qF Go.Proofs.Tryz.prog Zi:=rG (p:=16) (by kernel_rfl)
def Zj:qu:=.pure 100 [.bW [.int .i64 5,.ay [.int .i64 0,.int .i64 1,.int .i64 2,.int .i64 3,.int .i64 4,.int .i64 4] 3 .shared],.int .i64 1,.int .i64 2] (.bool false)
theorem aiZ:qF Go.Proofs.Tryz.prog Zj:=rG (p:=16) (by kernel_rfl)
def Zk:qu:=.pure 100 [.bW [.int .i64 5,.ay [.int .i64 0,.int .i64 1,.int .i64 2,.int .i64 3,.int .i64 4,.int .i64 4] 3 .shared],.int .i64 2,.int .i64 0] (.bool false)
theorem ai0:qF Go.Proofs.Tryz.prog Zk:=rG (p:=16) (by kernel_rfl)
def Zl:qu:=.pure 100 [.bW [.int .i64 5,.ay [.int .i64 0,.int .i64 1,.int .i64 2,.int .i64 3,.int .i64 4,.int .i64 4] 3 .shared],.int .i64 2,.int .i64 1] (.bool false)
theorem ai1:qF Go.Proofs.Tryz.prog Zl:=rG (p:=16) (by kernel_rfl)
def Zm:qu:=.pure 100 [.bW [.int .i64 5,.ay [.int .i64 0,.int .i64 1,.int .i64 2,.int .i64 3,.int .i64 4,.int .i64 4] 3 .shared],.int .i64 2,.int .i64 2] (.bool true)
theorem ai2:qF Go.Proofs.Tryz.prog Zm:=rG (p:=16) (by kernel_rfl)
def Zn:qu:=.pure 100 [.bW [.int .i64 2,.ay [.int .i64 0,.int .i64 1,.int .i64 1,.int .i64 0] 2 .shared],.int .i64 0,.int .i64 0] (.bool true)
theorem ai3:qF Go.Proofs.Tryz.prog Zn:=rG (p:=16) (by kernel_rfl)
def Zo:qu:=.pure 100 [.bW [.int .i64 2,.ay [.int .i64 0,.int .i64 1,.int .i64 1,.int .i64 0] 2 .shared],.int .i64 0,.int .i64 1] (.bool true)
theorem ai4:qF Go.Proofs.Tryz.prog Zo:=rG (p:=16) (by kernel_rfl)
def Zp:qu:=.pure 100 [.bW [.int .i64 2,.ay [.int .i64 0,.int .i64 1,.int .i64 1,.int .i64 0] 2 .shared],.int .i64 1,.int .i64 0] (.bool true)
theorem ai5:qF Go.Proofs.Tryz.prog Zp:=rG (p:=16) (by kernel_rfl)
def Zq:qu:=.pure 100 [.bW [.int .i64 2,.ay [.int .i64 0,.int .i64 1,.int .i64 1,.int .i64 0] 2 .shared],.int .i64 1,.int .i64 1] (.bool true)
theorem ai6:qF Go.Proofs.Tryz.prog Zq:=rG (p:=16) (by kernel_rfl)
def Zv:List qu:=[YZ,Y0,Y1,Y2,Y3,Y4,Y5,Y6,Y7,Y8,Y9,Y_,Y',Za,Zb,Zc,Ze,Zf,Zg,Zh,Zi,Zj,Zk,Zl,Zm,Zn,Zo,Zp,Zq]
theorem Hh:∀ e∈Zv,qF Go.Proofs.Tryz.prog e:=by
 simp only [Zv,List.forall_mem_cons];exact ⟨aiB,aiC,aiD,aiE,aiF,aiG,aiH,aiI,aiJ,aiK,aiL,aiM,aiN,aiO,aiP,aiQ,aiU,aiV,aiW,aiX,aiY,aiZ,ai0,ai1,ai2,ai3,ai4,ai5,ai6,by simp⟩
end Go.Proofs.YtfakoboiahbhaaaGreat.Ab


namespace Go.Proofs.YtfakoboiahbhaaaGreat.Ab
open Go
def bE:qu:=.pure 18 [.agg [.int .i64 4,.ay [.int .i64 0,.int .i64 1,.int .i64 1,.int .i64 2,.int .i64 2,.int .i64 0,.int .i64 2,.int .i64 3] 4 .shared],.ay [.int .i64 0,.int .i64 0,.int .i64 1,.int .i64 0,.int .i64 3,.int .i64 0] 3 .shared] (.tuple [.int .i64 0,.int .i64 3,.int .i64 0])
theorem ajs:qF Go.Proofs.Tryz.prog bE:=GO Hh (by kernel_rfl)
def bV:qu:=.pure 18 [.agg [.int .i64 4,.ay [.int .i64 0,.int .i64 1,.int .i64 1,.int .i64 2,.int .i64 2,.int .i64 0,.int .i64 2,.int .i64 3] 4 .shared],.ay [.int .i64 0,.int .i64 0,.int .i64 1,.int .i64 0,.int .i64 2,.int .i64 0,.int .i64 0,.int .i64 0] 4 .shared] (.tuple [.int .i64 0,.int .i64 0,.int .i64 11])
theorem ajx:qF Go.Proofs.Tryz.prog bV:=GO Hh (by kernel_rfl)
def rv:qu:=.pure 18 [.agg [.int .i64 4,.ay [.int .i64 0,.int .i64 1,.int .i64 1,.int .i64 2,.int .i64 2,.int .i64 0,.int .i64 2,.int .i64 3] 4 .shared],.ay [.int .i64 0,.int .i64 0,.int .i64 2,.int .i64 0] 2 .shared] (.tuple [.int .i64 0,.int .i64 0,.int .i64 27])
theorem ajy:qF Go.Proofs.Tryz.prog rv:=GO Hh (by kernel_rfl)
def Jy:qu:=.pure 18 [.agg [.int .i64 4,.ay [.int .i64 0,.int .i64 1,.int .i64 1,.int .i64 2,.int .i64 2,.int .i64 0,.int .i64 2,.int .i64 3] 4 .shared],.ay [.int .i64 0,.int .i64 0,.int .i64 4,.int .i64 0] 2 .shared] (.tuple [.int .i64 0,.int .i64 0,.int .i64 3])
theorem ajz:qF Go.Proofs.Tryz.prog Jy:=GO Hh (by kernel_rfl)
def MV:qu:=.pure 18 [.agg [.int .i64 4,.ay [.int .i64 0,.int .i64 1,.int .i64 1,.int .i64 2,.int .i64 2,.int .i64 0,.int .i64 2,.int .i64 3] 4 .shared],.ay [] 0 .shared] (.tuple [.int .i64 0,.int .i64 0,.int .i64 6])
theorem ajA:qF Go.Proofs.Tryz.prog MV:=GO Hh (by kernel_rfl)
def Jh:qu:=.pure 25 [.agg [.int .i64 4,.ay [.int .i64 0,.int .i64 1,.int .i64 1,.int .i64 2,.int .i64 2,.int .i64 0,.int .i64 2,.int .i64 3] 4 .shared],.ay [.ay [.int .i64 0,.int .i64 0,.int .i64 1,.int .i64 0,.int .i64 3,.int .i64 0] 3 .shared,.ay [.int .i64 2,.int .i64 0] 1 .shared] 2 .shared] (.tuple [.int .i64 2,.int .i64 0])
theorem ajB:qF Go.Proofs.Tryz.prog Jh:=GO Hh (by kernel_rfl)
def ZN:qu:=.pure 25 [.agg [.int .i64 4,.ay [.int .i64 0,.int .i64 1,.int .i64 1,.int .i64 2,.int .i64 2,.int .i64 0,.int .i64 2,.int .i64 3] 4 .shared],.ay [.ay [.int .i64 0,.int .i64 0,.int .i64 1,.int .i64 0,.int .i64 3,.int .i64 0] 3 .shared] 1 .shared] (.tuple [.int .i64 0,.int .i64 15])
theorem ajC:qF Go.Proofs.Tryz.prog ZN:=GO Hh (by kernel_rfl)
def ZO:qu:=.pure 25 [.agg [.int .i64 4,.ay [.int .i64 0,.int .i64 1,.int .i64 1,.int .i64 2,.int .i64 2,.int .i64 0,.int .i64 2,.int .i64 3] 4 .shared],.ay [.ay [.int .i64 0,.int .i64 0,.int .i64 1,.int .i64 0,.int .i64 3,.int .i64 0] 3 .shared,.ay [.int .i64 2,.int .i64 0,.int .i64 0,.int .i64 0] 2 .shared] 2 .shared] (.tuple [.int .i64 0,.int .i64 11])
theorem ajD:qF Go.Proofs.Tryz.prog ZO:=GO Hh (by kernel_rfl)
def ZP:qu:=.pure 22 [.agg [.int .i64 2,.ay [.int .i64 0,.int .i64 1,.int .i64 1,.int .i64 0] 2 .shared],.ay [.int .i64 0,.int .i64 0,.int .i64 1,.int .i64 0] 2 .shared] (.int .i64 0)
theorem ajE:qF Go.Proofs.Tryz.prog ZP:=GO Hh (by kernel_rfl)
def Zz:qu:=.pure 22 [.agg [.int .i64 2,.ay [.int .i64 0,.int .i64 1,.int .i64 1,.int .i64 0] 2 .shared],.ay [.int .i64 0,.int .i64 0] 1 .shared] (.int .i64 15)
theorem aji:qF Go.Proofs.Tryz.prog Zz:=GO Hh (by kernel_rfl)
def ZA:qu:=.pure 27 [.agg [.int .i64 4,.ay [.int .i64 0,.int .i64 1,.int .i64 1,.int .i64 2,.int .i64 2,.int .i64 0,.int .i64 2,.int .i64 3] 4 .shared]] (.tuple [.ay [.int .i64 2,.int .i64 3] 2 .full,.int .i64 0])
theorem ajj:qF Go.Proofs.Tryz.prog ZA:=GO Hh (by kernel_rfl)
def ZB:qu:=.pure 29 [.agg [.int .i64 5,.ay [.int .i64 0,.int .i64 1,.int .i64 2,.int .i64 3,.int .i64 4,.int .i64 4] 3 .shared]] (.tuple [.ay [.ay [.int .i64 0] 1 .shared,.ay [.int .i64 1] 1 .shared,.ay [.int .i64 2] 1 .shared] 3 .shared,.int .i64 0])
theorem ajk:qF Go.Proofs.Tryz.prog ZB:=GO Hh (by kernel_rfl)
def ZC:qu:=.pure 35 [.agg [.int .i64 5,.ay [.int .i64 0,.int .i64 1,.int .i64 2,.int .i64 3,.int .i64 4,.int .i64 4] 3 .shared]] (.tuple [.int .i64 3,.int .i64 0])
theorem ajl:qF Go.Proofs.Tryz.prog ZC:=GO Hh (by kernel_rfl)
def ZD:qu:=.pure 41 [.agg [.int .i64 5,.ay [.int .i64 0,.int .i64 1,.int .i64 2,.int .i64 3,.int .i64 4,.int .i64 4] 3 .shared]] (.tuple [.ay [.ay [.int .i64 0,.int .i64 0] 1 .shared,.ay [.int .i64 1,.int .i64 0] 1 .shared,.ay [.int .i64 2,.int .i64 0] 1 .shared] 3 .shared,.int .i64 0])
theorem ajm:qF Go.Proofs.Tryz.prog ZD:=GO Hh (by kernel_rfl)
def ZF:qu:=.pure 37 [.agg [.int .i64 5,.ay [.int .i64 0,.int .i64 1,.int .i64 2,.int .i64 3,.int .i64 4,.int .i64 4] 3 .shared]] (.tuple [.ay [] 0 .shared,.int .i64 27])
theorem ajo:qF Go.Proofs.Tryz.prog ZF:=GO Hh (by kernel_rfl)
def ZG:qu:=.pure 42 [.agg [.int .i64 2,.ay [.int .i64 0,.int .i64 1,.int .i64 1,.int .i64 0] 2 .shared]] (.tuple [.ay [.int .i64 0,.int .i64 0,.int .i64 1,.int .i64 0] 2 .shared,.int .i64 0])
theorem ajp:qF Go.Proofs.Tryz.prog ZG:=GO Hh (by kernel_rfl)
def ZI:qu:=.pure 39 [.agg [.int .i64 5,.ay [.int .i64 0,.int .i64 1,.int .i64 2,.int .i64 3,.int .i64 4,.int .i64 4] 3 .shared]] (.tuple [.int .i64 3,.int .i64 0])
theorem ajr:qF Go.Proofs.Tryz.prog ZI:=GO Hh (by kernel_rfl)
def ZJ:qu:=.pure 31 [.agg [.int .i64 4,.ay [.int .i64 0,.int .i64 1,.int .i64 1,.int .i64 2,.int .i64 2,.int .i64 0,.int .i64 2,.int .i64 3] 4 .shared]] (.tuple [.ay [.int .i64 3] 1 .shared,.int .i64 0])
theorem ajt:qF Go.Proofs.Tryz.prog ZJ:=GO Hh (by kernel_rfl)
def ZK:qu:=.pure 45 [.agg [.int .i64 4,.ay [.int .i64 0,.int .i64 1,.int .i64 1,.int .i64 2,.int .i64 2,.int .i64 0,.int .i64 2,.int .i64 3] 4 .shared],.int .i64 0,.int .i64 3] (.tuple [.ay [.int .i64 2,.int .i64 1,.int .i64 3,.int .i64 0] 2 .shared,.int .i64 0])
theorem aju:qF Go.Proofs.Tryz.prog ZK:=GO Hh (by kernel_rfl)
def ZL:qu:=.pure 45 [.agg [.int .i64 4,.ay [.int .i64 0,.int .i64 1,.int .i64 1,.int .i64 2,.int .i64 2,.int .i64 0,.int .i64 2,.int .i64 3] 4 .shared],.int .i64 1,.int .i64 1] (.tuple [.ay [] 0 .shared,.int .i64 2])
theorem ajv:qF Go.Proofs.Tryz.prog ZL:=GO Hh (by kernel_rfl)
def ZM:qu:=.pure 45 [.agg [.int .i64 5,.ay [.int .i64 0,.int .i64 1,.int .i64 2,.int .i64 3,.int .i64 4,.int .i64 4] 3 .shared],.int .i64 0,.int .i64 2] (.tuple [.ay [] 0 .shared,.int .i64 5])
theorem ajw:qF Go.Proofs.Tryz.prog ZM:=GO Hh (by kernel_rfl)
end Go.Proofs.YtfakoboiahbhaaaGreat.Ab
