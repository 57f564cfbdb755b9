
import Derived.Test.YtfakoboiahbhaaaGreatJp4
import Derived.Test.YtfakoboiahbhaaaGreatJp5
import Derived.Test.YtfakoboiahbhaaaGreatJp8
import Derived.KernelRfl
import Derived.Test.YtfakoboiahbhaaaGreatProg
set_option linter.unusedSimpArgs false
set_option linter.unusedVariables false
set_option linter.unusedSectionVars false

namespace Go.Proofs.YtfakoboiahbhaaaGreat.Ab
open Go
set_option maxRecDepth 20000
set_option maxHeartbeats 4000000

def N2:c':={ ops:=[[{ cx:=[true] }],[{},{ mode:=3 },{ cx:=[true] }],[],[],[],[{},{},{ cx:=[true] },{ cx:=[true] },{ cx:=[true,true] }],[{ cx:=[true] },{ cx:=[true] },{ cx:=[true] }],[],[],[{},{},{ cx:=[true] },{ cx:=[true,true] }],[{ cx:=[true] },{ cx:=[true] },{ cx:=[true] }],[{},{},{ cx:=[true,true] },{ cx:=[true] },{},{},{ cx:=[true] },{},{ cx:=[true,true] },{ cx:=[true] },{ cx:=[true] },{ cx:=[true,true] },{ cx:=[true] },{ cx:=[true,true] }],[{},{ cx:=[true] }],[{},{ cx:=[true] }],[{ cx:=[true] },{},{},{ cx:=[true] },{},{ cx:=[true,true] },{ cx:=[true] },{ cx:=[true] },{ cx:=[true,true] },{ cx:=[true] },{ cx:=[true] },{ cx:=[true,true] },{ cx:=[true] }],[{ cx:=[true] },{},{ cx:=[true],mode:=1 },{ cx:=[true] },{ cx:=[true,true],mode:=1 },{ cx:=[true] }],[{},{},{},{ cx:=[true] },{ cx:=[true,true] },{ cx:=[true],mode:=1 },{},{ cx:=[true] },{ cx:=[true,true] },{ cx:=[true,true] },{ cx:=[true,true] }],[{ cx:=[true],mode:=2 },{ cx:=[true] }]],hW:=[(0,(DX false [1,1,1,4,62])),(2,(DX false [1,1,1,6,60]))] }
noncomputable def Le:eM :=
 .loop (some (DX false [1,1,1,6,60])) (.seq (FY [FN 18 8,FN 19 5,FK 20 19,Fo 21 18 20 .lss] (.cond (.sl 21) .skip (.exit 2))) (.seq (.block 3 (.seq (FT [FN 24 5,FN 25 8,FH 26 24 25 1,FL 27 26,FN 28 3,gO 29 [.sl 1] (.ov 1),FL 30 29,FN 31 6,FH 32 30 31 2,Fu 33 32 0,FL 34 33,FH 35 28 34 1,FL 36 35,Fo 37 27 36 .eql]) (.cond (.sl 37) (FR [FN 38 8,FO 7 38]) .skip))) (FR [FO 22 8,Fk 23 22 1,FO 8 23])))
noncomputable def PY:eM :=
 .loop (some (DX false [1,1,1,4,62])) (.seq (FY [FN 11 6,gO 12 [.sl 1] (.ov 1),FL 13 12,FK 14 13,Fo 15 11 14 .lss] (.cond (.sl 15) .skip (.exit 0))) (.seq (.block 1 (FY [FM 7 (-1)] (.seq (FY [FM 8 0] (.block 2 Le)) (.seq (FY [FN 39 7,Fm 40 39 0 .lss] (.cond (.sl 40) (FY [FO 41 5,FN 42 3,gO 43 [.sl 1] (.ov 1),FL 44 43,FN 45 6,FH 46 44 45 2,Fu 47 46 0,FL 48 47,FH 49 42 48 1,FL 50 49,gO 51 [.hD 50] (.xG 1 1 [.int .i64 0] [0]),gO 52 [.hA 41,.hA 51] (.app 1 8),FO 5 52] (FY [FO 53 4,FN 54 6,gO 55 [.hD 54] (.xF 1 1 [.int .i64 0] [0]),gO 56 [.hD 55] (.xG 1 1 [.ax [] 0 .full] [0]),gO 57 [.hA 53,.hA 56] (.xx 1 24),FO 4 57] (.exit 1))) .skip)) (FR [FN 58 4,FN 59 7,FN 60 4,FO 61 7,FH 62 60 61 1,gO 63 [.hD 62] .take,FN 64 6,gO 65 [.hD 64] (.xG 1 1 [.int .i64 0] [0]),gO 66 [.hA 63,.hA 65] (.app 1 8),FH 67 58 59 1,⟨none,[.hA 67,.hA 66],none,none,.st 1⟩]))))) (FR [FO 16 6,Fk 17 16 1,FO 6 17])))
noncomputable def aap:eM :=
 FY [gO 1 [.hA 0] .box, gO 2 [.ij (.ax [] 0 .full)] (.nil 1)] (FY [gO 9 [.sl 1] (.px (.str 2)), gO 10 [.ij (.func 56 [] []), .sl 9, .ij (.int .i64 (-1))] (.call 3), FO 3 10] (FY [gO 4 [.ij (.ax [] 0 .full)] (.nil 1)] (FY [gO 5 [.ij (.ax [] 0 .full)] (.nil 1)] (.seq (FY [FM 6 0] (.block 0 PY)) (FY [⟨some 68, [.hA 4], none, some 4, .other (Oper.mk (some 68) (Op.move (Operand.tmp 4)) 41 "ref.go:180" (Array.mk []) none) 2⟩, FO 2 68] .ret)))))
theorem afd:yQ Tryz.prog N2 80=some (aap,69,[.tmp 2]):=by kernel_rfl
def NP (qh:Unit→Option rX):Nat→Option rX
 | 0=>none
 | m+1 =>
   if (decide ((0:Int)<((0:Nat):Int)))=true then
    none
   else
    qh ()
def J6 (b:qn) (aR s1:qa) (s2:Int) (q5:Int→Option rX):Nat→Int→Int→Option rX
 | 0,_,_=>none
 | m+1,qk,qc =>
   if (decide (qc<(s1.length:Int)))=true then
    qd (0≤qc∧qc<(s1.length:Int)) <|
    qd (0≤s2∧s2<(b.2.length:Int)) <|
    qd (0≤(ix b.2 s2).1∧(ix b.2 s2).1<(aR.length:Int)) <|
    if (decide ((ix s1 qc)=(ix aR ((ix b.2 s2).1))))=true then
     J6 b aR s1 s2 q5 m qc (w (qc+(1:Int)))
    else
     J6 b aR s1 s2 q5 m qk (w (qc+(1:Int)))
   else
    q5 qk
def Ic (b:qn) (aR:qa) (qK:rX→Option rX):Nat→qa→Int→rX→Option rX
 | 0,_,_,_=>none
 | m+1,s1,s2,nL =>
   if (decide (s2<(b.2.length:Int)))=true then
    J6 b aR s1 s2 (fun xt =>
      if (decide (xt<(0:Int)))=true then
       qd (0≤s2∧s2<(b.2.length:Int)) <|
       qd (0≤(ix b.2 s2).1∧(ix b.2 s2).1<(aR.length:Int)) <|
       qd ((s1.length+1)*8≤140737488355328) <|
       qd ((nL.length+1)*24≤140737488355328) <|
       Ic b aR qK m (s1++[(ix aR ((ix b.2 s2).1))]) (w (s2+(1:Int))) (nL++[[s2]])
      else
       qd (0≤xt∧xt<(nL.length:Int)) <|
       if (decide ((ix nL xt).length=1))=true then
        qd (((ix nL xt).length+1)*8≤140737488355328) <|
        qd (0≤xt∧xt<(nL.length:Int)) <|
        Ic b aR qK m s1 (w (s2+(1:Int))) (nL.set xt.toNat ((ix nL xt)++[s2]))
       else
        qd ((ix nL xt).length≠0) <|
        qd (((ix nL xt).length+1)*8≤140737488355328) <|
        qd (0≤xt∧xt<(nL.length:Int)) <|
        Ic b aR qK m s1 (w (s2+(1:Int))) (nL.set xt.toNat ((ix nL xt)++[s2]))) p' (-1:Int) (0:Int)
   else
    qK nL
def L_ (b:qn):Option rX :=
 (NL b (-1:Int)).bind fun aR =>
 if (decide ((0:Int)<(b.2.length:Int)))=true then
  NP (fun _ =>
    qd (0≤(0:Int)∧(0:Int)<(b.2.length:Int)) <|
    qd (0≤(ix b.2 (0:Int)).1∧(ix b.2 (0:Int)).1<(aR.length:Int)) <|
    qd ((([]:List Int).length+1)*8≤140737488355328) <|
    Ic b aR (fun n0 =>
      some n0) p' ([]++[(ix aR ((ix b.2 (0:Int)).1))]) (w ((0:Int)+(1:Int))) ([[(0:Int)]])) p'
 else
  some []
theorem ajT {qh:Unit→Option rX} {b:qn} {aR:qa} {v:rX} {Q:ra}   (rf:∀ (p_:List I),qh ()=some v→qV 69 [(1,(.ptr 0 0)),(3,(qq aR .shared)),(4,(.ax [] 0 (.uniq 1))),(5,(.ax [] 0 (.own 1))),(6,(hG (0:Int))),(7,(hG (-1:Int)))] p_→Q (.exit 2) p_ [qv b]) {T:List I} (bW:eL (DX false [1,1,1,6,60]) T=F2 69 [(1,(.ptr 0 0)),(3,(qq aR .shared)),(4,(.ax [] 0 (.uniq 1))),(5,(.ax [] 0 (.uniq 1))),(6,(hG (0:Int))),(7,(hG (-1:Int))),(8,(hG (0:Int)))]) (h:NP qh p'  = some v) :
  dB Tryz.prog N2 80 0 none Le T [qv b] Q:=by
 unfold Le;refine wp_loop bW ?_;refine .intro (fun m T H=>T=F2 69 [(1,(.ptr 0 0)),(3,(qq aR .shared)),(4,(.ax [] 0 (.uniq 1))),(5,(.ax [] 0 (.uniq 1))),(6,(hG (0:Int))),(7,(hG (-1:Int))),(8,(hG (0:Int)))]∧H=[qv b]∧NP qh m  = some v) p' ⟨rfl,rfl,h⟩ ?_;clear h bW;rintro m T H ⟨rfl,rfl,h⟩;cases m
 ·exact q3 h
 rename_i m;rw [NP.eq_2] at h;conv=>whnf
 refine bs h (fun qu h=>?_) fun qu h=>?_
 ·rw [qu];conv=>whnf
  exact q3 h
 ·rw [qu];conv=>whnf
  exact rf  _ h ⟨rfl,rfl⟩
theorem ajV {b:qn} {aR:qa} {s1:qa} {s2:Int} {q5:Int→Option rX} {qk:Int} {qc:Int} {nL:rX} {v:rX} {Q:ra}  {Gs:List au} (Hn:∀ (xt:Int) (p_:List I),q5 xt=some v→qV 69 [(1,(.ptr 0 0)),(3,(qq aR .shared)),(4,(.cf (qv b::Gs).length ((qv b::Gs).length+1) nL.length 1)),(5,(qq s1 (.own 1))),(6,(hG s2)),(7,(hG xt))] p_→Q (.exit 2) p_ ((qv b::Gs)++[au.grow (nL.map He) ((qv b::Gs).length+1) 1,au.dead])) {T:List I} (bW:eL (DX false [1,1,1,6,60]) T=F2 69 [(1,(.ptr 0 0)),(3,(qq aR .shared)),(4,(.cf (qv b::Gs).length ((qv b::Gs).length+1) nL.length 1)),(5,(qq s1 (.own 1))),(6,(hG s2)),(7,(hG qk)),(8,(hG qc))]) (h:J6 b aR s1 s2 q5 p' qk qc=some v) :
  dB Tryz.prog N2 80 0 none Le T ((qv b::Gs)++[au.grow (nL.map He) ((qv b::Gs).length+1) 1,au.dead]) Q:=by
 unfold Le;refine wp_loop bW ?_;refine .intro (fun m T H=>∃ (qk qc:Int),T=F2 69 [(1,(.ptr 0 0)),(3,(qq aR .shared)),(4,(.cf (qv b::Gs).length ((qv b::Gs).length+1) nL.length 1)),(5,(qq s1 (.own 1))),(6,(hG s2)),(7,(hG qk)),(8,(hG qc))]∧H=((qv b::Gs)++[au.grow (nL.map He) ((qv b::Gs).length+1) 1,au.dead])∧J6 b aR s1 s2 q5 m qk qc=some v) p' ⟨qk,qc,rfl,rfl,h⟩ ?_;clear h bW;rintro m T H ⟨qk,qc,rfl,rfl,h⟩;cases m
 ·exact q3 h
 rename_i m;rw [J6.eq_2] at h;conv=>whnf
 refine bs h (fun qI h=>?_) fun qI h=>?_
 ·rw [qI];conv=>whnf
  refine qy h id fun rh h=>?_;rw [rA hG s1 qc rh];conv=>whnf
  refine qy h id fun qS h=>?_;rw [qQ p6 2 qz b.2 s2 qS];conv=>whnf
  refine qy h id fun q8 h=>?_;rw [rA hG aR ((ix b.2 s2).1) q8];conv=>whnf
  refine bs h (fun rr h=>?_) fun rr h=>?_
  ·rw [rr];(conv=>whnf);exact ⟨m,Nat.lt_succ_self m,qc,(w (qc+(1:Int))),rfl,rfl,h⟩
  ·rw [rr];(conv=>whnf);exact ⟨m,Nat.lt_succ_self m,qk,(w (qc+(1:Int))),rfl,rfl,h⟩
 ·rw [qI];conv=>whnf
  exact Hn _ _ h ⟨rfl,rfl⟩
theorem ajU {b:qn} {aR:qa} {qK:rX→Option rX} {s1:qa} {s2:Int} {nL:rX} {v:rX} {Q:ra}   (GL:∀ (n0:rX) (bC:au) (Lj:List au) (p_:List I),qK n0=some v→qV 69 [(4,(.cf (bC::Lj).length ((bC::Lj).length+1) n0.length 1))] p_→Q (.exit 0) p_ ((bC::Lj)++[au.grow (n0.map He) ((bC::Lj).length+1) 1,au.dead])) {T:List I} (bW:T=F2 69 [(1,(.ptr 0 0)),(3,(qq aR .shared)),(4,(.cf ([qv b]).length (([qv b]).length+1) nL.length 1)),(5,(qq s1 (.own 1))),(6,(hG s2))]) (h:Ic b aR qK p' s1 s2 nL=some v) :
  Qa Tryz.prog N2 80 0 none PY T ((qv b::([]:List au))++[au.grow (nL.map He) ((qv b::([]:List au)).length+1) 1,au.dead]) Q:=by
 subst bW;refine .mk _ _ rfl (fun m T H=>∃ (s1:qa) (s2:Int) (nL:rX) (Gs:List au),T=F2 69 [(1,(.ptr 0 0)),(3,(qq aR .shared)),(4,(.cf (qv b::Gs).length ((qv b::Gs).length+1) nL.length 1)),(5,(qq s1 (.own 1))),(6,(hG s2))]∧H=((qv b::Gs)++[au.grow (nL.map He) ((qv b::Gs).length+1) 1,au.dead])∧Ic b aR qK m s1 s2 nL=some v) p' (Nat.le_refl _) ⟨s1,s2,nL,_,rfl,rfl,h⟩ ?_;obtain ⟨IG,rR⟩:∃ c,Le=c:=⟨_,rfl⟩;rw [rR];clear h;rintro aaF m T H ⟨s1,s2,nL,Gs,rfl,rfl,h⟩ MG;cases m
 ·exact q3 h
 rename_i m;rw [Ic.eq_2] at h;conv=>whnf
 refine bs h (fun qM h=>?_) fun qM h=>?_
 ·rw [qM];conv=>whnf
  subst rR;refine ajV ?_ (by exact rfl) h;intro xt p_ h qt;obtain ⟨qT,rfl⟩:=qt.ex;conv=>whnf
  refine bs h (fun ry h=>?_) fun ry h=>?_
  ·rw [ry];(conv=>whnf);refine qy h id fun r1 h=>?_;rw [qQ p6 2 qz b.2 s2 r1];(conv=>whnf);refine qy h id fun se h=>?_;rw [rA hG aR ((ix b.2 s2).1) se];(conv=>whnf);obtain ⟨r8,h⟩:=qD h;refine ⟨by first | rfl | simp,by have:=r8;omega,rfl,r8,?_⟩
   erw [Ii hG s1 (ix aR ((ix b.2 s2).1))];(conv=>whnf);obtain ⟨rI,h⟩:=qD h;refine ⟨⟨rfl,by decide⟩,?_⟩;(conv=>whnf);refine Dj (GO (qv b::Gs) _) ?_;(conv=>whnf);refine .inl ⟨⟨rfl,rfl,rfl,by simp,by decide,rI⟩,?_⟩;rw [Is,UI];erw [UK He nL [s2],UJ nL [s2]];(conv=>whnf);exact MG m _ _ (Nat.lt_succ_self m) ⟨(s1++[(ix aR ((ix b.2 s2).1))]),(w (s2+(1:Int))),(nL++[[s2]]),_,rfl,rfl,h⟩
  ·rw [ry];(conv=>whnf);obtain ⟨rZ,h⟩:=qD h;refine ⟨rZ,?_⟩;(conv=>whnf);rcases Hu (decide ((ix nL xt).length=1)) with r0 | r0
   ·replace h:=r4 r0 h;have r0:=of_decide_eq_true r0;refine Dj (GO (qv b::Gs) _) ?_;(conv=>whnf);refine Dj (x:=.ax ((ix nL xt).map hG) (ix nL xt).length .full) (by rw [show 0+xt.toNat*1=xt.toNat by simp];exact Xa nL rZ (agX r0)) ?_;(conv=>whnf);obtain ⟨si,h⟩:=qD h;refine ⟨by first | rfl | simp,by have:=si;omega,by decide,si,by first | rfl | simp,?_⟩
    erw [Ii hG (ix nL xt) s2];(conv=>whnf);obtain ⟨sj,h⟩:=qD h;refine ⟨sj,?_⟩;(conv=>whnf);refine Dj (GO (qv b::Gs) _) ?_;(conv=>whnf);refine E7 (by simp;omega) ?_;(conv=>whnf);rw [Is,show 0+xt.toNat*1=xt.toNat by simp];erw [Xb nL xt.toNat ((ix nL xt)++[s2]) (by rw [List.length_append,List.length_singleton];omega)];rw [show nL.length=(nL.set xt.toNat ((ix nL xt)++[s2])).length from (List.length_set ..).symm];(conv=>whnf);exact MG m _ _ (Nat.lt_succ_self m) ⟨s1,(w (s2+(1:Int))),(nL.set xt.toNat ((ix nL xt)++[s2])),_,rfl,rfl,h⟩
   ·replace h:=r5 r0 h;have r0:=of_decide_eq_false r0;obtain ⟨GH,h⟩:=qD h;refine Dj (GO (qv b::Gs) _) ?_;(conv=>whnf);refine Dj (x:=.ax ((ix nL xt).map hG) (ix nL xt).length (.own 1)) (by rw [show 0+xt.toNat*1=xt.toNat by simp];exact Xa nL rZ (W' r0)) ?_;(conv=>whnf);rw [Is,show 0+xt.toNat*1=xt.toNat by simp];(conv=>whnf);obtain ⟨GI,h⟩:=qD h;refine ⟨by first | rfl | simp,by have:=GI;omega,rfl,GI,?_⟩
    erw [Ii hG (ix nL xt) s2];(conv=>whnf);obtain ⟨GQ,h⟩:=qD h;refine ⟨GQ,?_⟩;(conv=>whnf);refine Dj (GO (qv b::Gs) _) ?_;(conv=>whnf);refine E7 (by simp;omega) ?_;(conv=>whnf);rw [Is,show 0+xt.toNat*1=xt.toNat by simp];erw [agY nL xt.toNat _ ((ix nL xt)++[s2]) (by rw [List.length_append,List.length_singleton];omega)];rw [show nL.length=(nL.set xt.toNat ((ix nL xt)++[s2])).length from (List.length_set ..).symm];(conv=>whnf);exact MG m _ _ (Nat.lt_succ_self m) ⟨s1,(w (s2+(1:Int))),(nL.set xt.toNat ((ix nL xt)++[s2])),_,rfl,rfl,h⟩
 ·rw [qM];conv=>whnf
  exact GL _ _ _ _ h ⟨rfl,rfl⟩
theorem Zp {b:qn} {v:rX} (h:L_ b=some v):qC 80 [(.agg [(hG b.1),(.ax (b.2.flatMap p6) b.2.length .shared)])] (.ax (v.map i') v.length .shared):=by
 refine kW.ag4 ?_;refine qN dD afd rfl (rF (fun _=>(rF (fun _=>rfl) _ _ _)) _ _ _) fun Q bz=>?_;have lj:qE [.tmp 2] Q (fun v=>(.ax (v.map Jn) v.length .shared)) v:=fun T H bJ=>bz _ T H bJ;unfold L_ at h;unfold aap;obtain ⟨Gi,qF⟩:∃ c,PY=c:=⟨_,rfl⟩;rw [qF];conv=>whnf
 obtain ⟨aR,eQ,h⟩:=qi h;refine ⟨qm.pl,_,ajD eQ,?_⟩;conv=>whnf
 subst qF;refine YA (rc:=PY) rfl (by exact rfl) ?_;obtain ⟨IG,rR⟩:∃ c,Le=c:=⟨_,rfl⟩;rw [rR];intro aaE Q2;conv=>whnf
 refine bs h (fun fi h=>?_) fun fi h=>?_
 ·rw [fi];conv=>whnf
  subst rR;refine ajT ?_ (by exact rfl) h;intro  p_ h qt;obtain ⟨qT,rfl⟩:=qt.ex;conv=>whnf
  refine qy h id fun qA h=>?_;rw [qQ p6 2 qz b.2 (0:Int) qA];conv=>whnf
  refine qy h id fun qG h=>?_;rw [rA hG aR ((ix b.2 (0:Int)).1) qG];conv=>whnf
  obtain ⟨q7,h⟩:=qD h;refine ⟨by first | rfl | simp,by have:=q7;omega,rfl,q7,?_⟩
  conv=>whnf
  refine ⟨⟨rfl,by decide⟩,?_⟩;conv=>whnf
  refine ⟨⟨rfl,by decide,by decide⟩,?_⟩;conv=>whnf
  refine Q2 _ _ ?_;refine ajU ?_ (by exact rfl) h;intro n0 bC Lj p_ h qt;obtain ⟨qT,rfl⟩:=qt.ex;conv=>whnf
  refine ⟨_,_,fun C=>Oa rfl (Nat.zero_le _) (GO (bC::Lj) _) (by simp),?_⟩;rw [agZ,Is];conv=>whnf
  exact qj h lj rfl rfl
 ·rw [fi];conv=>whnf
  refine ⟨_,_,fun C=>rfl,?_⟩;conv=>whnf
  exact qj h lj rfl rfl

end Go.Proofs.YtfakoboiahbhaaaGreat.Ab


namespace Go.Proofs.YtfakoboiahbhaaaGreat.Ab
open Go
theorem Gc {n:Nat} {x:Int}:x∈upto n↔0≤x∧x<(n:Int):=by
 unfold upto;rw [List.mem_map];constructor
 ·rintro ⟨j,az,rfl⟩;have:=List.mem_range.1 az;omega
 ·rintro ⟨ad,af⟩;exact ⟨x.toNat,List.mem_range.2 (by omega),by omega⟩
theorem Iu (n:Nat):(upto n).Nodup:=by
 unfold upto;exact List.pairwise_map.2 (List.nodup_range.imp fun h e=>h (by omega))
section
variable {b:qb}
theorem Gg.acg {f g:Int} (h:Gg b (-1) f g):rB b (upto b.2.length) f g:=by
 obtain ⟨n,h⟩:=h
 induction n generalizing g with
 | zero=>rw [show f=g from h];exact .refl
 | succ n a9 =>
   obtain ⟨c,ad,af⟩:=h;obtain ⟨i,hi,_,aH⟩:=af.sk;refine .step (i:Int) (a9 ad) (Gc.2 ⟨by omega,by omega⟩) ?_ ?_
   ·rcases aH with ⟨aH,_⟩ | ⟨aH,_⟩
    ·exact .inl aH
    ·exact .inr aH
   ·rcases aH with ⟨_,aH⟩ | ⟨_,aH⟩
    ·exact .inr aH
    ·exact .inl aH
theorem QI {i f g:Int} (hi:i∈upto b.2.length) (ad:qW b i f) (af:qW b i g):Gg b (-1) f g:=by
 have hi:=Gc.1 hi;obtain ⟨j,rfl⟩:∃ j:Nat,i=(j:Int):=⟨i.toNat,by omega⟩;have he:=GB.of (b:=b) (wo := -1) (i:=j) (by omega) (by omega);rcases ad with rfl | rfl <;> rcases af with rfl | rfl
 ·exact Gg.refl _
 ·exact he.Mq
 ·exact he.symm.Mq
 ·exact Gg.refl _
theorem rB.Mq {f g:Int} (h:rB b (upto b.2.length) f g):Gg b (-1) f g:=by
 induction h with
 | refl=>exact Gg.refl _
 | step i _ hi aB aF a9=>exact a9.trans (QI hi aB aF)
theorem Mz (p8:qJ b) {i f:Int} (hi:i∈upto b.2.length) (h:qW b i f):0≤f∧f<b.1:=by
 have hi:=Gc.1 hi;obtain ⟨j,rfl⟩:∃ j:Nat,i=(j:Int):=⟨i.toNat,by omega⟩;have:=KA p8 (i:=j) (by omega);rcases h with rfl | rfl <;> omega
structure GV (key:Int→Int) (i:Nat) (seen:List Int) (out:List (List Int)):Prop where
 len:out.length=seen.length
 Gm:seen.Nodup
 par:∀ (j:Nat) (h:j<out.length) (a4:j<seen.length) (x:Int),x∈out[j]↔0≤x∧x<(i:Int)∧key x=seen[j]
 Ho:∀ r∈out,r.Pairwise (·<·)
 ne:∀ r∈out,r≠[]
 all:∀ x:Int,0≤x→x<(i:Int)→key x∈seen
 a2:out.Pairwise fun x y=>ix x 0<ix y 0
theorem GV.new {key:Int→Int} {i:Nat} {seen:List Int} {out:List (List Int)} (h:GV key i seen out) (aP:key i ∉ seen):GV key (i+1) (seen++[key i]) (out++[[(i:Int)]]):=by
 have aq:=h.len;refine ⟨by simp [aq],?_,fun j az d' x=>?_,fun r aj=>?_,fun r aj=>?_,fun x ad af=>?_,?_⟩
 ·rw [List.nodup_append];exact ⟨h.Gm,by simp,fun a cu c ak e=>by simp only [List.mem_singleton] at ak;subst ak;subst e;exact aP cu⟩
 ·by_cases o2:j<out.length
  ·rw [List.getElem_append_left o2,List.getElem_append_left (by omega),h.par j o2 (by omega) x];constructor
   ·rintro ⟨aB,aF,aS⟩;exact ⟨aB,by omega,aS⟩
   ·rintro ⟨aB,aF,aS⟩;refine ⟨aB,?_,aS⟩
    have:x≠(i:Int):=fun e=>aP (by rw [←e,aS];exact List.getElem_mem _)
    omega
  ·(have e:j=out.length:=by simp at az;omega);subst e;rw [List.getElem_append_right (by omega),List.getElem_append_right (by omega)];simp only [Nat.sub_self,aq,List.getElem_cons_zero,List.mem_singleton];constructor
   ·rintro rfl;exact ⟨by omega,by omega,rfl⟩
   ·rintro ⟨aB,aF,aS⟩;refine Classical.byContradiction fun al=>aP ?_;rw [←aS];exact h.all x aB (by omega)
 ·rcases List.mem_append.1 aj with aj | aj
  ·exact h.Ho r aj
  ·simp only [List.mem_singleton] at aj;subst aj;simp
 ·rcases List.mem_append.1 aj with aj | aj
  ·exact h.ne r aj
  ·simp only [List.mem_singleton] at aj;subst aj;simp
 ·by_cases al:x=(i:Int)
  ·subst al;simp
  ·exact List.mem_append_left _ (h.all x ad (by omega))
 ·refine List.pairwise_append.2 ⟨h.a2,by simp,fun r aj q bl=>?_⟩;simp only [List.mem_singleton] at bl;subst bl;obtain ⟨j,az,rfl⟩:=List.getElem_of_mem aj;have:=((h.par j az (by omega) _).1 (head_mem (h.ne _ aj))).2.1;show ix out[j] 0<(i:Int);exact this
theorem GV.fH {key:Int→Int} {i k:Nat} {seen:List Int} {out:List (List Int)} (h:GV key i seen out) (av:k<seen.length) (B1:seen[k]=key i):GV key (i+1) seen (out.set k (out[k]'(by have:=h.len;omega)++[(i:Int)])):=by
 have aq:=h.len;have Ow:k<out.length:=by omega
 have bY:=h.ne _ (List.getElem_mem Ow);have adu:ix (out[k]++[(i:Int)]) 0=ix out[k] 0:=by
  cases e:out[k] with
  | nil=>exact absurd e bY
  | cons a r=>rfl
 refine ⟨by simpa using aq,h.Gm,fun j az d' x=>?_,fun r aj=>?_,fun r aj=>?_,fun x ad af=>?_,?_⟩
 ·rw [List.getElem_set];split
  ·rename_i e;subst e;rw [List.mem_append,h.par k Ow d' x,List.mem_singleton];constructor
   ·rintro (⟨aB,aF,aS⟩ | rfl)
    ·exact ⟨aB,by omega,aS⟩
    ·exact ⟨by omega,by omega,B1.symm⟩
   ·rintro ⟨aB,aF,aS⟩;by_cases al:x=(i:Int)
    ·exact .inr al
    ·exact .inl ⟨aB,by omega,aS⟩
  ·rename_i e;rw [h.par j (by simpa using az) d' x];constructor
   ·rintro ⟨aB,aF,aS⟩;exact ⟨aB,by omega,aS⟩
   ·rintro ⟨aB,aF,aS⟩;refine ⟨aB,?_,aS⟩
    have:x≠(i:Int):=fun ex=>by
     subst ex;exact List.pairwise_iff_getElem.1 h.Gm |> fun aD=>by
      rcases Nat.lt_or_gt_of_ne e with aY | aY
      ·exact aD k j av d' aY (by rw [B1,aS])
      ·exact aD j k d' av aY (by rw [B1,aS])
    omega
 ·rcases List.mem_or_eq_of_mem_set aj with aj | rfl
  ·exact h.Ho r aj
  ·refine List.pairwise_append.2 ⟨h.Ho _ (List.getElem_mem Ow),by simp,fun x al y aZ=>?_⟩;simp only [List.mem_singleton] at aZ;subst aZ;exact ((h.par k Ow av x).1 al).2.1
 ·rcases List.mem_or_eq_of_mem_set aj with aj | rfl
  ·exact h.ne r aj
  ·simp
 ·by_cases al:x=(i:Int)
  ·subst al;rw [←B1];exact List.getElem_mem _
  ·exact h.all x ad (by omega)
 ·refine List.pairwise_iff_getElem.2 fun a c cu ak ac5=>?_;have bl:∀ (a:Nat) (cu:a<out.length),ix ((out.set k (out[k]++[(i:Int)]))[a]'(by simpa using cu)) 0=ix out[a] 0:=fun a cu=>by
   rw [List.getElem_set];split
   ·rename_i e;subst e;exact adu
   ·rfl
  rw [bl a (by simpa using cu),bl c (by simpa using ak)];exact List.pairwise_iff_getElem.1 h.a2 a c (by simpa using cu) (by simpa using ak) ac5
theorem GV.parts (p8:qJ b) {N:List Int} (Ha:NV b (-1) N) {seen:List Int} {out:List (List Int)} (h:GV (fun s=>ix N (ix b.2 s).1) b.2.length seen out):rC b (upto b.2.length) out:=by
 have aq:=h.len;have Ox:∀ x∈upto b.2.length,0≤(ix b.2 x).1∧(ix b.2 x).1<b.1:=fun x al=>Mz p8 al (.inl rfl);have IU:∀ (j:Nat) (az:j<out.length) (x:Int),x∈out[j]→x∈upto b.2.length:=fun j az x al=>by
  have:=(h.par j az (by omega) x).1 al;exact Gc.2 ⟨this.1,this.2.1⟩
 refine ⟨h.ne,h.Ho,fun x=>?_,List.pairwise_iff_getElem.2 fun i j hi az lx x al iD=>?_,fun r aj x al y aZ f g aN aK=>?_,fun r aj q bl x al y aZ f aN aK=>?_⟩
 ·constructor
  ·intro al;have na:=Gc.1 al;obtain ⟨j,az,e⟩:=List.getElem_of_mem (h.all x na.1 na.2);exact ⟨_,List.getElem_mem (show j<out.length by omega),(h.par j (by omega) az x).2 ⟨na.1,na.2,e.symm⟩⟩
  ·rintro ⟨r,aj,al⟩;obtain ⟨j,az,rfl⟩:=List.getElem_of_mem aj;exact IU j az x al
 ·have ad:=(h.par i hi (by omega) x).1 al;have af:=(h.par j az (by omega) x).1 iD;exact List.pairwise_iff_getElem.1 h.Gm i j (by omega) (by omega) lx (by rw [←ad.2.2,←af.2.2])
 ·obtain ⟨j,az,rfl⟩:=List.getElem_of_mem aj;have ad:=(h.par j az (by omega) x).1 al;have af:=(h.par j az (by omega) y).1 aZ;have MS:=IU j az x al;have MT:=IU j az y aZ;have ak:=(Ha.iff (Ox x MS) (Ox y MT)).1 (by rw [ad.2.2,af.2.2]);exact ((rB.one MS aN (.inl rfl)).trans ak.acg).trans (rB.one MT (.inl rfl) aK)
 ·obtain ⟨i,hi,rfl⟩:=List.getElem_of_mem aj;obtain ⟨j,az,rfl⟩:=List.getElem_of_mem bl;have ad:=(h.par i hi (by omega) x).1 al;have af:=(h.par j az (by omega) y).1 aZ;have MS:=IU i hi x al;have MT:=IU j az y aZ;have ak:Gg b (-1) (ix b.2 x).1 (ix b.2 y).1:=(QI MS (.inl rfl) aN).trans (QI MT aK (.inl rfl));have e:=(Ha.iff (Ox x MS) (Ox y MT)).2 ak;have cd:seen[i]'(by omega)=seen[j]'(by omega):=by rw [←ad.2.2,←af.2.2];exact e
  have lx:i=j:=by
   refine Classical.byContradiction fun bY=>?_;rcases Nat.lt_or_gt_of_ne bY with aY | aY
   ·exact List.pairwise_iff_getElem.1 h.Gm i j (by omega) (by omega) aY cd
   ·exact List.pairwise_iff_getElem.1 h.Gm j i (by omega) (by omega) aY cd.symm
  subst lx;rfl
end
end Go.Proofs.YtfakoboiahbhaaaGreat.Ab


namespace Go.Proofs.YtfakoboiahbhaaaGreat.Ab
open Go
section
variable {b:qb}
theorem Tx {N seen:List Int} {i:Nat} (hi:i<b.2.length) (Ha:0≤(ix b.2 (i:Int)).1∧(ix b.2 (i:Int)).1<(N.length:Int)) (ai:seen.length≤1000) {k:Int→Option (List (List Int))}:∀ (m j:Nat) (z a:Int),z=j→j≤seen.length→seen.length-j<m→(∀ c:Nat,c<j→(ix seen (c:Int)=ix N (ix b.2 (i:Int)).1→0≤a))→(a=-1∨∃ c:Nat,a=c∧∃ h:c<seen.length,seen[c]=ix N (ix b.2 (i:Int)).1) →
  ∃ aO:Int,J6 b N seen (i:Int) k m a z=k aO∧((aO=-1∧ix N (ix b.2 (i:Int)).1 ∉ seen)∨∃ c:Nat,aO=c∧∃ h:c<seen.length,seen[c]=ix N (ix b.2 (i:Int)).1)
 | 0,_,_,_,_,_,h,_,_=>absurd h (by omega)
 | m+1,j,_,a,rfl,az,hm,ad,af=>by
   rw [J6];by_cases h:(j:Int)<(seen.length:Int)
   ·rw [if_pos (decide_eq_true h),qp ⟨Int.natCast_nonneg j,h⟩,qp ⟨Int.natCast_nonneg i,Int.ofNat_lt.2 hi⟩,qp Ha];have o2:j<seen.length:=Int.ofNat_lt.1 h;by_cases he:ix seen (j:Int)=ix N (ix b.2 (i:Int)).1
    ·rw [if_pos (decide_eq_true he),rq j (by omega)];(have e1:j+1≤seen.length∧seen.length-(j+1)<m:=by clear af;omega);exact Tx hi Ha ai m (j+1) _ (j:Int) rfl e1.1 e1.2 (fun c ak _=>Int.natCast_nonneg j) (.inr ⟨j,rfl,o2,by rw [←rn o2];exact he⟩)
    ·rw [if_neg (by simpa using he),rq j (by omega)];(have e1:j+1≤seen.length∧seen.length-(j+1)<m:=by clear af;omega);refine Tx hi Ha ai m (j+1) _ a rfl e1.1 e1.2 (fun c ak VC=>?_) af;by_cases c2:c=j
     ·subst c2;exact absurd VC he
     ·exact ad c (by omega) VC
   ·rw [if_neg (by simpa using h)];refine ⟨a,rfl,?_⟩;rcases af with rfl | af
    ·refine .inl ⟨rfl,fun m0=>?_⟩;obtain ⟨c,ak,e⟩:=List.getElem_of_mem m0;have:=ad c (by omega) (by rw [rn ak];exact e);omega
    ·exact .inr af
theorem GV.I_ {key:Int→Int} {i:Nat} {seen:List Int} {out:List (List Int)} (h:GV key i seen out):out.length≤i:=by
 have hm:=MZ (l:=out.map fun r=>ix r 0) (n:=i) (by
  refine List.pairwise_map.2 (h.a2.imp fun GD e=>by omega)) fun x al=>by
  obtain ⟨r,aj,rfl⟩:=List.mem_map.1 al;obtain ⟨j,az,rfl⟩:=List.getElem_of_mem aj;have:=(h.par j az (by have:=h.len;omega) _).1 (head_mem (h.ne _ aj));exact ⟨this.1,this.2.1⟩
 simpa using hm
theorem GV.ag3 {key:Int→Int} {i:Nat} {seen:List Int} {out:List (List Int)} (h:GV key i seen out) (j:Nat) (az:j<out.length):out[j].length≤i:=by
 refine MZ ((h.Ho _ (List.getElem_mem az)).imp fun GD e=>by omega) fun x al=>?_;have:=(h.par j az (by have:=h.len;omega) x).1 al;exact ⟨this.1,this.2.1⟩
theorem Tw (p8:qJ b) {N:List Int} (Ha:N.length=b.1.toNat) {k:List (List Int)→Option (List (List Int))}:∀ (m i:Nat) (z:Int) (seen:List Int) (out:List (List Int)),z=i→i≤b.2.length→b.2.length-i<m→GV (fun s=>ix N (ix b.2 s).1) i seen out →
  ∃ seen' so,GV (fun s=>ix N (ix b.2 s).1) b.2.length seen' so∧Ic b N k m seen z out=k so
 | 0,_,_,_,_,_,_,h,_=>absurd h (by omega)
 | m+1,i,_,seen,out,rfl,hi,hm,gw=>by
   rw [Ic];have dq:=p8.len;have VE:=gw.I_;have hlen:=gw.len;by_cases h:(i:Int)<(b.2.length:Int)
   ·rw [if_pos (decide_eq_true h)];(have rb:i<b.2.length:=by omega);have ai:=KA p8 rb;have Vx:0≤(ix b.2 (i:Int)).1∧(ix b.2 (i:Int)).1<(N.length:Int):=by omega
    obtain ⟨a,cu,af⟩:=Tx (b:=b) (N:=N) (seen:=seen) rb Vx (by omega) (k:=fun xt =>
      if (decide (xt<(0:Int)))=true then
       qd (0≤(i:Int)∧(i:Int)<(b.2.length:Int)) <|
       qd (0≤(ix b.2 (i:Int)).1∧(ix b.2 (i:Int)).1<(N.length:Int)) <|
       qd ((seen.length+1)*8≤140737488355328) <|
       qd ((out.length+1)*24≤140737488355328) <|
       Ic b N k m (seen++[(ix N ((ix b.2 (i:Int)).1))]) (w ((i:Int)+(1:Int))) (out++[[(i:Int)]])
      else
       qd (0≤xt∧xt<(out.length:Int)) <|
       if (decide ((ix out xt).length=1))=true then
        qd (((ix out xt).length+1)*8≤140737488355328) <|
        qd (0≤xt∧xt<(out.length:Int)) <|
        Ic b N k m seen (w ((i:Int)+(1:Int))) (out.set xt.toNat ((ix out xt)++[(i:Int)]))
       else
        qd ((ix out xt).length≠0) <|
        qd (((ix out xt).length+1)*8≤140737488355328) <|
        qd (0≤xt∧xt<(out.length:Int)) <|
        Ic b N k m seen (w ((i:Int)+(1:Int))) (out.set xt.toNat ((ix out xt)++[(i:Int)]))) p' 0 0 (-1) rfl (by omega) (ru (by omega)) (fun c ak=>by omega) (.inl rfl)
    rw [cu];rcases af with ⟨rfl,aP⟩ | ⟨c,rfl,ak,he⟩
    ·rw [if_pos (by decide),qp ⟨by omega,by omega⟩,qp Vx,qp (by omega),qp (by omega),rq i (by omega)];exact Tw p8 Ha m (i+1) _ _ _ rfl (by omega) (by omega) (gw.new aP)
    ·(have gx:c<out.length:=by omega);have bY:=gw.ne _ (List.getElem_mem gx);have Cq:=gw.ag3 c gx;have aj:=Tw (k:=k) p8 Ha m (i+1) _ _ _ rfl (by omega) (by omega) (gw.fH ak he);rw [if_neg (by simp),qp ⟨by omega,by omega⟩,rn gx,Int.toNat_natCast,rq i (by omega)];split
     ·rw [qp (by omega),qp ⟨by omega,by omega⟩];exact aj
     ·rw [qp (show out[c].length≠0 from fun e=>bY (List.length_eq_zero_iff.1 e)),qp (by omega),qp ⟨by omega,by omega⟩];exact aj
   ·rw [if_neg (by simpa using h)]
    have:i=b.2.length:=by omega
    subst this;exact ⟨seen,out,gw,rfl⟩
theorem GV.zero {key:Int→Int}:GV key 0 [] []:=⟨rfl,by simp,fun j h=>absurd h (by simp),fun r aj=>absurd aj (by simp),fun r aj=>absurd aj (by simp),fun x ad af=>by omega,by simp⟩
def parts (b:qb):List (List Int):=(J5 b (upto b.2.length)).getD []
theorem It:rm b (upto b.2.length):=fun x al=>Gc.1 al
theorem NO (p8:qJ b):J5 b (upto b.2.length)=some (parts b)∧rC b (upto b.2.length) (parts b)∧(parts b).Pairwise fun x y=>ix x 0<ix y 0:=by
 obtain ⟨out,ad,af,aH⟩:=Zn (b:=b) (S:=upto b.2.length) p8.len (Iu _) It
 have:parts b=out:=by unfold parts;rw [ad];rfl
 rw [this];exact ⟨ad,af,aH⟩
theorem Zo (p8:qJ b):L_ b=some (parts b):=by
 obtain ⟨N,Ha,rJ⟩:=ajz p8 (-1);have aD:=NO p8;rw [L_,Ha,Option.bind_some];have dq:=p8.len;by_cases aT:b.2.length=0
 ·rw [if_neg (by simp [aT])]
  have:parts b=[]:=by
   cases e:parts b with
   | nil=>rfl
   | cons r q =>
     have bY:=aD.2.1.ne r (by simp [e]);obtain ⟨x,al⟩:=List.exists_mem_of_ne_nil r bY;have:=Gc.1 ((aD.2.1.mem x).2 ⟨r,by simp [e],al⟩);omega
  rw [this]
 ·have ai:=KA p8 (i:=0) (by omega);rw [if_pos (by simp;omega),show p'=18446744073709551615+1 from rfl,NP,←show p'=18446744073709551615+1 from rfl,if_neg (by simp),qp ⟨by omega,by omega⟩,qp ⟨ai.1,by have ad:=rJ.len;have af:(ix b.2 (0:Int)).1<b.1:=ai.2.1;have aH:0≤(ix b.2 (0:Int)).1:=ai.1;omega⟩,qp (by simp)];obtain ⟨seen,out,gw,aj⟩:=Tw p8 rJ.len (k:=fun n0=>some n0) p' 1 1 [ix N (ix b.2 (0:Int)).1] [[0]] rfl (by omega) (ru (by omega)) (GV.zero.new (i:=0) (by simp));have al:out=parts b:=(gw.parts p8 rJ).same aD.2.1 gw.a2 aD.2.2;rw [←al];exact aj
end
end Go.Proofs.YtfakoboiahbhaaaGreat.Ab


namespace Go.Proofs.YtfakoboiahbhaaaGreat.Ab
open Go
noncomputable def R1:eM :=
 .jO true [gO 21 [.sl 3] (.px .one),FN 22 4,gO 23 [.hD 22] (.build [.int .i64 0,.int .i64 0] [(0,1)]),gO 24 [.sl 3] (.px .one),FN 25 4,gO 26 [.hD 25,.ij (.int .i64 1)] (.build [.int .i64 0,.int .i64 0] [(0,1),(1,1)]),⟨none,[.hD 21,.hD 23,.ij (.int .i64 1)],none,none,.y0 (.str 2)⟩,⟨none,[.hD 24,.hD 26,.ij (.int .i64 1)],none,none,.y0 (.str 2)⟩]
noncomputable def R4:eM :=
 .block 1 (FY [FN 20 18,FO 4 20] R1)
noncomputable def WO:eM :=
 .jO false [gO 84 [.sl 1] (.px .one),gO 85 [.hD 10] (.px (.str 2)),gO 86 [.ij (.func 68 [] []),.sl 84,.sl 85] (.call 3),FO 83 86,F5 87 83 0,gO 88 [.hD 83] (.ext 1),⟨none,[.sl 7,.hA 87],none,none,.st 1⟩]
noncomputable def R5:eM :=
 FY [FO 79 5,gO 80 [.sl 10] (.px (.str 2)),gO 81 [.hD 80] (.xG 1 2 [.int .i64 0,.int .i64 0] [0]),gO 82 [.hA 79,.hA 81] (.xx 2 16),FO 5 82] WO
noncomputable def R6:eM :=
 FY [gO 74 [.sl 6] (.other (Oper.mk (some 74) (Op.load 25 (Operand.tmp 6)) 25 "table.go:177" (Array.mk []) none) 5), gO 75 [.sl 6] (.px .one), FK 76 75, Fm 77 76 1 .sub, gO 78 [.hA 74, .hA 77] (.Ap 2 false true false), ⟨none, [.sl 6, .hA 78], none, none, .st 1⟩] R5
noncomputable def R7:eM :=
 FY [gO 68 [.sl 6] (.px .one),gO 69 [.sl 6] (.px .one),FK 70 69,Fm 71 70 1 .sub,FH 72 68 71 2,gO 73 [.hD 72] (.px (.str 2)),gO 10 [] (.alloc [.int .i64 0,.int .i64 0]),⟨none,[.sl 10,.hA 73],none,none,.st 2⟩] R6
noncomputable def R':eM :=
 .zT (.sl 40) [41] (FW Go.Proofs.Tryz.prog 104 0) (FX Go.Proofs.Tryz.prog 104 0)
noncomputable def R8:eM :=
 .block 3 (.seq (FY [FN 38 8,gO 39 [.sl 7] (.px .one),gO 40 [.sl 38,.sl 39] (.call 3)] (.block 4 R')) (.seq (FY [gO 65 [.sl 6] (.px .one),FK 66 65,Fm 67 66 0 .eql] (.cond (.sl 67) (.exit 2) .skip)) R7))
noncomputable def OS:eM :=
 .loop (some (DX false [1,1,1,1,1,4,83])) R8
noncomputable def R9:eM :=
 .block 2 OS
noncomputable def R_:eM :=
 FY [FN 89 5, gO 90 [.ij (.func 128 [] []), .hA 89] (.call 1)] (FY [⟨some 91, [.hA 5], none, some 5, .other (Oper.mk (some 91) (Op.move (Operand.tmp 5)) 25 "table.go:182" (Array.mk []) none) 2⟩, FO 2 91] .ret)
noncomputable def R2:eM :=
 FY [gO 28 [.sl 1] (.px .one),gO 29 [.hD 28] .za,Fu 30 29 0,Fu 31 30 1,FL 32 31,gO 33 [.hD 32,.ij (.int .i64 0)] (.pq 2),Fu 34 33 0,FL 35 34,gO 7 [] (.alloc [.int .i64 0]),⟨none,[.sl 7,.hA 35],none,none,.st 1⟩] (FY [gO 36 [.sl 1] (.px .one),gO 37 [.hD 36] (.y6 89 1 0),FO 8 37] (.seq .skip (.seq R9 R_)))
noncomputable def OT:eM :=
 .loop (some (DX false [1,1,1,1,13,2,73])) (FY [gO 19 [.sl 18,.sl 17] (.bin .lss)] (.seq (.cond (.sl 19) .skip (.exit 0)) (.seq R4 (FR [Fk 27 18 1,FO 18 27]))))
noncomputable def R3:eM :=
 .seq (FY [gO 12 [.sl 1] (.px .one),gO 13 [.hD 12] .za,Fu 14 13 0,Fu 15 14 1,FL 16 15,FK 17 16,FM 18 0] (.block 0 OT)) (FY [gO 5 [.ij (.ax [] 0 .full)] .Aw,gO 6 [] (.alloc [.ax [] 0 .full])] R2)
noncomputable def WN:eM :=
 FY [gO 1 [.hA 0] .box,gO 2 [.ij (.ax [] 0 .full)] (.nil 2)] (FY [gO 11 [] .y7,gO 3 [] (.alloc [.junk]),⟨none,[.sl 3,.hA 11],none,none,.st 1⟩] R3)
theorem aeg:yQ Go.Proofs.Tryz.prog Ka 104=some (WN,92,[.tmp 2]):=by kernel_rfl
noncomputable def Sm:eM :=
 .block 1 (FT [FN 14 0,FN 15 2,FN 16 0,FN 17 3,FN 18 0,FN 19 3,FH 20 18 19 2,gO 21 [.hD 20] (.px (.str 2)),FN 22 0,FN 23 2,FH 24 22 23 2,gO 25 [.hD 24] (.px (.str 2)),FH 26 14 15 2,⟨none,[.hA 26,.hA 21],none,none,.st 2⟩,FH 27 16 17 2,⟨none,[.hA 27,.hA 25],none,none,.st 2⟩])
noncomputable def Sn:eM :=
 .jO false [FO 10 2,Fk 11 10 1,FO 12 3,Fm 13 12 1 .sub,FO 2 11,FO 3 13]
noncomputable def So:eM :=
 .loop (some (DX false [0,1,1,2,24])) (.seq (FY [FN 7 2,FN 8 3,Fo 9 7 8 .lss] (.cond (.sl 9) .skip (.exit 0))) (.seq Sm Sn))
noncomputable def WT:eM :=
 FY [FN 4 0,FK 5 4,Fm 6 5 1 .sub,FM 2 0,FO 3 6] (.block 0 So)
theorem aek:yQ Go.Proofs.Tryz.prog T8 128=some (WT,28,[]):=by kernel_rfl
noncomputable def Ni:eM :=
 FY [FL 60 1,gO 61 [.hD 9] (.px (.str 2)),gO 62 [.ij (.func 68 [] []),.sl 60,.sl 61] (.call 3),FO 59 62,F5 63 59 0,gO 64 [.hD 59] (.ext 1),⟨none,[.hA 7,.hA 64],none,none,.st 1⟩] (.exit 3)
noncomputable def R0:eM :=
 FY [gO 55 [.sl 6] (.other (Oper.mk (some 55) (Op.load 25 (Operand.tmp 6)) 25 "table.go:168" (Array.mk []) none) 5), gO 56 [.sl 9] (.px (.str 2)), gO 57 [.hD 56] (.xG 1 2 [.int .i64 0, .int .i64 0] [0]), gO 58 [.hA 55, .hA 57] (.xx 2 16), ⟨none, [.hA 6, .hA 58], none, none, .st 1⟩] Ni
noncomputable def OR:eM :=
 FY [FL 48 3,gO 49 [.sl 9] (.ov 0),FL 50 49,gO 51 [.sl 9] (.ov 1),FL 52 51,gO 53 [.ij (.int .i64 1),.hD 52] (.bin .sub),gO 54 [.hD 50,.hD 53] (.build [.int .i64 0,.int .i64 0] [(0,1),(1,1)]),⟨none,[.hA 48,.hA 54],none,none,.yY (.str 2)⟩] R0
noncomputable def RZ:eM :=
 .block 5 (.seq (FY [gO 42 [.sl 3] (.px .one),gO 43 [.sl 9] (.px (.str 2)),gO 44 [.hD 42,.hD 43] (.yZ (.str 2) false (some (.int .i64 0))),Fm 45 44 0 .eql] (.cond (.sl 45) (.exit 5) .skip)) (FY [gO 46 [.sl 3] (.px .one),gO 47 [.sl 9] (.px (.str 2)),⟨none,[.hA 46,.hA 47],none,none,.yY (.str 2)⟩] OR))
noncomputable def RY:eM :=
 .jO false [gO 9 [] (.alloc [.int .i64 0,.int .i64 0]),⟨none,[.sl 9,.hA 41],none,none,.st 2⟩]
theorem V4:dK Tryz.prog Ka (FW Tryz.prog 104 0) 0=some RY:=by kernel_rfl
theorem V5:dK Tryz.prog Ka (FX Tryz.prog 104 0) 0=some RZ:=by kernel_rfl
end Go.Proofs.YtfakoboiahbhaaaGreat.Ab


namespace Go.Proofs.YtfakoboiahbhaaaGreat.Ab
open Go
def TO (P:Program) (k:FuncId) (cap:List I) (E:List I):Prop :=
 ∀ (l N:Nat) (rP:Nat→List au) (R:List au→Prop) (n:Nat),(∀ i,(rP i).length=N)→l<N→(aP:n<E.length) →
   (∀ (i:Nat) (h:i<n) (Y:List au),∃ rL,Sem P (.yield l) [E[i]'(Nat.lt_trans h aP)] (rP i++Y) 0 (.bool true) (rP (i+1)++rL)) →
   (∀ Y:List au,∃ H',R H'∧Sem P (.yield l) [E[n]] (rP n++Y) 0 (.bool false) H') →
   ∀ Y,∃ H',R H'∧Sem P (.fn k) (.yield l::cap) (rP 0++Y) 0 (.tuple []) H'
theorem ag7 {t:qb} {figure:Int} {v:List (Int×Int)} (h:JR t figure=some v):TO Tryz.prog 113 [.bT [.bT [hG t.1,.ax (t.2.flatMap p6) t.2.length .shared]],.bT [hG figure]] (v.map fun e1=>.agg [hG e1.1,hG e1.2]):=by
 unfold JR at h;split at h
 ·rename_i al;obtain rfl:=Option.some.inj h;intro L N rP R n hlen fh aP aj Rp Y;have ak:∀ j,((List.range j).filter (rY t figure)).length=((List.range j).filter (rY t figure)).length:=fun _=>rfl;have adL:n<((List.range (2*t.2.length)).filter (rY t figure)).length:=by simpa [Ga] using aP
  obtain ⟨M,Lq,Rb,Oq⟩:∃ M,M<2*t.2.length∧rY t figure M=true∧((List.range M).filter (rY t figure)).length=n:=by
   have hm:=List.getElem_mem adL;obtain ⟨ad,af⟩:=List.mem_filter.1 hm;(have ad:((List.range (2*t.2.length)).filter (rY t figure))[n]<2*t.2.length:=by simpa using ad);refine ⟨_,ad,af,?_⟩;have aK:=QJ _ af ad;have lF:((List.range (2*t.2.length)).filter (rY t figure)).Nodup:=List.nodup_range.filter _;obtain ⟨aH,bh⟩:=List.getElem?_eq_some_iff.1 aK;exact (List.getElem_inj lF).1 bh
  have B7:∀ a b,a≤b→((List.range a).filter (rY t figure)).length≤((List.range b).filter (rY t figure)).length:=fun a b jn=>by
   obtain ⟨d,rfl⟩:=Nat.exists_eq_add_of_le jn
   induction d with
   | zero=>exact Nat.le_refl _
   | succ d a9=>rw [←Nat.add_assoc,N9];exact Nat.le_trans (a9 (by omega)) (Nat.le_add_right _ _)
  obtain ⟨Z,JF,JE,hle⟩:=UN (t:=t) (figure:=figure) (L:=L) hlen ak (M:=M) Y fun r OA ag Y=>by
   have aK:=RJ (show r<2*t.2.length by omega) ag;obtain ⟨ad,af⟩:=List.getElem?_eq_some_iff.1 aK;have aY:((List.range r).filter (rY t figure)).length<n:=by
    have:=B7 (r+1) M (by omega);rw [N9,if_pos ag,Oq] at this;omega
   obtain ⟨rL,h⟩:=aj _ aY Y;refine ⟨rL,?_⟩;rw [←af];exact h
  obtain ⟨H',lj,aq⟩:=Rp (Z M++[au.cells (p6 (rv M))]);have aK:=RJ Lq Rb;rw [Oq] at aK;obtain ⟨ad,af⟩:=List.getElem?_eq_some_iff.1 aK;refine ⟨H',lj,?_⟩;rw [←JF];refine UO al hlen ak (M:=M) (by omega) JE (.inr ⟨Lq,Rb,?_⟩) (OE ?_)
  ·rw [Oq,←af];exact aq
  ·have e1:=hle M (Nat.le_refl _);have cd:=aq.1.1;rw [Oq] at e1;rw [JF];refine Nat.le_trans e1 (Nat.le_trans ?_ cd);rw [←List.append_assoc];simp
 ·cases h
theorem agQ {α:Type} {P:Program} {A:c'} {fn:FuncId} {rl:Option Nat} {k:FuncId} {cap:List I} {t:Nat} {bk:List Nat} {gn bX:Code} {T:List I} {H:List au} {Q:cC→List I→List au→Prop} {f:α→I} {L:List α} {id n:Nat} (MR:TO P k cap (L.map f)) (aP:n<L.length)
  (aw:c1 T t=.func k [] cap)
  (MQ:∀ (i:Nat) (h:i<n) (Y:List au),∃ rL,Sem P (.yield H.length) [f (L[i]'(Nat.lt_trans h aP))] ((H++[.loop .ready none fn (T.map I.view) bk gn bX A])++Y) 0 (.bool true) ((H++[.loop .ready none fn (T.map I.view) bk gn bX A])++rL))
  (Rp:∀ (Y:List au),∃ H',(H'[H.length]?=some (.loop .done (some (.exit id)) fn (T.map I.view) bk gn bX A)∧Q (.exit id) (T.map I.settle) (H'.set H.length .dead))∧Sem P (.yield H.length) [f L[n]] ((H++[.loop .ready none fn (T.map I.view) bk gn bX A])++Y) 0 (.bool false) H')
  (gY:inLoop H rl=true):dB P A fn 0 rl (.zT (.sl t) bk gn bX) T H Q:=by
 show hh T t _;rw [im,aw]
 obtain ⟨H',⟨di,Ck⟩,cg⟩:=MR H.length (H.length+1) (fun _=>H++[.loop .ready none fn (T.map I.view) bk gn bX A]) (fun H'=>H'[H.length]?=some (.loop .done (some (.exit id)) fn (T.map I.view) bk gn bX A)∧Q (.exit id) (T.map I.settle) (H'.set H.length .dead)) n (fun i=>by simp) (by omega) (by simpa using aP) (fun i h Y=>by
  obtain ⟨rL,aj⟩:=MQ i h Y;exact ⟨rL,by rw [List.getElem_map];exact aj⟩) (fun Y=>by
  obtain ⟨H',aj,ai⟩:=Rp Y
  exact ⟨H',aj,by rw [List.getElem_map];exact ai⟩) []
 simp only [List.append_nil] at cg;exact ⟨gY,.tuple [],H',.done,some (.exit id),fn,T.map I.view,bk,gn,bX,A,cg,di,by decide,Ck⟩
def rU (L:List Nat):List (Nat×I×I):=L.map fun r=>(r,.agg (p6 (rv r)),hG 1)
theorem QH (a b:Nat):gv (.agg (p6 (rv a))) (.agg (p6 (rv b)))=some (decide (a=b)):=by
 simp only [gv,p6,rv,dC,if_true,Option.map_some,Bool.and_true,Option.some.injEq];rw [Bool.eq_iff_iff];simp only [beq_iff_eq,decide_eq_true_eq,Bool.and_eq_true];omega
theorem N' (b:Nat):∀ (L:List Nat) (n:Nat),b ∉ L→fy (.agg (p6 (rv b))) (rU L) n=some none
 | [],n,_=>rfl
 | a::L,n,h=>by
   simp only [List.mem_cons,not_or] at h;simp only [rU,List.map_cons,fy,QH];rw [decide_eq_false h.1];exact N' b L (n+1) h.2
theorem U' (b:Nat):∀ (L:List Nat) (n:Nat),b∈L→L.Nodup→∃ i,fy (.agg (p6 (rv b))) (rU L) n=some (some (n+i))∧(∃ e:Nat×I×I,(rU L)[i]?=some e∧e.2.2=hG 1)∧(rU L).eraseIdx i=rU (L.filter fun x=>decide (x≠b))
 | [],n,h,_=>absurd h (by simp)
 | a::L,n,h,aP=>by
   obtain ⟨VN,o8⟩:=List.nodup_cons.1 aP;by_cases e:b=a
   ·subst e;refine ⟨0,?_,⟨_,rfl,rfl⟩,?_⟩
    ·simp only [rU,List.map_cons,fy,QH,decide_true];rfl
    ·rw [List.filter_cons_of_neg (by simp)];rw [List.filter_eq_self.2 (fun x al=>by simp;intro e;subst e;exact VN al)];rfl
   ·(have ag:b∈L:=by simpa [e] using h);obtain ⟨i,ad,⟨cd,aH,bh⟩,af⟩:=U' b L (n+1) ag o8;refine ⟨i+1,?_,⟨cd,by simpa [rU] using aH,bh⟩,?_⟩
    ·simp only [rU,List.map_cons,fy,QH];rw [decide_eq_false e];simp only [rU] at ad;rw [ad];rw [show n+1+i=n+(i+1) by omega]
    ·rw [List.filter_cons_of_pos (by simp;intro cL;exact e cL.symm)];simp only [rU,List.map_cons,List.eraseIdx_cons_succ] at af ⊢;rw [af]
theorem U7 (L:List Nat) (k:Nat):rU L++[(k,.agg (p6 (rv k)),hG 1)]=rU (L++[k]):=by
 simp [rU]
end Go.Proofs.YtfakoboiahbhaaaGreat.Ab


namespace Go.Proofs.YtfakoboiahbhaaaGreat.Ab
open Go
set_option maxRecDepth 20000
set_option maxHeartbeats 4000000
def S2 (l:List (Int×Int)) (i:Nat):List (Int×Int):=l.take i++(l.drop i).reverse
def HD (g:List (Int×Int)) (off t:Nat):List (Int×Int):=(List.range g.length).map fun x=>if off≤x∧(x-off<t∨g.length-t≤x) then g.getD (off+g.length-1-x) (0,0) else g.getD x (0,0)
theorem Kz (g:List (Int×Int)) (off t:Nat):(HD g off t).length=g.length:=by simp [HD]
theorem LJ (g:List (Int×Int)) (off t x:Nat) (h:x<g.length):(HD g off t)[x]?=some (if off≤x∧(x-off<t∨g.length-t≤x) then g.getD (off+g.length-1-x) (0,0) else g.getD x (0,0)):=by
 simp [HD,h]
theorem agP (g:List (Int×Int)) (off:Nat):HD g off 0=g:=by
 apply List.ext_getElem?;intro x;by_cases h:x<g.length
 ·rw [LJ g off 0 x h,if_neg (by omega)];simp [h,List.getD_eq_getElem?_getD]
 ·rw [List.getElem?_eq_none (by rw [Kz];omega),List.getElem?_eq_none (by omega)]
theorem agO (g:List (Int×Int)) (off t:Nat) (aw:off+t<g.length-1-t):((HD g off t).set (off+t) (g.getD (g.length-1-t) (0,0))).set (g.length-1-t) (g.getD (off+t) (0,0))=HD g off (t+1):=by
 apply List.ext_getElem?;intro x;by_cases h:x<g.length
 ·rw [LJ g off (t+1) x h];by_cases ad:x=g.length-1-t
  ·subst ad;rw [List.getElem?_set_self (by rw [List.length_set,Kz];omega),if_pos (by omega)];congr 2;omega
  ·rw [List.getElem?_set_ne (by omega)];by_cases af:x=off+t
   ·subst af;rw [List.getElem?_set_self (by rw [Kz];omega),if_pos (by omega)];congr 2;omega
   ·rw [List.getElem?_set_ne (by omega),LJ g off t x h];by_cases aH:off≤x∧(x-off<t∨g.length-t≤x)
    ·rw [if_pos aH,if_pos (by omega)]
    ·rw [if_neg aH,if_neg (by omega)]
 ·rw [List.getElem?_eq_none (by simp [Kz];omega),List.getElem?_eq_none (by rw [Kz];omega)]
theorem agN (g:List (Int×Int)) (off t:Nat) (ar:off≤g.length) (aw:g.length-1-t≤off+t):HD g off t=S2 g off:=by
 apply List.ext_getElem?;intro x;unfold S2;by_cases h:x<g.length
 ·rw [LJ g off t x h];by_cases ad:x<off
  ·rw [if_neg (by omega),List.getElem?_append_left (by simp;omega),List.getElem?_take,if_pos ad];simp [h,List.getD_eq_getElem?_getD]
  ·rw [List.getElem?_append_right (by simp;omega),List.length_take,Nat.min_eq_left ar,List.getElem?_reverse (by simp;omega),List.getElem?_drop,List.length_drop];(have e:off+(g.length-off-1-(x-off))=off+g.length-1-x:=by omega);rw [e];(have aq:off+g.length-1-x<g.length:=by omega);by_cases aH:off≤x∧(x-off<t∨g.length-t≤x)
   ·rw [if_pos aH];simp [aq,List.getD_eq_getElem?_getD]
   ·rw [if_neg aH]
    have:x=off+g.length-1-x:=by omega
    rw [←this];simp [h,List.getD_eq_getElem?_getD]
 ·rw [List.getElem?_eq_none (by rw [Kz];omega),List.getElem?_eq_none (by simp;omega)]
theorem ON:∀ (l:List (Int×Int)) (i:Nat),i<l.length→(l.flatMap p6)[i*2]?=some (hG (l.getD i (0,0)).1)∧(l.flatMap p6)[i*2+1]?=some (hG (l.getD i (0,0)).2)
 | [],i,h=>absurd h (by simp)
 | p::l,0,_=>⟨rfl,rfl⟩
 | p::l,i+1,h=>by
   have:=ON l i (by simpa using h);rw [List.flatMap_cons,show (i+1)*2=(i*2)+2 by omega];simpa [p6] using this
theorem RO:∀ (l:List (Int×Int)) (i:Nat) (x:Int×Int),i<l.length→((l.flatMap p6).set (i*2) (hG x.1)).set (i*2+1) (hG x.2)=(l.set i x).flatMap p6
 | [],i,_,h=>absurd h (by simp)
 | p::l,0,x,_=>rfl
 | p::l,i+1,x,h=>by
   have:=RO l i x (by simpa using h);rw [List.flatMap_cons,show (i+1)*2=(i*2)+2 by omega,show i*2+2+1=(i*2+1)+2 by omega];simp only [p6,List.cons_append,List.nil_append,List.set_cons_succ,List.flatMap_cons];rw [this]
theorem IW (l:List (Int×Int)):(l.flatMap p6).length=l.length*2:=r9 p6 2 qz l
theorem agM (g:List (Int×Int)) (aT:0<g.length) (aK:g.length≤1000000) {H:List au} {id lo QQ:Nat} (bF:lo≤id) (ah:H[id]?=some (.grow (g.flatMap p6) QQ 2)) :
  Sem Go.Proofs.Tryz.prog (.fn 128) [.ref id 0 g.length none 2] H lo (.tuple []) (H.set id (.grow (g.reverse.flatMap p6) QQ 2)):=by
 have aE:=(List.getElem?_eq_some_iff.1 ah).1;refine G0 dD aek rfl ⟨by simp,fun j ad af=>by rw [List.getElem?_set_ne (by omega)]⟩ fun Q bz=>?_;unfold WT;obtain ⟨Qx,H3⟩:∃ c,So=c:=⟨_,rfl⟩;rw [H3];conv=>whnf
 rw [show IntKind.i64.wrap ((g.length:Int)-1)=((g.length-1:Nat):Int) by rw [Ib _ (by omega) (by omega)];omega];have ag:Nat.ble lo id=true:=Nat.ble_eq_true_of_le bF;have gs:∀ c:au,(H.set id c)[id]?=some c:=fun c=>by rw [List.getElem?_set_self aE]
 subst H3;unfold So;obtain ⟨a',cn⟩:∃ c,Sm=c:=⟨_,rfl⟩;obtain ⟨bm,cp⟩:∃ c,Sn=c:=⟨_,rfl⟩;rw [cn,cp];refine wp_loop rfl ?_;refine .intro (fun m T H'=>∃ t,2*t≤g.length∧m=g.length-t∧T=F2 28 [(0,.ref id 0 g.length none 2),(2,hG t),(3,hG (g.length-1-t:Nat))]∧H'=H.set id (.grow ((HD g 0 t).flatMap p6) QQ 2)) g.length ⟨0,by omega,rfl,rfl,?_⟩ ?_
 ·rw [agP];obtain ⟨ad,af⟩:=List.getElem?_eq_some_iff.1 ah;rw [←af,List.set_getElem_self]
 rintro m T H' ⟨t,aw,rfl,rfl,rfl⟩;conv=>whnf
 refine Hj (fun h=>?_) (fun h=>?_)
 ·have cd:0+((g.length-1-t:Nat):Int).toNat*2=(g.length-1-t)*2:=by omega
  have dw:0+(t:Int).toNat*2=t*2:=by omega
  have aq:=Kz g 0 t;have QO:=ON (HD g 0 t) (g.length-1-t) (by omega);have QP:=ON (HD g 0 t) t (by omega);have v1:(HD g 0 t).getD (g.length-1-t) (0,0)=g.getD (g.length-1-t) (0,0):=by
   rw [List.getD_eq_getElem?_getD,LJ g 0 t _ (by omega),if_neg (by omega)];rfl
  have v2:(HD g 0 t).getD t (0,0)=g.getD t (0,0):=by
   rw [List.getD_eq_getElem?_getD,LJ g 0 t _ (by omega),if_neg (by omega)];rfl
  rw [v1] at QO;rw [v2] at QP;conv=>whnf
  subst cn;unfold Sm;refine HI fun mv Gy=>?_;conv=>whnf
  refine ⟨by omega,?_⟩;conv=>whnf
  refine Dj (gs _) ?_;conv=>whnf
  refine Dj (by rw [cd];exact QO.1) ?_;conv=>whnf
  refine Dj (by rw [cd];exact QO.2) ?_;conv=>whnf
  refine ⟨by omega,?_⟩;conv=>whnf
  refine Dj (gs _) ?_;conv=>whnf
  refine Dj (by rw [dw];exact QP.1) ?_;conv=>whnf
  refine Dj (by rw [dw];exact QP.2) ?_;conv=>whnf
  refine ⟨by omega,?_⟩;conv=>whnf
  rw [ag];conv=>whnf
  refine Dj (gs _) ?_;conv=>whnf
  refine E7 (by rw [IW];omega) ?_;conv=>whnf
  refine E7 (by rw [List.length_set,IW];omega) ?_;conv=>whnf
  refine ⟨by omega,?_⟩;conv=>whnf
  rw [ag];conv=>whnf
  rw [List.set_set];refine Dj (gs _) ?_;conv=>whnf
  refine E7 (by rw [List.length_set,List.length_set,IW];omega) ?_;conv=>whnf
  refine E7 (by rw [List.length_set,List.length_set,List.length_set,IW];omega) ?_;conv=>whnf
  rw [List.set_set,cd,dw];refine Gy _ _ _ ?_;conv=>whnf
  subst cp;unfold Sn;conv=>whnf
  refine ⟨g.length-(t+1),by omega,t+1,by omega,rfl,?_,?_⟩
  ·rw [←rW t (by omega),show ((g.length-1-(t+1):Nat):Int)=IntKind.i64.wrap (((g.length-1-t:Nat):Int)-1) by rw [Ib _ (by omega) (by omega)];omega];rfl
  ·have ai:=agO g 0 t (by omega);rw [Nat.zero_add] at ai;rw [←ai,←RO _ _ _ (by rw [List.length_set];omega),←RO _ _ _ (by omega)];rfl
 ·conv=>whnf
  have e:HD g 0 t=g.reverse:=by
   rw [agN g 0 t (by omega) (by omega),S2];simp
  rw [e];exact bz _ _ _ ⟨.inl rfl,⟨by simp,fun j o az=>.inr az⟩,rfl⟩

def F' (p:Int×Int):Nat:=(2*p.1+p.2).toNat
theorem WB {p:Int×Int} (ad:0≤p.1) (af:0≤p.2∧p.2≤1):rv (F' p)=p:=by
 unfold rv F';exact Prod.ext (by simp only;omega) (by simp only;omega)
def LA (L:List Nat) (p:Int×Int):Bool:=decide (F' p∈L)
def G_ (L:List Nat) (p:Int×Int):List Nat:=L.filter fun x=>decide (x≠F' p)
def IH (L:List Nat) (p:Int×Int):List Nat:=G_ (G_ L p) (p.1,1-p.2)
structure sb (t:qb) (L:List Nat) (qB out:List (Int×Int)) (a:Int) (rG v5:I) (x y:Nat) (H:List au):Prop where
 Gm:L.Nodup
 aT:H[0]?=some (HH t)
 ad:∃ GN,H[1]?=some (.map (rU L) GN)
 af:H[2]?=some (.cells [.map 1])
 aH:H[3]?=some (.cells [rG])
 bh:H[4]?=some (.cells [hG a])
 hw:(qB=[]∧rG=.ax [] 0 .full)∨(rG=.cf x (x+1) qB.length 2∧4<x∧∃ cs,H[x]?=some (.grow cs (x+1) 2)∧qB.length*2≤cs.length∧cs.take (qB.length*2)=qB.flatMap p6)
 ar:(out=[]∧v5=.ax [] 0 .full)∨(v5=.cf y (y+1) out.length 2∧4<y∧H[y]?=some (.grow (out.flatMap p6) (y+1) 2))
 ne:x≠y
 Jj:x<H.length
 Jk:y<H.length
 II:x=0∨4<x
 Ij:y=2∨4<y
theorem sb.len {t:qb} {L:List Nat} {qB out:List (Int×Int)} {a:Int} {rG v5:I} {x y:Nat} {H:List au} (h:sb t L qB out a rG v5 x y H):4<H.length:=(List.getElem?_eq_some_iff.1 h.bh).1
theorem sb.more {t:qb} {L:List Nat} {qB out:List (Int×Int)} {a:Int} {rG v5:I} {x y:Nat} {H:List au} (h:sb t L qB out a rG v5 x y H) (Z:List au):sb t L qB out a rG v5 x y (H++Z):=by
 obtain ⟨Gm,aT,⟨GN,ad⟩,af,aH,bh,hw,ar,ne,Jj,Jk,II,Ij⟩:=h;refine ⟨Gm,qU aT,⟨GN,qU ad⟩,qU af,qU aH,qU bh,?_,?_,ne,by simp;omega,by simp;omega,II,Ij⟩
 ·rcases hw with hw | ⟨bE,bS,cs,F9,Iv⟩
  ·exact .inl hw
  ·exact .inr ⟨bE,bS,cs,qU F9,Iv⟩
 ·rcases ar with ar | ⟨bE,bS,F9⟩
  ·exact .inl ar
  ·exact .inr ⟨bE,bS,qU F9⟩
theorem sb.ag_ {t:qb} {L:List Nat} {qB out:List (Int×Int)} {a:Int} {rG v5:I} {x y j:Nat} {H:List au} {c:au} (h:sb t L qB out a rG v5 x y H) (akz:4<j) (al:j≠x) (aZ:j≠y):sb t L qB out a rG v5 x y (H.set j c):=by
 obtain ⟨Gm,aT,⟨GN,ad⟩,af,aH,bh,hw,ar,ne,Jj,Jk,II,Ij⟩:=h;refine ⟨Gm,qZ aT (by omega),⟨GN,qZ ad (by omega)⟩,qZ af (by omega),qZ aH (by omega),qZ bh (by omega),?_,?_,ne,by simpa using Jj,by simpa using Jk,II,Ij⟩
 ·rcases hw with hw | ⟨bE,bS,cs,F9,Iv⟩
  ·exact .inl hw
  ·exact .inr ⟨bE,bS,cs,qZ F9 al,Iv⟩
 ·rcases ar with ar | ⟨bE,bS,F9⟩
  ·exact .inl ar
  ·exact .inr ⟨bE,bS,qZ F9 aZ⟩
theorem JD {H:List au} {j:Nat} {c:au} (h:j<H.length):(H.set j c)[j]?=some c:=List.getElem?_set_self h
theorem sb.map {t:qb} {L h_:List Nat} {qB out:List (Int×Int)} {a:Int} {rG v5:I} {x y GN:Nat} {H:List au} (h:sb t L qB out a rG v5 x y H) (aP:h_.Nodup):sb t h_ qB out a rG v5 x y (H.set 1 (.map (rU h_) GN)):=by
 have aq:=h.len;obtain ⟨Gm,aT,_,af,aH,bh,hw,ar,ne,Jj,Jk,II,Ij⟩:=h;refine ⟨aP,qZ aT (by omega),⟨GN,JD (by omega)⟩,qZ af (by omega),qZ aH (by omega),qZ bh (by omega),?_,?_,ne,by simpa using Jj,by simpa using Jk,II,Ij⟩
 ·rcases hw with hw | ⟨bE,bS,cs,F9,Iv⟩
  ·exact .inl hw
  ·exact .inr ⟨bE,bS,cs,qZ F9 (by omega),Iv⟩
 ·rcases ar with ar | ⟨bE,bS,F9⟩
  ·exact .inl ar
  ·exact .inr ⟨bE,bS,qZ F9 (by omega)⟩
theorem V0 {P:Program} {C:cc} {lo id:Nat} {o:Oper} {t e:TypeId} {x:Operand} {H:List au} {v:I} (ar:o.op=.load t x) (aw:P.underlying t=some (.slice e)) (ah:H[id]?=some (.cells [v])) (ae:v=.ax [] 0 .full∨∃ i g n z,v=.cf i g n z) :
  a6 P C lo o 5 [.ptr id 0] H=some (v,H):=by
 unfold a6;rw [ar];show dF P lo 5 t H [.ptr id 0]=_;unfold dF;simp only [aw,ah];rcases ae with rfl | ⟨i,g,n,z,rfl⟩ <;> rfl

abbrev agL (t:qb) (a:Int) (v5:I):List I:=(F2 92 [(1,.ptr 0 0),(3,.ptr 2 0),(5,v5),(6,.ptr 3 0),(7,.ptr 4 0),(8,.func 89 [Gq t] []),(38,.func 89 [Gq t] []),(39,hG a),(40,.func 113 [] [.bT [Gq t],.bT [hG a]])]).map I.view
noncomputable abbrev HC (t:qb) (a:Int) (v5:I) (st:LoopState) (afO:Option Code):au:=.loop st afO 104 (agL t a v5) [41] (FW Tryz.prog 104 0) (FX Tryz.prog 104 0) Ka
section
variable {t:qb} {L:List Nat} {qB out:List (Int×Int)} {a:Int} {rG v5:I} {x y:Nat} {H:List au} {p:Int×Int}
theorem acD (jx:0≤p.1) (m5:0≤p.2∧p.2≤1) (gY:F' p ∉ L):fy (.agg [hG p.1,hG p.2]) (rU L) 0=some none:=by
 have:=N' (F' p) L 0 gY;rw [WB jx m5] at this;exact this
theorem Vb (jx:0≤p.1) (m5:0≤p.2∧p.2≤1) (gY:F' p∈L) (aP:L.Nodup):∃ i,fy (.agg [hG p.1,hG p.2]) (rU L) 0=some (some i)∧(∃ e:Nat×I×I,(rU L)[i]?=some e∧e.2.2=hG 1)∧(rU L).eraseIdx i=rU (G_ L p):=by
 obtain ⟨i,ad,af,aH⟩:=U' (F' p) L 0 gY aP;rw [WB jx m5,Nat.zero_add] at ad;exact ⟨i,ad,af,aH⟩
theorem W_ (cg:sb t L qB out a rG v5 x y H) (jx:0≤p.1) (m5:0≤p.2∧p.2≤1) (gY:F' p ∉ L) (Y:List au) :
  ∃ rL,Sem Tryz.prog (.yield H.length) [.agg (p6 p)] ((H++[HC t a v5 .ready none])++Y) 0 (.bool true) ((H++[HC t a v5 .ready none])++rL):=by
 refine ⟨Y++[.dead],F1 dD V4 V5 (Ob _ _ _) rfl (OE (by simp)) ?_⟩;obtain ⟨GN,ad⟩:=cg.ad;unfold RY;conv=>whnf
 refine Dj (x:=au.cells [(hG (0:Int)),(hG (0:Int))]) (by first | exact qs.h | rfl | (simp [List.getElem?_append,I.settle];done)) ?_
 conv=>whnf
 rw [rK];refine ⟨rfl,Oc _ _ _ _,?_⟩;rw [SU];unfold RZ;obtain ⟨bt,ed⟩:∃ c,OR=c:=⟨_,rfl⟩;rw [ed];conv=>whnf
 refine Dj (qU (qU (qU cg.af))) ?_;conv=>whnf
 refine Dj (x:=au.cells [hG p.1,hG p.2]) (by first | exact qs.h | rfl | (simp [List.getElem?_append,I.settle];done)) ?_
 conv=>whnf
 refine ⟨rfl,_,_,qU (qU (qU ad)),none,acD jx m5 gY,?_⟩;conv=>whnf
 refine ⟨_,rfl,?_⟩;conv=>whnf
 show _∧(((H++[HC t a v5 .busy none])++Y)++[_])[H.length]?=_∧iZ ((((H++[HC t a v5 .busy none])++Y)++[_]).set H.length _) _;exact ⟨rfl,Oc _ _ _ _,by rw [SU];exact acB _ _ _ _⟩
theorem N6 (aP:L.Nodup):(G_ L p).Nodup:=aP.filter _
theorem sb.push {G:List au} {cells:List I} (cg:sb t L qB out a rG v5 x y G) (ak:cells=(qB++[p]).flatMap p6) {b:Int} {D:List au} (rJ:D=G∨(D=G.set x .dead∧4<x)) :
  sb t L (qB++[p]) out b (.cf G.length (G.length+1) (qB.length+1) 2) v5 G.length y (((D++[au.grow cells (G.length+1) 2,au.dead]).set 3 (au.cells [.cf G.length (G.length+1) (qB.length+1) 2])).set 4 (au.cells [hG b])):=by
 subst ak;have aq:=cg.len;have Oi:D.length=G.length:=by rcases rJ with rfl | ⟨rfl,_⟩ <;> simp
 obtain ⟨Gm,aT,⟨GN,ad⟩,af,aH,bh,hw,ar,ne,Jj,Jk,II,Ij⟩:=cg;have MF:∀ (j:Nat) (o:au),j≠x∨D=G→G[j]?=some o→D[j]?=some o:=fun j o az h=>by
  rcases rJ with rfl | ⟨rfl,_⟩
  ·exact h
  ·rcases az with az | az
   ·exact qZ h (Ne.symm az)
   ·rw [az];exact h
 have Kf:∀ j:Nat,j≤4→j≠x∨D=G:=fun j az=>by
  rcases rJ with h | ⟨_,h⟩
  ·exact .inr h
  ·exact .inl (by omega)
 refine ⟨Gm,?_,⟨GN,?_⟩,?_,?_,?_,?_,?_,?_,?_,?_,.inr (by omega),Ij⟩
 ·exact qZ (qZ (qU (MF 0 _ (Kf 0 (by omega)) aT)) (by omega)) (by omega)
 ·exact qZ (qZ (qU (MF 1 _ (Kf 1 (by omega)) ad)) (by omega)) (by omega)
 ·exact qZ (qZ (qU (MF 2 _ (Kf 2 (by omega)) af)) (by omega)) (by omega)
 ·exact qZ (JD (by simp;omega)) (by omega)
 ·exact JD (by simp;omega)
 ·refine .inr ⟨by simp,by omega,(qB++[p]).flatMap p6,?_,by rw [IW];exact Nat.le_refl _,List.take_of_length_le (by rw [IW];exact Nat.le_refl _)⟩;rw [←Oi];exact qZ (qZ (GO _ _) (by omega)) (by omega)
 ·rcases ar with ar | ⟨bE,bS,F9⟩
  ·exact .inl ar
  ·exact .inr ⟨bE,bS,qZ (qZ (qU (MF y _ (.inl (Ne.symm ne)) F9)) (by omega)) (by omega)⟩
 ·omega
 ·simp;omega
 ·simp;omega
theorem agW (cg:sb t L qB out a rG v5 x y H) (jx:0≤p.1∧p.1<(t.2.length:Int)) (m5:0≤p.2∧p.2≤1) (gY:F' p∈L) (Rl:F' (p.1,1-p.2)∈G_ L p) (Rv:qB.length≤1000) (Y:List au) :
  ∃ H',Sem Tryz.prog (.yield H.length) [.agg (p6 p)] ((H++[HC t a v5 .ready none])++Y) 0 (.bool false) H' ∧
    H'[H.length]?=some (HC t a v5 .done (some (.exit 3)))∧∃ Ta nX,sb t (IH L p) (qB++[p]) out (fin t p) Ta v5 nX y (H'.set H.length .dead):=by
 have adF:=cg.len;have akF:=cg.II;have adp:=cg.Ij;have adH:=cg.Jj;have adI:=cg.Jk;obtain ⟨GN,hm⟩:=cg.ad;obtain ⟨i1,f1,⟨e1,cd,dw⟩,f3⟩:=Vb jx.1 m5 gY cg.Gm;obtain ⟨i2,f4,_,f5⟩:=Vb (p:=(p.1,1-p.2)) jx.1 (by simp only;omega) Rl (N6 cg.Gm);have yA:IntKind.i64.wrap (1-p.2)=1-p.2:=Ib _ (by omega) (by omega);obtain ⟨I6,Jb⟩:∃ I6,I6=(H++[HC t a v5 .busy none])++Y++[au.cells [hG p.1,hG p.2]]:=⟨_,rfl⟩;have IN:sb t L qB out a rG v5 x y I6:=by rw [Jb];exact ((cg.more _).more _).more _
 have akI:I6.length=H.length+1+Y.length+1:=by rw [Jb];simp;omega
 have cR:I6[((H++[HC t a v5 .ready none])++Y).length]?=some (.cells [hG p.1,hG p.2]):=by rw [Jb];simp [List.getElem?_append]
 have ag:I6[H.length]?=some (HC t a v5 .busy none):=by rw [Jb];exact Oc _ _ _ _
 obtain ⟨A8,Rc⟩:∃ A8,A8=((H++[HC t a v5 .ready none])++Y).length:=⟨_,rfl⟩;have akC:A8=H.length+1+Y.length:=by rw [Rc];simp;omega
 have FC:I6[1]?=some (.map (rU L) GN):=by rw [Jb];exact qU (qU (qU hm))
 rw [←Rc] at cR;obtain ⟨Hi,Ik⟩:∃ Hi,Hi=I6.set 1 (.map (rU (G_ L p)) GN):=⟨_,rfl⟩;have oF:sb t (G_ L p) qB out a rG v5 x y Hi:=by rw [Ik];exact IN.map (N6 cg.Gm)
 have adJ:Hi[1]?=some (.map (rU (G_ L p)) GN):=by rw [Ik];exact JD (by omega)
 have QZ:Hi[A8]?=some (.cells [hG p.1,hG p.2]):=by rw [Ik];exact qZ cR (by omega)
 have eQ:Hi[H.length]?=some (HC t a v5 .busy none):=by rw [Ik];exact qZ ag (by omega)
 obtain ⟨rD,Hy⟩:∃ rD,rD=Hi.set 1 (.map (rU (IH L p)) GN):=⟨_,rfl⟩;have IP:sb t (IH L p) qB out a rG v5 x y rD:=by rw [Hy];exact oF.map (N6 (N6 cg.Gm))
 have Og:rD[A8]?=some (.cells [hG p.1,hG p.2]):=by rw [Hy];exact qZ QZ (by omega)
 have fi:rD[H.length]?=some (HC t a v5 .busy none):=by rw [Hy];exact qZ eQ (by omega)
 have e7:rD.length=I6.length:=by rw [Hy,Ik];simp
 obtain ⟨D,rJ,cells,BD,Cz⟩:∃ D:List au,(D=rD∨(D=rD.set x .dead∧4<x))∧∃ cells:List I,cells=(qB++[p]).flatMap p6 ∧
   ((rG=.ax [] 0 .full∧qB=[]∧D=rD∧cells=p6 p)∨(rG=.cf x (x+1) qB.length 2∧D=rD.set x .dead∧∃ cs,rD[x]?=some (.grow cs (x+1) 2)∧((cs.length=qB.length*2∧cells=cs++p6 p)∨(qB.length*2<cs.length∧cells=cs.take (qB.length*2)++p6 p)))):=by
  rcases IP.hw with ⟨bE,bS⟩ | ⟨bE,bS,cs,F9,Iv,LS⟩
  ·exact ⟨rD,.inl rfl,p6 p,by rw [bE];simp,.inl ⟨bS,bE,rfl,rfl⟩⟩
  ·refine ⟨rD.set x .dead,.inr ⟨rfl,bS⟩,cs.take (qB.length*2)++p6 p,by rw [LS];simp,.inr ⟨bE,rfl,cs,F9,?_⟩⟩;rcases Nat.lt_or_ge (qB.length*2) cs.length with h | h
   ·exact .inr ⟨h,rfl⟩
   ·exact .inl ⟨by omega,by rw [List.take_of_length_le (by omega)]⟩
 have Vy:=IP.push (b:=fin t p) BD rJ;have Oi:D.length=rD.length:=by rcases rJ with rfl | ⟨rfl,_⟩ <;> simp
 have Vv:∀ (j:Nat) (o:au),j≠x→rD[j]?=some o→D[j]?=some o:=fun j o az h=>by
  rcases rJ with rfl | ⟨rfl,_⟩
  ·exact h
  ·exact qZ h (Ne.symm az)
 have Kf:∀ (j:Nat) (o:au),j≤4→rD[j]?=some o→D[j]?=some o:=fun j o az h=>by
  rcases rJ with rfl | ⟨rfl,bh⟩
  ·exact h
  ·exact qZ h (by omega)
 obtain ⟨Mh,G2⟩:∃ Mh,Mh=D++[au.grow cells (rD.length+1) 2,au.dead]:=⟨_,rfl⟩;obtain ⟨Ju,IL⟩:∃ Ju,Ju=Mh.set 3 (au.cells [.cf rD.length (rD.length+1) (qB.length+1) 2]):=⟨_,rfl⟩;rw [←G2,←IL] at Vy;have Q1:Ju[A8]?=some (.cells [hG p.1,hG p.2]):=by rw [IL,G2];exact qZ (qU (Vv _ _ (by omega) Og)) (by omega)
 have QS:Ju[0]?=some (HH t):=by rw [IL,G2];exact qZ (qU (Kf 0 _ (by omega) IP.aT)) (by omega)
 have QX:Ju[4]?=some (.cells [hG a]):=by rw [IL,G2];exact qZ (qU (Kf 4 _ (by omega) IP.bh)) (by omega)
 have akH:4<Mh.length:=by rw [G2];simp;omega
 have QW:Mh[3]?=some (.cells [rG]):=by rw [G2];exact qU (Kf 3 _ (by omega) IP.aH)
 have qA:(Ju.set 4 (au.cells [hG (fin t p)]))[H.length]?=some (HC t a v5 .busy none):=by rw [IL,G2];exact qZ (qZ (qU (Vv _ _ (by omega) fi)) (by omega)) (by omega)
 have adG:H.length<(Ju.set 4 (au.cells [hG (fin t p)])).length:=by rw [IL,G2];simp;omega
 refine ⟨(Ju.set 4 (au.cells [hG (fin t p)])).set H.length (HC t a v5 .done (some (.exit 3))),?_,JD adG,?_⟩
 ·refine ag9 (id:=3) dD V4 V5 (Ob _ _ _) rfl (OE ?_) ?_
  ·rw [List.length_set,List.length_set,IL,G2,List.length_set];simp;omega
  unfold RY;conv=>whnf
  refine Dj (x:=au.cells [(hG (0:Int)),(hG (0:Int))]) (by first | exact qs.h | rfl | (simp [List.getElem?_append,I.settle];done)) ?_
  conv=>whnf
  rw [rK];refine ⟨rfl,Oc _ _ _ _,?_⟩;rw [SU];unfold RZ;obtain ⟨bt,ed⟩:∃ c,OR=c:=⟨_,rfl⟩;rw [ed,←Rc];erw [←Jb];conv=>whnf
  refine Dj IN.af ?_;conv=>whnf
  refine Dj cR ?_;conv=>whnf
  refine ⟨rfl,_,_,FC,some i1,f1,?_⟩;conv=>whnf
  refine ⟨e1,cd,?_⟩;rw [dw];conv=>whnf
  refine Dj IN.af ?_;conv=>whnf
  refine Dj cR ?_;conv=>whnf
  refine ⟨rfl,_,_,FC,some i1,f1,?_⟩;conv=>whnf
  rw [f3,←Ik];conv=>whnf
  subst ed;unfold OR;obtain ⟨bm,cp⟩:∃ c,R0=c:=⟨_,rfl⟩;rw [cp];conv=>whnf
  refine Dj oF.af ?_;conv=>whnf
  refine Dj QZ ?_;conv=>whnf
  refine Dj QZ ?_;conv=>whnf
  rw [yA];refine ⟨rfl,_,_,adJ,some i2,f4,?_⟩;conv=>whnf
  erw [f5,←Hy];conv=>whnf
  subst cp;unfold R0;obtain ⟨a',cn⟩:∃ c,Ni=c:=⟨_,rfl⟩;rw [cn];conv=>whnf
  have adZ:rG=.ax [] 0 .full∨∃ i g n z,rG=.cf i g n z:=by
   rcases Cz with ⟨h,_⟩ | ⟨h,_⟩
   ·exact .inl h
   ·exact .inr ⟨_,_,_,_,h⟩
  refine ⟨_,_,fun C=>V0 rfl (e:=65) (by kernel_rfl) IP.aH adZ,?_⟩;rcases Cz with ⟨rfl,rfl,rfl,rfl⟩ | ⟨rfl,rfl,cs,al,⟨ad,rfl⟩ | ⟨ad,rfl⟩⟩
  ·(conv=>whnf);refine Dj Og ?_;(conv=>whnf);refine ⟨⟨rfl,by decide⟩,?_⟩;(conv=>whnf);refine ⟨⟨by decide,by decide,rfl⟩,?_⟩;erw [←G2];(conv=>whnf);refine Dj QW ?_;(conv=>whnf);erw [←IL];(conv=>whnf);subst cn;unfold Ni;(conv=>whnf);refine Dj QS ?_;(conv=>whnf);refine Dj Q1 ?_;(conv=>whnf);refine ⟨(p5 (q' (p5 rfl (p5 (q4 (fun _=>(p5 rfl (p5 rfl rfl))) _ _ _) rfl))) (p5 (H8 (p5 rfl (p5 rfl rfl))) rfl)),_,I3 (Ix jx),?_⟩;(conv=>whnf);refine Dj QX ?_;(conv=>whnf);exact ⟨rfl,qA,iZ.refl _⟩
  ·(conv=>whnf);refine Dj Og ?_;(conv=>whnf);refine ⟨⟨rfl,by decide⟩,?_⟩;(conv=>whnf);refine Dj al ?_;(conv=>whnf);refine .inl ⟨⟨rfl,rfl,rfl,ad,by decide,by omega⟩,?_⟩;erw [←G2];(conv=>whnf);refine Dj QW ?_;(conv=>whnf);erw [←IL];(conv=>whnf);subst cn;unfold Ni;(conv=>whnf);refine Dj QS ?_;(conv=>whnf);refine Dj Q1 ?_;(conv=>whnf);refine ⟨(p5 (q' (p5 rfl (p5 (q4 (fun _=>(p5 rfl (p5 rfl rfl))) _ _ _) rfl))) (p5 (H8 (p5 rfl (p5 rfl rfl))) rfl)),_,I3 (Ix jx),?_⟩;(conv=>whnf);refine Dj QX ?_;(conv=>whnf);exact ⟨rfl,qA,iZ.refl _⟩
  ·(conv=>whnf);refine Dj Og ?_;(conv=>whnf);refine ⟨⟨rfl,by decide⟩,?_⟩;(conv=>whnf);refine Dj al ?_;(conv=>whnf);refine .inr ⟨⟨rfl,rfl,rfl,ad,by decide,by omega⟩,?_⟩;erw [←G2];(conv=>whnf);refine Dj QW ?_;(conv=>whnf);erw [←IL];(conv=>whnf);subst cn;unfold Ni;(conv=>whnf);refine Dj QS ?_;(conv=>whnf);refine Dj Q1 ?_;(conv=>whnf);refine ⟨(p5 (q' (p5 rfl (p5 (q4 (fun _=>(p5 rfl (p5 rfl rfl))) _ _ _) rfl))) (p5 (H8 (p5 rfl (p5 rfl rfl))) rfl)),_,I3 (Ix jx),?_⟩;(conv=>whnf);refine Dj QX ?_;(conv=>whnf);exact ⟨rfl,qA,iZ.refl _⟩
 ·rw [List.set_set];exact ⟨_,_,Vy.ag_ (by omega) (by omega) (by omega)⟩
end

theorem Va {α:Type} {q:α→Bool}:∀ {l:List α} {p:α},l.find? q=some p→∃ n,∃ h:n<l.length,l[n]=p∧q p=true∧∀ i (hi:i<n),q (l[i]'(by omega))=false
 | [],_,h=>by cases h
 | x::l,p,h=>by
   rw [List.find?_cons] at h;cases al:q x with
   | true =>
     rw [al] at h;obtain rfl:=Option.some.inj h;exact ⟨0,by simp,rfl,al,fun i hi=>absurd hi (by omega)⟩
   | false =>
     rw [al] at h;obtain ⟨n,ad,af,aH,bh⟩:=Va h;refine ⟨n+1,by simpa using ad,af,aH,fun i hi=>?_⟩;cases i with
     | zero=>exact al
     | succ i=>exact bh i (by omega)
theorem RL {b:qb} {f:Int} {p:Int×Int} (h:p∈Ga b f):0≤p.1∧p.1<(b.2.length:Int)∧0≤p.2∧p.2≤1∧qX b p=f:=by
 unfold Ga at h;obtain ⟨r,aj,rfl⟩:=List.mem_map.1 h;obtain ⟨ad,af⟩:=List.mem_filter.1 aj;have ad:=List.mem_range.1 ad;refine ⟨?_,?_,?_,?_,by simpa [rY] using af⟩ <;> unfold rv <;> simp only <;> omega
theorem Xr {α:Type} (l:List α):l=[]∨∃ (l':List α) (p:α),l=l'++[p]:=by
 rcases l.eq_nil_or_concat with h | ⟨l',p,h⟩
 ·exact .inl h
 ·exact .inr ⟨l',p,by rw [h,List.concat_eq_append]⟩
def Ji (t:qb):Nat→List Nat→List (Int×Int)→List (Int×Int)→Int→Option (List (Int×Int))
 | 0,_,_,_,_=>none
 | m+1,L,qB,out,a=>qd (qB.length≤1000∧out.length≤1000) <|
   match (Ga t a).find? (LA L) with
   | some p=>qd (F' (p.1,1-p.2)∈G_ L p) (Ji t m (IH L p) (qB++[p]) out (fin t p))
   | none=>match qB.getLast? with
     | none=>some out
     | some p=>qd (0≤p.1∧p.1<(t.2.length:Int)) (Ji t m L qB.dropLast (out++[p]) (qX t p))
def KE (t:qb):Option (List (Int×Int)) :=
 qd (0<t.2.length∧t.2.length≤1000) ((Ji t p' (List.range (2*t.2.length)) [] [] (ix t.2 0).1).bind fun out=>qd (out.length≠0∧out.length≤1000) (some out.reverse))
section
variable {t:qb} {L:List Nat} {qB out:List (Int×Int)} {a:Int} {rG v5:I} {x y:Nat} {H:List au} {p:Int×Int}
theorem sb.ah1 (cg:sb t L qB out a rG v5 x y H):v5.settle=v5:=by
 rcases cg.ar with ⟨_,h⟩ | ⟨h,_⟩ <;> rw [h] <;> rfl
theorem sb.pop {b:Int} (cg:sb t L (qB++[p]) out a rG v5 x y H) (hw:rG=.cf x (x+1) (qB.length+1) 2) {cells:List I} (ak:cells=(out++[p]).flatMap p6) {D:List au} {G:List au} (Gx:G=H.set 3 (.cells [.cf x (x+1) qB.length 2])) (rJ:D=G∨(D=G.set y .dead∧4<y)) :
  sb t L qB (out++[p]) b (.cf x (x+1) qB.length 2) (.cf G.length (G.length+1) (out.length+1) 2) x G.length ((D++[au.grow cells (G.length+1) 2,au.dead]).set 4 (au.cells [hG b])):=by
 subst ak;have aq:=cg.len;have akA:G.length=H.length:=by rw [Gx];simp
 have Oi:D.length=G.length:=by rcases rJ with rfl | ⟨rfl,_⟩ <;> simp
 obtain ⟨Gm,aT,⟨GN,ad⟩,af,aH,bh,lO,ar,ne,Jj,Jk,II,Ij⟩:=cg;have G2:∀ (j:Nat) (o:au),j≠3→H[j]?=some o→G[j]?=some o:=fun j o az h=>by rw [Gx];exact qZ h (Ne.symm az)
 have acW:∀ (j:Nat) (o:au),j≠y→G[j]?=some o→D[j]?=some o:=fun j o az h=>by
  rcases rJ with rfl | ⟨rfl,_⟩
  ·exact h
  ·exact qZ h (Ne.symm az)
 have Oh:∀ (j:Nat) (o:au),j≤4→G[j]?=some o→D[j]?=some o:=fun j o az h=>by
  rcases rJ with rfl | ⟨rfl,a4⟩
  ·exact h
  ·exact qZ h (by omega)
 refine ⟨Gm,?_,⟨GN,?_⟩,?_,?_,JD (by simp;omega),.inr ?_,.inr ⟨by simp,by omega,?_⟩,by omega,by simp;omega,by simp;omega,II,.inr (by omega)⟩
 ·exact qZ (qU (Oh 0 _ (by omega) (G2 0 _ (by omega) aT))) (by omega)
 ·exact qZ (qU (Oh 1 _ (by omega) (G2 1 _ (by omega) ad))) (by omega)
 ·exact qZ (qU (Oh 2 _ (by omega) (G2 2 _ (by omega) af))) (by omega)
 ·refine qZ (qU (Oh 3 _ (by omega) ?_)) (by omega);rw [Gx];exact JD (by omega)
 ·rcases lO with ⟨bE,_⟩ | ⟨bE,bS,cs,F9,Iv,LS⟩
  ·exact absurd bE (by simp)
  ·refine ⟨rfl,bS,cs,qZ (qU (acW x _ ne (G2 x _ (by omega) F9))) (by omega),?_,?_⟩
   ·rw [List.length_append] at Iv;omega
   ·have:=congrArg (List.take (qB.length*2)) LS;rw [List.take_take,List.flatMap_append] at this;rw [List.length_append,Nat.min_eq_left (by omega)] at this;rw [this,List.take_append_of_le_length (by rw [IW];exact Nat.le_refl _),List.take_of_length_le (by rw [IW];exact Nat.le_refl _)]
 ·rw [←Oi];exact qZ (GO _ _) (by omega)
theorem aed {cs:List I} (h:(qB.length+1)*2≤cs.length) (e:cs.take ((qB.length+1)*2)=(qB++[p]).flatMap p6):cs[qB.length*2]?=some (hG p.1)∧cs[qB.length*2+1]?=some (hG p.2):=by
 have g:=ON (qB++[p]) qB.length (by simp);have ae:(qB++[p]).getD qB.length (0,0)=p:=by simp
 rw [ae,←e,List.getElem?_take,List.getElem?_take,if_pos (by omega),if_pos (by omega)] at g;exact g
theorem agV {LH:List (Int×Int)} (pf:t.2.length≤1000) (IN:sb t L qB out a rG v5 x y H) (h:Ji t p' L qB out a=some LH)
  {Q:cC→List I→List au→Prop} (av:∀ L a rG v5 x y H LO LP LQ X',sb t L [] LH a rG v5 x y H→Q (.exit 2) (F2 92 [(1,.ptr 0 0),(3,.ptr 2 0),(5,v5),(6,.ptr 3 0),(7,.ptr 4 0),(8,.func 89 [Gq t] []),(38,LO),(39,LP),(40,LQ),(67,X')]) H)
  {T:List I} (bW:eL [false,true,false,true,false,true,true,true,true,false,false,false,false,false,false,false,false,false,false,false,false,false,false,false,false,false,false,false,false,false,false,false,false,false,false,false,false,false,false,false,false,false,false,false,false,false,false,false,false,false,false,false,false,false,false,false,false,false,false,false,false,false,false,false,false,false,false,false,false,false,false,false,false,false,false,false,false,false,false,false,false,false,false,false,false,false,false,false,false,false,false,false] T=F2 92 [(1,.ptr 0 0),(3,.ptr 2 0),(5,v5),(6,.ptr 3 0),(7,.ptr 4 0),(8,.func 89 [Gq t] [])]):dB Tryz.prog Ka 104 0 none OS T H Q:=by
 unfold OS;obtain ⟨mC,GG⟩:∃ c,R8=c:=⟨_,rfl⟩;rw [GG];refine wp_loop bW ?_;refine .intro (fun m T H=>∃ L qB out a rG v5 x y,sb t L qB out a rG v5 x y H∧T=F2 92 [(1,.ptr 0 0),(3,.ptr 2 0),(5,v5),(6,.ptr 3 0),(7,.ptr 4 0),(8,.func 89 [Gq t] [])]∧Ji t m L qB out a=some LH) p' ⟨_,_,_,_,_,_,_,_,IN,rfl,h⟩ ?_;clear h bW IN;rintro m T H ⟨L,qB,out,a,rG,v5,x,y,cg,rfl,h⟩;cases m
 ·exact q3 h
 rename_i m;rw [Ji.eq_2] at h;obtain ⟨⟨Rv,fD⟩,h⟩:=qD h;have VP:JR t a=some (Ga t a):=by rw [JR,if_pos pf]
 subst GG;unfold R8;obtain ⟨aku,Vq⟩:∃ c,R'=c:=⟨_,rfl⟩;obtain ⟨fN,Gw⟩:∃ c,R7=c:=⟨_,rfl⟩;rw [Vq,Gw];refine HI fun mv Gy=>?_;conv=>whnf
 refine Dj cg.bh ?_;conv=>whnf
 refine ⟨(p5 (q' (p5 rfl (p5 (q4 (fun _=>(p5 rfl (p5 rfl rfl))) _ _ _) rfl))) (p5 rfl rfl)),_,aj7 (v:=()) rfl,?_⟩;conv=>whnf
 subst Vq;unfold R';have OB:=cg.ah1;cases bl:(Ga t a).find? (LA L) with
 | some p =>
   rw [bl] at h;obtain ⟨Rl,aq⟩:=qD h;obtain ⟨n,aP,adN,gY,fS⟩:=Va bl;have aD:=RL (List.mem_of_find?_eq_some bl);refine agQ (id:=3) (f:=fun e=>.agg (p6 e)) (ag7 VP) aP (by exact rfl) (fun i hi Y=>?_) (fun Y=>?_) (by exact rfl)
   ·have ym:=RL (List.getElem_mem (show i<(Ga t a).length by omega));exact W_ cg ym.1 ⟨ym.2.2.1,ym.2.2.2.1⟩ (of_decide_eq_false (fS i hi)) Y
   ·rw [adN];obtain ⟨H',adU,ado,Ta,nX,oE⟩:=agW cg ⟨aD.1,aD.2.1⟩ ⟨aD.2.2.1,aD.2.2.2.1⟩ (of_decide_eq_true gY) Rl Rv Y;refine ⟨H',⟨ado,?_⟩,adU⟩;(conv=>whnf);refine Gy _ _ _ ?_;(conv=>whnf);exact ⟨m,Nat.lt_succ_self m,_,_,_,_,Ta,v5.settle,nX,y,by rw [OB];exact oE,rfl,aq⟩
 | none =>
   rw [bl] at h;have fS:=List.find?_eq_none.1 bl;refine agS (f:=fun e=>.agg (p6 e)) (ag8 VP) (fun _=>H) (by exact rfl) rfl (fun _=>rfl) (fun i hi Y=>?_) (by exact rfl) rfl (fun Y=>?_)
   ·have ym:=RL (List.getElem_mem hi);exact W_ cg ym.1 ⟨ym.2.2.1,ym.2.2.2.1⟩ (by have:=fS _ (List.getElem_mem hi);simpa [LA] using this) Y
   have HP:sb t L qB out a rG v5 x y ((H++[.dead])++Y):=(cg.more _).more _;clear cg;obtain ⟨G,Gx⟩:∃ G,G=(H++[au.dead])++Y:=⟨_,rfl⟩;rw [←Gx] at HP ⊢;(conv=>whnf);refine Dj HP.aH ?_;rcases HP.hw with ⟨rfl,rfl⟩ | ⟨rfl,akM,cs,al,dh,BH⟩
   ·obtain rfl:=Option.some.inj h;(conv=>whnf);refine Gy _ _ _ ?_;(conv=>whnf);exact av _ _ _ _ _ _ _ _ _ _ _ (by rw [OB];exact HP)
   ·(conv=>whnf);rcases Xr qB with rfl | ⟨Hg,p,rfl⟩
    ·obtain rfl:=Option.some.inj h;(conv=>whnf);refine Gy _ _ _ ?_;(conv=>whnf);exact av _ _ _ _ _ _ _ _ _ _ _ (by rw [OB];exact HP)
    ·rw [List.getLast?_concat] at h;obtain ⟨jx,aq⟩:=qD h;rw [List.dropLast_concat] at aq;(have hlen:(Hg++[p]).length=Hg.length+1:=by simp);(have yA:IntKind.i64.wrap ((((Hg++[p]).length:Nat):Int)-1)=(Hg.length:Int):=by rw [hlen,Ib _ (by omega) (by omega)];omega);rw [hlen] at dh BH Rv;obtain ⟨jo,hO⟩:=aed dh BH;have adF:=HP.len;have GD:=HP.ne;have adH:=HP.Jj;have adI:=HP.Jk;have adp:=HP.Ij;rw [decide_eq_false (show ¬ ((((Hg++[p]).length:Nat):Int)=0) by omega)];rw [OB];(conv=>whnf);subst Gw;unfold R7;obtain ⟨dQ,Bp⟩:∃ c,R6=c:=⟨_,rfl⟩;rw [Bp];(conv=>whnf);refine Dj HP.aH ?_;(conv=>whnf);refine Dj HP.aH ?_;(conv=>whnf);rw [yA];refine ⟨by omega,?_⟩;(conv=>whnf);refine Dj al ?_;(conv=>whnf);refine Dj (by rw [show 0+(Hg.length:Int).toNat*2=Hg.length*2 by omega];exact jo) ?_;(conv=>whnf);refine Dj (by rw [show 0+(Hg.length:Int).toNat*2+1=Hg.length*2+1 by omega];exact hO) ?_;(conv=>whnf);refine Dj (IK _ _) ?_;(conv=>whnf);rw [rK];(conv=>whnf);obtain ⟨Hi,Ik⟩:∃ Hi,Hi=G++[au.cells [hG p.1,hG p.2]]:=⟨_,rfl⟩;(have oF:sb t L (Hg++[p]) out a (.cf x (x+1) (Hg++[p]).length 2) v5 x y Hi:=by rw [Ik];exact HP.more _);(have acQ:Hi[G.length]?=some (.cells [hG p.1,hG p.2]):=by rw [Ik];exact IK _ _);(have hp:Hi.length=G.length+1:=by rw [Ik];simp);erw [←Ik];subst Bp;unfold R6;obtain ⟨b6,il⟩:∃ c,R5=c:=⟨_,rfl⟩;rw [il];(conv=>whnf);refine ⟨_,_,fun C=>V0 rfl (e:=65) (by kernel_rfl) oF.aH (.inr ⟨_,_,_,_,rfl⟩),?_⟩;(conv=>whnf);refine Dj oF.aH ?_;(conv=>whnf);rw [yA];refine ⟨⟨by omega,by omega⟩,?_⟩;(conv=>whnf);refine Dj oF.aH ?_;(conv=>whnf);obtain ⟨rD,Hy⟩:∃ rD,rD=Hi.set 3 (.cells [.cf x (x+1) Hg.length 2]):=⟨_,rfl⟩;(have Oe:rD[G.length]?=some (.cells [hG p.1,hG p.2]):=by rw [Hy];exact qZ acQ (by omega));(have Vs:rD[0]?=some (HH t):=by rw [Hy];exact qZ oF.aT (by omega));(have Vt:rD[4]?=some (.cells [hG a]):=by rw [Hy];exact qZ oF.bh (by omega));(have e7:rD.length=Hi.length:=by rw [Hy];simp);erw [←Hy];subst il;unfold R5;obtain ⟨bt,ed⟩:∃ c,WO=c:=⟨_,rfl⟩;rw [ed];rcases oF.ar with ⟨ar,rfl⟩ | ⟨rfl,VR,aZ⟩
     ·have Rr:=oF.pop (b:=qX t p) (by rw [hlen]) (cells:=p6 p) (by rw [ar];simp) Hy (.inl rfl);(conv=>whnf);refine Dj Oe ?_;(conv=>whnf);refine ⟨⟨rfl,by decide⟩,?_⟩;(conv=>whnf);refine ⟨⟨by decide,by decide,rfl⟩,?_⟩;have QU:(rD++[au.grow (p6 p) (rD.length+1) 2,au.dead])[G.length]?=some (.cells [hG p.1,hG p.2]):=qU Oe;have QT:(rD++[au.grow (p6 p) (rD.length+1) 2,au.dead])[0]?=some (HH t):=qU Vs;have QY:(rD++[au.grow (p6 p) (rD.length+1) 2,au.dead])[4]?=some (.cells [hG a]):=qU Vt;subst ed;(conv=>whnf);refine Dj QT ?_;(conv=>whnf);refine Dj QU ?_;(conv=>whnf);refine ⟨(p5 (q' (p5 rfl (p5 (q4 (fun _=>(p5 rfl (p5 rfl rfl))) _ _ _) rfl))) (p5 (H8 (p5 rfl (p5 rfl rfl))) rfl)),_,I3 (Ix jx),?_⟩;(conv=>whnf);refine Dj QY ?_;(conv=>whnf);refine Gy _ _ _ ?_;(conv=>whnf);exact ⟨m,Nat.lt_succ_self m,_,Hg,_,_,_,_,_,_,Rr,by rw [ar];rfl,aq⟩
     ·(have ad2:rD[y]?=some (.grow (out.flatMap p6) (y+1) 2):=by rw [Hy];exact qZ aZ (by omega));have Rr:=oF.pop (b:=qX t p) (by rw [hlen]) (cells:=out.flatMap p6++p6 p) (by simp) Hy (.inr ⟨rfl,VR⟩);(conv=>whnf);refine Dj Oe ?_;(conv=>whnf);refine ⟨⟨rfl,by decide⟩,?_⟩;(conv=>whnf);refine Dj ad2 ?_;(conv=>whnf);refine .inl ⟨⟨rfl,rfl,rfl,IW _,by decide,by omega⟩,?_⟩;have QU:(rD.set y .dead++[au.grow (out.flatMap p6++p6 p) (rD.length+1) 2,au.dead])[G.length]?=some (.cells [hG p.1,hG p.2]):=qU (qZ Oe (by omega));have QT:(rD.set y .dead++[au.grow (out.flatMap p6++p6 p) (rD.length+1) 2,au.dead])[0]?=some (HH t):=qU (qZ Vs (by omega));have QY:(rD.set y .dead++[au.grow (out.flatMap p6++p6 p) (rD.length+1) 2,au.dead])[4]?=some (.cells [hG a]):=qU (qZ Vt (by omega));subst ed;(conv=>whnf);refine Dj QT ?_;(conv=>whnf);refine Dj QU ?_;(conv=>whnf);refine ⟨(p5 (q' (p5 rfl (p5 (q4 (fun _=>(p5 rfl (p5 rfl rfl))) _ _ _) rfl))) (p5 (H8 (p5 rfl (p5 rfl rfl))) rfl)),_,I3 (Ix jx),?_⟩;(conv=>whnf);refine Dj QY ?_;(conv=>whnf);refine Gy _ _ _ ?_;(conv=>whnf);exact ⟨m,Nat.lt_succ_self m,_,Hg,_,_,_,_,_,_,Rr,rfl,aq⟩
end

theorem afR (l:List (Int×Int)):(l.flatMap p6).map I.view=l.flatMap p6:=by
 rw [List.map_flatMap];rfl
theorem ad7 {t:qb} (pf:t.2.length≤1000)
  {Q:cC→List I→List au→Prop} (av:∀ E4,Q (.exit 0) (F2 92 [(1,.ptr 0 0),(3,.ptr 2 0),(4,E4),(17,hG t.2.length),(18,hG t.2.length),(19,B (decide ((t.2.length:Int)<(t.2.length:Int))))]) [HH t,.map (rU (List.range (2*t.2.length))) (2*t.2.length),.cells [.map 1]])
  {T:List I} (bW:eL [false,true,false,true,false,false,false,false,false,false,false,false,false,false,false,false,false,true,true,false,false,false,false,false,false,false,false,false,false,false,false,false,false,false,false,false,false,false,false,false,false,false,false,false,false,false,false,false,false,false,false,false,false,false,false,false,false,false,false,false,false,false,false,false,false,false,false,false,false,false,false,false,false,false,false,false,false,false,false,false,false,false,false,false,false,false,false,false,false,false,false,false] T=F2 92 [(1,.ptr 0 0),(3,.ptr 2 0),(17,hG t.2.length),(18,hG (0:Nat))]):dB Tryz.prog Ka 104 0 none OT T [HH t,.map [] 0,.cells [.map 1]] Q:=by
 unfold OT;obtain ⟨bm,cp⟩:∃ c,R4=c:=⟨_,rfl⟩;rw [cp];refine wp_loop bW ?_;refine .intro (fun m T H=>∃ i:Nat,i≤t.2.length∧m=t.2.length-i∧T=F2 92 [(1,.ptr 0 0),(3,.ptr 2 0),(17,hG t.2.length),(18,hG i)]∧H=[HH t,.map (rU (List.range (2*i))) (2*i),.cells [.map 1]]) t.2.length ⟨0,by omega,by omega,rfl,rfl⟩ ?_;clear bW;rintro m T H ⟨i,hi,rfl,rfl,rfl⟩;conv=>whnf
 refine Hj (fun aY=>?_) (fun aY=>?_)
 ·have aY:i<t.2.length:=by omega
  have c7:I.agg [hG (i:Int),hG 0]=.agg (p6 (rv (2*i))):=by
   have:=OM (n:=t.2.length) (i:=i) (b:=0) aY (by omega);rw [show 2*i+0=2*i by omega] at this;rw [this];rfl
  have aL:I.agg [hG (i:Int),hG 1]=.agg (p6 (rv (2*i+1))):=by
   rw [OM (n:=t.2.length) (i:=i) (b:=1) aY (by omega)];rfl
  have f0:fy (.agg [hG (i:Int),hG 0]) (rU (List.range (2*i))) 0=some none:=by rw [c7];exact N' _ _ _ (by simp)
  have f1:fy (.agg [hG (i:Int),hG 1]) (rU (List.range (2*i+1))) 0=some none:=by rw [aL];exact N' _ _ _ (by simp)
  have fP:rU (List.range (2*i))++[(2*i,I.agg [hG (i:Int),hG 0],hG 1)]=rU (List.range (2*i+1)):=by rw [c7,U7,←List.range_succ]
  have e1:rU (List.range (2*i+1))++[(2*i+1,I.agg [hG (i:Int),hG 1],hG 1)]=rU (List.range (2*i+1+1)):=by rw [aL,U7,←List.range_succ]
  conv=>whnf
  subst cp;unfold R4;obtain ⟨a',cn⟩:∃ c,R1=c:=⟨_,rfl⟩;rw [cn];refine HI fun mv Gy=>?_;conv=>whnf
  subst cn;unfold R1;conv=>whnf
  refine ⟨rfl,_,_,rfl,none,f0,?_⟩;conv=>whnf
  refine ⟨rfl,_,_,rfl,none,(by erw [fP];exact f1),?_⟩;conv=>whnf
  erw [fP,e1];refine Gy _ _ _ ?_;conv=>whnf
  exact ⟨t.2.length-(i+1),by omega,i+1,by omega,rfl,by rw [←rW i (by omega)] <;> rfl,rfl⟩
 ·obtain rfl:i=t.2.length:=by omega
  conv=>whnf
  exact av _
theorem Td {t:qb} {v:List (Int×Int)} (h:KE t=some v):qC 104 [Gq t] (.ax (v.flatMap p6) v.length .shared):=by
 obtain ⟨⟨B_,pf⟩,h⟩:=qD h;obtain ⟨out,aq,h⟩:=qi h;obtain ⟨⟨adO,jv⟩,h⟩:=qD h;obtain rfl:=Option.some.inj h;refine qN dD aeg rfl (q4 (fun _=>(p5 rfl (p5 rfl rfl))) _ _ _) fun Q bz=>?_;have lj:∀ T H,HZ [.tmp 2] (.ax (out.reverse.flatMap p6) out.reverse.length .shared) .ret T H→Q .ret T H:=fun T H bJ=>bz _ T H bJ;unfold WN;obtain ⟨abY,MB⟩:∃ c,R3=c:=⟨_,rfl⟩;rw [MB];conv=>whnf
 subst MB;unfold R3;obtain ⟨Qx,H3⟩:∃ c,OT=c:=⟨_,rfl⟩;obtain ⟨abX,MA⟩:∃ c,R2=c:=⟨_,rfl⟩;rw [H3,MA];conv=>whnf
 subst H3;refine ad7 (t:=t) pf ?_ (by exact rfl);intro E4;conv=>whnf
 subst MA;unfold R2;obtain ⟨mD,Hw⟩:∃ c,R9=c:=⟨_,rfl⟩;obtain ⟨A8,MD⟩:∃ c,R_=c:=⟨_,rfl⟩;rw [Hw,MD];conv=>whnf
 refine ⟨by omega,?_⟩;conv=>whnf
 refine agK p6 2 qz t.2 0 ⟨by omega,by omega⟩ rfl ?_;conv=>whnf
 subst Hw;unfold R9;obtain ⟨akt,Vp⟩:∃ c,OS=c:=⟨_,rfl⟩;rw [Vp];conv=>whnf
 subst Vp;have cg:sb t (List.range (2*t.2.length)) [] [] (ix t.2 0).1 (.ax [] 0 .full) (.ax [] 0 .full) 0 2 [HH t,.map (rU (List.range (2*t.2.length))) (2*t.2.length),.cells [.map 1],.cells [.ax [] 0 .full],.cells [hG (ix t.2 0).1]] :=
  ⟨List.nodup_range,rfl,⟨_,rfl⟩,rfl,rfl,rfl,.inl ⟨rfl,rfl⟩,.inl ⟨rfl,rfl⟩,by decide,by simp,by simp,.inl rfl,.inl rfl⟩
 refine agV pf cg aq ?_ (by exact rfl);intro L a rG v5 x y H LO LP LQ X' rM;conv=>whnf
 subst MD;unfold R_;rcases rM.ar with ⟨rfl,_⟩ | ⟨rfl,VR,aZ⟩
 ·exact absurd rfl adO
 conv=>whnf
 refine ⟨_,_,G9 (agM out (by omega) (by omega) (Nat.zero_le _) aZ),?_⟩;conv=>whnf
 refine ⟨_,_,fun C=>Oa rfl (Nat.zero_le _) (JD (List.getElem?_eq_some_iff.1 aZ).1) (by rw [IW,List.length_reverse]),?_⟩;rw [afR];conv=>whnf
 rw [List.length_reverse] at lj;exact lj _ _ ⟨.inr rfl,_,rfl,_,ox (q4 (fun _=>(p5 rfl (p5 rfl rfl))) _ _ _),rfl⟩
end Go.Proofs.YtfakoboiahbhaaaGreat.Ab


namespace Go.Proofs.YtfakoboiahbhaaaGreat.Ab
open Go
def H2 (e:Int×Int) (v:Int):Nat:=(if e.1=v then 1 else 0)+(if e.2=v then 1 else 0)
def q2 (b:qb) (S:List Int) (v:Int):Nat:=(S.map fun i=>H2 (ix b.2 i) v).sum
section
variable {b t:qb}
theorem aco (p:Int×Int) (v:Int):H2 (ix b.2 p.1) v=(if qX b p=v then 1 else 0)+(if fin b p=v then 1 else 0):=by
 unfold H2 qX fin;by_cases h:0<p.2
 ·rw [if_pos h,if_pos h,Nat.add_comm]
 ·rw [if_neg h,if_neg h]
theorem Kd (v:Int):q2 b [] v=0:=rfl
theorem Mr (i:Int) (S:List Int) (v:Int):q2 b (i::S) v=H2 (ix b.2 i) v+q2 b S v:=by simp [q2]
theorem N7 (S S':List Int) (v:Int):q2 b (S++S') v=q2 b S v+q2 b S' v:=by simp [q2]
theorem N8 {S S':List Int} (h:S.Perm S') (v:Int):q2 b S v=q2 b S' v:=by
 unfold q2;exact (h.map _).sum_nat
theorem Ms {S:List Int} {v:Int}:q2 b S v=0↔∀ i∈S,¬ qW b i v:=by
 induction S with
 | nil=>simp [Kd]
 | cons i S a9 =>
   rw [Mr,Nat.add_eq_zero_iff,a9];simp only [List.mem_cons,forall_eq_or_imp];refine and_congr ?_ Iff.rfl;unfold H2 qW;split <;> split <;> simp [*]
theorem IZ:∀ (l l':Row) (a:Int),q1 b a (l++l')=(q1 b a l).bind fun c=>q1 b c l'
 | [],_,_=>rfl
 | p::l,l',a=>by
   rw [List.cons_append,q1,q1];split
   ·exact IZ l l' _
   ·rfl
theorem LL {a c:Int} {p:Int×Int}:q1 b a [p]=some c↔qX b p=a∧fin b p=c:=by
 rw [q1,q1];split
 ·rename_i h;simp [h]
 ·rename_i h;simp [h]
theorem HY {a c:Int} {p:Int×Int} {l:Row}:q1 b a (p::l)=some c↔qX b p=a∧q1 b (fin b p) l=some c:=by
 rw [q1];split
 ·rename_i h;simp [h]
 ·rename_i h;simp [h]
theorem Ns:∀ (l:Row) (a c v:Int),q1 b a l=some c→(q2 b (l.map (·.1)) v+(if a=v then 1 else 0)+(if c=v then 1 else 0)) % 2=0
 | [],a,c,v,h=>by
   have:a=c:=by simpa [q1] using h
   subst this;rw [List.map_nil,Kd];split <;> rfl
 | p::l,a,c,v,h=>by
   obtain ⟨ad,af⟩:=HY.1 h;have a9:=Ns l _ c v af;rw [List.map_cons,Mr,aco,ad];omega
def Hc (t:qb) (p:Int×Int):Prop:=0≤p.1∧p.1<(t.2.length:Int)∧0≤p.2∧p.2≤1
theorem Ja (p:Int×Int) (v:Int):qW b p.1 v↔qX b p=v∨fin b p=v:=by
 unfold qW qX fin;split
 ·exact Or.comm
 ·exact Iff.rfl
theorem acz {i:Nat} (hi:i<t.2.length) {v:Int} (h:qW t i v):∃ p∈Ga t v,p.1=(i:Int):=by
 rcases h with h | h
 ·exact ⟨((i:Int),0),JL.2 ⟨by simp only;omega,by simp only;omega,by simp only;omega,by simp only;omega,h⟩,rfl⟩
 ·exact ⟨((i:Int),1),JL.2 ⟨by simp only;omega,by simp only;omega,by simp only;omega,by simp only;omega,h⟩,rfl⟩
structure GX (t:qb) (s:Int) (L:List Nat) (qB out:Row) (a h:Int):Prop where
 h':∀ x∈L,x<2*t.2.length
 sym:∀ i:Nat,2*i∈L↔2*i+1∈L
 ok:∀ p∈qB++out,Hc t p
 O7:((qB++out).map (·.1)).Nodup
 Kv:∀ i:Nat,i<t.2.length→(2*i∈L↔(i:Int) ∉ (qB++out).map (·.1))
 go:q1 t s qB=some a
 back:q1 t h out.reverse=some s
 OG:∀ p∈out,∀ i:Nat,i<t.2.length→2*i∈L→¬ qW t i (fin t p)
theorem VV {p:Int×Int} (h:Hc t p):∃ i:Nat,p.1=(i:Int)∧i<t.2.length∧((p.2=0∧F' p=2*i∧F' (p.1,1-p.2)=2*i+1)∨(p.2=1∧F' p=2*i+1∧F' (p.1,1-p.2)=2*i)):=by
 obtain ⟨ad,af,aH,bh⟩:=h;refine ⟨p.1.toNat,by omega,by omega,?_⟩;unfold F';simp only;rcases show p.2=0∨p.2=1 by omega with h | h
 ·left;omega
 ·right;omega
theorem afs {L:List Nat} {p:Int×Int} {x:Nat}:x∈IH L p↔x∈L∧x≠F' p∧x≠F' (p.1,1-p.2):=by
 unfold IH G_;simp only [List.mem_filter,decide_eq_true_eq,and_assoc]
theorem RA {α:Type} (q:α→Bool):∀ (l:List α) (x:α),x∈l→q x=false→(l.filter q).length<l.length
 | [],_,h,_=>by simp at h
 | y::l,x,h,bl=>by
   have hle:=List.length_filter_le q l;rw [List.filter_cons];rcases List.mem_cons.1 h with rfl | h
   ·rw [bl];simp only [Bool.false_eq_true,if_false,List.length_cons];omega
   ·have a9:=RA q l x h bl;split <;> simp only [List.length_cons] <;> omega
theorem acu {L:List Nat} {p:Int×Int} (h:F' p∈L) (af:F' (p.1,1-p.2)∈G_ L p):(IH L p).length+2≤L.length:=by
 have aB:=RA (fun x=>decide (x≠F' p)) L _ h (by simp);have aF:=RA (fun x=>decide (x≠F' (p.1,1-p.2))) (G_ L p) _ af (by simp);unfold IH;unfold G_ at aB aF ⊢;omega
theorem GX.step {s a h:Int} {L:List Nat} {qB out:Row} {p:Int×Int} (j_:GX t s L qB out a h) (aD:p∈Ga t a) (fh:F' p∈L):GX t s (IH L p) (qB++[p]) out (fin t p) h∧F' (p.1,1-p.2)∈G_ L p:=by
 have bl:=JL.1 aD;have b0:Hc t p:=⟨bl.1,bl.2.1,bl.2.2.1,bl.2.2.2.1⟩;obtain ⟨i,hi,rb,al⟩:=VV b0;have QV:2*i∈L:=by
  rcases al with al | al
  ·rw [←al.2.1];exact fh
  ·rw [j_.sym,←al.2.1];exact fh
 have acR:=(j_.sym i).1 QV;have a2:∀ x,x∈IH L p↔x∈L∧x≠2*i∧x≠2*i+1:=fun x=>by
  rw [afs];rcases al with al | al <;> rw [al.2.1,al.2.2] <;> constructor <;> rintro ⟨ad,af,aH⟩ <;> exact ⟨ad,by omega,by omega⟩
 have adM:=(j_.Kv i rb).1 QV;have HR:((qB++[p]++out).map (·.1)).Perm (p.1::(qB++out).map (·.1)):=by
  rw [←List.map_cons];refine List.Perm.map _ ?_;rw [List.append_assoc];exact List.perm_middle
 refine ⟨⟨fun x al=>j_.h' x ((a2 x).1 al).1,fun j=>?_,fun q bl=>?_,?_,fun j az=>?_,?_,j_.back,fun q bl j az adz=>j_.OG q bl j az ((a2 _).1 adz).1⟩,?_⟩
 ·rw [a2,a2,j_.sym j];constructor <;> rintro ⟨ad,af,aH⟩ <;> exact ⟨ad,by omega,by omega⟩
 ·rcases List.mem_append.1 bl with bl | bl
  ·rcases List.mem_append.1 bl with bl | bl
   ·exact j_.ok q (List.mem_append_left _ bl)
   ·rw [List.mem_singleton.1 bl];exact b0
  ·exact j_.ok q (List.mem_append_right _ bl)
 ·rw [HR.nodup_iff,List.nodup_cons];exact ⟨by rw [hi];exact adM,j_.O7⟩
 ·rw [a2,j_.Kv j az,HR.mem_iff,List.mem_cons,hi];constructor
  ·rintro ⟨ad,af,_⟩ (aH | aH)
   ·omega
   ·exact ad aH
  ·intro ad;refine ⟨fun af=>ad (.inr af),fun e=>ad (.inl (by omega)),by omega⟩
 ·rw [IZ,j_.go];exact LL.2 ⟨bl.2.2.2.2,rfl⟩
 ·unfold G_;rw [List.mem_filter];rcases al with al | al <;> rw [al.2.1,al.2.2]
  ·exact ⟨acR,by simp⟩
  ·exact ⟨QV,by simp⟩
def OD (t:qb) (L:List Nat):List Int:=(upto t.2.length).filter fun i=>decide (2*i.toNat∈L)
theorem RF {L:List Nat} {x:Int}:x∈OD t L↔∃ i:Nat,i<t.2.length∧x=(i:Int)∧2*i∈L:=by
 unfold OD;rw [List.mem_filter,Gc,decide_eq_true_eq];constructor
 ·rintro ⟨⟨ad,af⟩,aH⟩;exact ⟨x.toNat,by omega,by omega,aH⟩
 ·rintro ⟨i,ad,rfl,aH⟩;exact ⟨⟨by omega,by omega⟩,by simpa using aH⟩
theorem GX.perm {s a h:Int} {L:List Nat} {qB out:Row} (j_:GX t s L qB out a h):(upto t.2.length).Perm (OD t L++(qB++out).map (·.1)):=by
 refine (List.perm_ext_iff_of_nodup (Iu _) ?_).2 fun x=>?_
 ·rw [List.nodup_append];refine ⟨(Iu _).filter _,j_.O7,fun x al y aZ e=>?_⟩;subst e;obtain ⟨i,hi,rfl,fh⟩:=RF.1 al;exact (j_.Kv i hi).1 fh aZ
 ·rw [List.mem_append,RF,Gc];constructor
  ·rintro ⟨ad,af⟩;obtain ⟨i,rfl⟩:∃ i:Nat,x=(i:Int):=⟨x.toNat,by omega⟩;by_cases hm:(i:Int)∈(qB++out).map (·.1)
   ·exact .inr hm
   ·exact .inl ⟨i,by omega,rfl,(j_.Kv i (by omega)).2 hm⟩
  ·rintro (⟨i,hi,rfl,_⟩ | hm)
   ·omega
   ·obtain ⟨p,aD,rfl⟩:=List.mem_map.1 hm;have:=j_.ok p aD;exact ⟨this.1,this.2.1⟩
theorem GX.len {s a h:Int} {L:List Nat} {qB out:Row} (j_:GX t s L qB out a h):qB.length+out.length≤t.2.length:=by
 have:=j_.perm.length_eq;rw [r3] at this;simp at this;omega
theorem GX.stuck {s a h:Int} {L:List Nat} {qB out:Row} (j_:GX t s L qB out a h) (aA:∀ v,q2 t (upto t.2.length) v % 2=0) (ai:∀ i:Nat,i<t.2.length→2*i∈L→¬ qW t i a):h=a:=by
 have aT:q2 t (OD t L) a=0:=Ms.2 fun x al=>by
  obtain ⟨i,hi,rfl,fh⟩:=RF.1 al;exact ai i hi fh
 have ad:=aA a;rw [N8 j_.perm,N7,aT,List.map_append,N7] at ad;have af:=Ns _ _ _ a j_.go;have aH:=Ns _ _ _ a j_.back;have bh:q2 t (out.reverse.map (·.1)) a=q2 t (out.map (·.1)) a:=N8 ((List.reverse_perm out).map _) a;rw [bh] at aH;rw [if_pos rfl] at af;by_cases e:h=a
 ·exact e
 ·rw [if_neg e] at aH;omega
theorem GX.pop {s a:Int} {L:List Nat} {qB out:Row} {p:Int×Int} (j_:GX t s L (qB++[p]) out a a) (ai:∀ i:Nat,i<t.2.length→2*i∈L→¬ qW t i a):GX t s L qB (out++[p]) (qX t p) (qX t p):=by
 have HR:(qB++(out++[p])).Perm (qB++[p]++out):=by
  rw [List.append_assoc];exact List.Perm.append_left qB List.perm_append_comm
 have Hz:=j_.go;rw [IZ] at Hz;obtain ⟨c,ad,af⟩:=qi Hz;obtain ⟨aH,bh⟩:=LL.1 af;refine ⟨j_.h',j_.sym,fun q bl=>j_.ok q (HR.mem_iff.1 bl),(HR.map _).nodup_iff.2 j_.O7,fun i hi=>?_,by rw [aH];exact ad,?_,fun q bl i hi fh=>?_⟩
 ·rw [j_.Kv i hi,(HR.map (·.1)).mem_iff]
 ·rw [List.reverse_append];exact HY.2 ⟨rfl,by rw [bh];exact j_.back⟩
 ·rcases List.mem_append.1 bl with bl | bl
  ·exact j_.OG q bl i hi fh
  ·rw [List.mem_singleton.1 bl,bh];exact ai i hi fh
theorem RD (aA:∀ v,q2 t (upto t.2.length) v % 2=0) (aP:t.2.length≤1000) {s:Int}:∀ (m:Nat) (L:List Nat) (qB out:Row) (a h:Int),GX t s L qB out a h→L.length+qB.length<m →
  ∃ h_ so,Ji t m L qB out a=some so∧GX t s h_ [] so s s∧∀ i:Nat,i<t.2.length→2*i∈h_→¬ qW t i s
 | 0,_,_,_,_,_,_,hm=>absurd hm (by omega)
 | m+1,L,qB,out,a,h,j_,hm=>by
   have hlen:=j_.len;rw [Ji,qp ⟨by omega,by omega⟩];cases aN:(Ga t a).find? (LA L) with
   | some p =>
     have aD:=List.mem_of_find?_eq_some aN;(have fh:F' p∈L:=by simpa [LA] using List.find?_some aN);obtain ⟨ad,af⟩:=j_.step aD fh;have aH:=acu fh af;show ∃ h_ so,qd (F' (p.1,1-p.2)∈G_ L p) _=some so∧_;rw [qp af];exact RD aA aP m _ _ _ _ _ ad (by simp only [List.length_append,List.length_singleton];omega)
   | none =>
     have ai:∀ i:Nat,i<t.2.length→2*i∈L→¬ qW t i a:=fun i hi fh kc=>by
      obtain ⟨p,aD,e⟩:=acz hi kc;have bl:=JL.1 aD;obtain ⟨j,az,_,al⟩:=VV (t:=t) (p:=p) ⟨bl.1,bl.2.1,bl.2.2.1,bl.2.2.2.1⟩;(have lx:i=j:=by omega);subst lx;have fS:=List.find?_eq_none.1 aN p aD;refine fS ?_;simp only [LA,decide_eq_true_eq];rcases al with al | al
      ·rw [al.2.1];exact fh
      ·rw [al.2.1];exact (j_.sym i).1 fh
     have ac6:=j_.stuck aA ai;subst ac6;rcases Xr qB with rfl | ⟨Hg,p,rfl⟩
     ·show ∃ h_ so,some out=some so∧_;(have e:s=h:=by simpa [q1] using j_.go);subst e;exact ⟨L,out,rfl,j_,ai⟩
     ·rw [List.getLast?_concat];have b0:=j_.ok p (by simp);show ∃ h_ so,qd (0≤p.1∧p.1<(t.2.length:Int)) (Ji t m L (Hg++[p]).dropLast (out++[p]) (qX t p))=some so∧_;rw [qp ⟨b0.1,b0.2.1⟩,List.dropLast_concat];exact RD aA aP m _ _ _ _ _ (j_.pop ai) (by simp only [List.length_append,List.length_singleton] at hm;omega)
structure Full (t:qb) (l:Row):Prop where
 ok:∀ p∈l,Hc t p
 Gm:(l.map (·.1)).Nodup
 all:∀ i:Nat,i<t.2.length→(i:Int)∈l.map (·.1)
theorem GX.all {s:Int} {L:List Nat} {out:Row} (j_:GX t s L [] out s s) (ai:∀ i:Nat,i<t.2.length→2*i∈L→¬ qW t i s) (ak:∀ i:Nat,i<t.2.length→∃ v,qW t i v∧rB t (upto t.2.length) s v):∀ i:Nat,i<t.2.length→(i:Int)∈out.map (·.1):=by
 have adj:∀ (l:Row) (a c:Int),q1 t a l=some c→∀ p∈l,qX t p=a∨∃ q∈l,fin t q=qX t p:=by
  intro l
  induction l with
  | nil=>intro a c _ p aD;simp at aD
  | cons q l a9 =>
    intro a c h p aD;obtain ⟨ad,af⟩:=HY.1 h;rcases List.mem_cons.1 aD with rfl | aD
    ·exact .inl ad
    ·rcases a9 _ c af p aD with aH | ⟨fK,Ci,aH⟩
     ·exact .inr ⟨q,by simp,aH.symm⟩
     ·exact .inr ⟨fK,by simp [Ci],aH⟩
 have key:∀ v,rB t (upto t.2.length) s v→∀ i:Nat,i<t.2.length→2*i∈L→¬ qW t i v:=fun v ae=>by
  induction ae with
  | refl=>exact ai
  | step j _ az aB aF a9 =>
    rename_i g Fw;have d':=Gc.1 az;obtain ⟨k,rfl⟩:∃ k:Nat,j=(k:Int):=⟨j.toNat,by omega⟩;(have av:k<t.2.length:=by omega);have lA:2*k ∉ L:=fun h=>a9 k av h aB;have hm:(k:Int)∈out.map (·.1):=Classical.byContradiction fun aP=>lA ((j_.Kv k av).2 (by simpa using aP));obtain ⟨p,aD,e⟩:=List.mem_map.1 hm;rw [←e] at aF;rcases (Ja p _).1 aF with h | h
    ·rcases adj _ _ _ j_.back p (List.mem_reverse.2 aD) with a4 | ⟨q,bl,a4⟩
     ·rw [←h,a4];exact ai
     ·intro i hi fh;rw [←h,←a4];exact j_.OG q (List.mem_reverse.1 bl) i hi fh
    ·intro i hi fh;rw [←h];exact j_.OG p aD i hi fh
 intro i hi;refine Classical.byContradiction fun aP=>?_;obtain ⟨v,ad,af⟩:=ak i hi;exact key v af i hi ((j_.Kv i hi).2 (by simpa using aP)) ad
theorem aiB (aA:∀ v,q2 t (upto t.2.length) v % 2=0) (aP:t.2.length≤1000) (aT:0<t.2.length) (ak:∀ i:Nat,i<t.2.length→∃ v,qW t i v∧rB t (upto t.2.length) (ix t.2 0).1 v) :
  ∃ l,KE t=some l∧Full t l∧q1 t (ix t.2 0).1 l=some (ix t.2 0).1:=by
 have j_:GX t (ix t.2 0).1 (List.range (2*t.2.length)) [] [] (ix t.2 0).1 (ix t.2 0).1:=by
  refine ⟨fun x al=>List.mem_range.1 al,fun i=>?_,fun p aD=>absurd aD (by simp),by simp,fun i hi=>?_,rfl,rfl,fun p aD=>absurd aD (by simp)⟩
  ·rw [List.mem_range,List.mem_range];omega
  ·rw [List.mem_range];simp;omega
 obtain ⟨L,out,ad,af,aH⟩:=RD aA aP p' _ _ _ _ _ j_ (ru (by simp;omega));have dJ:=af.all aH ak;have hlen:=af.len;have bY:out.length≠0:=fun e=>by
  have:=dJ 0 aT;rw [List.length_eq_zero_iff.1 e] at this;simp at this
 refine ⟨out.reverse,?_,⟨fun p aD=>af.ok p (by simpa using aD),?_,fun i hi=>?_⟩,af.back⟩
 ·rw [KE,qp ⟨aT,aP⟩,ad,Option.bind_some,qp ⟨bY,by omega⟩]
 ·exact ((List.reverse_perm out).map _).nodup_iff.2 (by simpa using af.O7)
 ·exact ((List.reverse_perm out).map (·.1)).mem_iff.2 (dJ i hi)
end
end Go.Proofs.YtfakoboiahbhaaaGreat.Ab


namespace Go.Proofs.YtfakoboiahbhaaaGreat.Ab
open Go
set_option maxRecDepth 20000
set_option maxHeartbeats 4000000
noncomputable def PV:eM :=
 .loop (some (DX false [0,1,4,1,5,3,52])) (FY [gO 14 [.sl 13,.sl 12] (.bin .lss)] (.seq (.cond (.sl 14) .skip (.exit 0)) (.seq (.block 1 (FY [gO 15 [.sl 11,.sl 13] (.pq 1),FL 16 15,FO 7 16] (FY [FN 17 0,gO 18 [.hD 17] .za,Fu 19 18 0,Fu 20 19 1,FL 21 20,FN 22 7,FH 23 21 22 2,Fu 24 23 0,FL 25 24,gO 26 [.sl 5,.sl 25] (.yC 6 1),FL 27 26,Fk 28 27 1,gO 29 [.sl 5,.hD 25] (.yC 6 1),⟨none,[.hA 29,.hA 28],none,none,.st 1⟩] (FR [FN 30 0,gO 31 [.hD 30] .za,Fu 32 31 0,Fu 33 32 1,FL 34 33,FO 35 7,FH 36 34 35 2,Fu 37 36 1,FL 38 37,gO 39 [.sl 5,.sl 38] (.yC 6 1),FL 40 39,Fk 41 40 1,gO 42 [.sl 5,.hD 38] (.yC 6 1),⟨none,[.hA 42,.hA 41],none,none,.st 1⟩])))) (FR [Fk 43 13 1,FO 13 43]))))
noncomputable def PW:eM :=
 .loop (some (DX false [8, 1, 38, 2, 17])) (FY [gO 49 [.sl 48, .ij (.int .i64 6)] (.bin .lss)] (.seq (.cond (.sl 49) .skip (.exit 2)) (.seq (.block 3 (FY [FN 50 48, gO 51 [.sl 47, .sl 48] (.other (Oper.mk (some 51) (Op.index 101 (Operand.tmp 47) (Operand.tmp 48)) 3 "table.go:64" (Array.mk []) none) 0), FO 9 50, FO 10 51] (FY [FO 52 10, Fm 53 52 2 .rem, Fm 54 53 1 .eql] (.cond (.sl 54) (FR [FN 55 8, FN 56 8, FK 57 56, FO 58 8, FK 59 58, gO 60 [.hA 55, .hA 57, .hA 59] (.Ap 1 false true true), FO 61 9, gO 62 [.hD 61] (.xG 1 1 [.int .i64 0] [0]), gO 63 [.hA 60, .hA 62] (.app 1 8), FO 8 63]) .skip)))) (FR [Fk 64 48 1, FO 48 64]))))
noncomputable def aan:eM :=
 FY [gO 4 [.ij (.ax [] 0 .full)] (.nil 1)] (FY [gO 5 [] (.alloc [.int .i64 0, .int .i64 0, .int .i64 0, .int .i64 0, .int .i64 0, .int .i64 0])] (.seq (FY [FO 11 1, gO 12 [.sl 11] .pz, FM 13 0] (.block 0 PV)) (.seq (FY [gO 44 [.sl 5] (.px (.arr 6)), gO 45 [] (.build [.int .i64 0, .int .i64 0, .int .i64 0, .int .i64 0, .int .i64 0, .int .i64 0] []), gO 46 [.hD 44, .hD 45] (.other (Oper.mk (some 46) (Op.binOp .eql 101 (Operand.tmp 44) (Operand.tmp 45) 101) 4 "table.go:60" (Array.mk [Edge.mk 0 Ground.data, Edge.mk 1 Ground.data]) none) 0)] (.cond (.sl 46) (FY [gO 4 [.ij (.ax [] 0 .full)] (.nil 1)] .ret) .skip)) (FY [gO 8 [.ij (.ax [] 0 .full)] (.nil 1)] (.seq (FY [gO 47 [.hD 5] (.px (.arr 6)), FM 48 0] (.block 2 PW)) (FY [FO 65 8, FO 4 65] .ret))))))
theorem afb:yQ Tryz.prog N1 76=some (aan,66,[.tmp 4]):=by kernel_rfl
def K4 (t:qn) (qo:qa) (qh:qa→Option qa):Nat→Int→qa→Option qa
 | 0,_,_=>none
 | m+1,s1,s2 =>
   if (decide (s1<(qo.length:Int)))=true then
    qd (0≤s1∧s1<(qo.length:Int)) <|
    qd (0≤(ix qo s1)∧(ix qo s1)<(t.2.length:Int)) <|
    qd (0≤(ix t.2 (ix qo s1)).1∧(ix t.2 (ix qo s1)).1<(6:Int)∧6=s2.length) <|
    qd (0≤(ix t.2 (ix qo s1)).1∧(ix t.2 (ix qo s1)).1<(6:Int)∧6=s2.length) <|
    qd (0≤(ix qo s1)∧(ix qo s1)<(t.2.length:Int)) <|
    qd (0≤(ix t.2 (ix qo s1)).2∧(ix t.2 (ix qo s1)).2<(6:Int)∧6=(s2.set ((ix t.2 (ix qo s1)).1).toNat (w ((ix s2 ((ix t.2 (ix qo s1)).1))+(1:Int)))).length) <|
    qd (0≤(ix t.2 (ix qo s1)).2∧(ix t.2 (ix qo s1)).2<(6:Int)∧6=(s2.set ((ix t.2 (ix qo s1)).1).toNat (w ((ix s2 ((ix t.2 (ix qo s1)).1))+(1:Int)))).length) <|
    K4 t qo qh m (w (s1+(1:Int))) ((s2.set ((ix t.2 (ix qo s1)).1).toNat (w ((ix s2 ((ix t.2 (ix qo s1)).1))+(1:Int)))).set ((ix t.2 (ix qo s1)).2).toNat (w ((ix (s2.set ((ix t.2 (ix qo s1)).1).toNat (w ((ix s2 ((ix t.2 (ix qo s1)).1))+(1:Int)))) ((ix t.2 (ix qo s1)).2))+(1:Int))))
   else
    qh s2
def Jr (xt:qa) (qK:qa→Option qa):Nat→qa→Int→Option qa
 | 0,_,_=>none
 | m+1,nL,qk =>
   if (decide (qk<(6:Int)))=true then
    qd (0≤qk∧qk<(6:Int)∧xt.length=6) <|
    qd ((2:Int)≠0) <|
    if (decide (((ix xt qk).tmod (2:Int))=(1:Int)))=true then
     qd ((nL.length:Int)=(nL.length:Int)∧0≤(nL.length:Int)∧(nL.length:Int)≤(nL.length:Int)) <|
     qd (((nL.take (nL.length:Int).toNat).length+1)*8≤140737488355328) <|
     Jr xt qK m ((nL.take (nL.length:Int).toNat)++[qk]) (w (qk+(1:Int)))
    else
     Jr xt qK m nL (w (qk+(1:Int)))
   else
    qK nL
def K3 (t:qn) (qo:qa):Option qa :=
 K4 t qo (fun xt =>
   qd (xt.length=6) <|
   qd (xt.length=6) <|
   if (decide (xt=[(0:Int),(0:Int),(0:Int),(0:Int),(0:Int),(0:Int)]))=true then
    some []
   else
    qd (xt.length=6) <|
    Jr xt (fun n0 =>
      some n0) p' ([]:List Int) (0:Int)) p' (0:Int) (List.replicate 6 (0:Int))
theorem ajN {t:qn} {qo:qa} {qh:qa→Option qa} {s1:Int} {s2:qa} {v:qa} {Q:ra}   (rf:∀ (xt:qa) (p_:List I),qh xt=some v→qV 66 [(5,(.ptr 0 0))] p_→Q (.exit 0) p_ [au.cells (xt.map hG)]) {T:List I} (bW:eL (DX false [0,1,4,1,5,3,52]) T=F2 66 [(0,(.bT [(hG t.1),(qf t.2 .shared)])),(5,(.ptr 0 0)),(11,(qq qo .shared)),(12,(hG (qo.length:Int))),(13,(hG s1))]) (h:K4 t qo qh p' s1 s2=some v) :
  dB Tryz.prog N1 76 0 none PV T [au.cells (s2.map hG)] Q:=by
 unfold PV;refine wp_loop bW ?_;refine .intro (fun m T H=>∃ (s1:Int) (s2:qa),T=F2 66 [(0,(.bT [(hG t.1),(qf t.2 .shared)])),(5,(.ptr 0 0)),(11,(qq qo .shared)),(12,(hG (qo.length:Int))),(13,(hG s1))]∧H=[au.cells (s2.map hG)]∧K4 t qo qh m s1 s2=some v) p' ⟨s1,s2,rfl,rfl,h⟩ ?_;clear h bW;rintro m T H ⟨s1,s2,rfl,rfl,h⟩;cases m
 ·exact q3 h
 rename_i m;rw [K4.eq_2] at h;conv=>whnf
 refine bs h (fun eQ h=>?_) fun eQ h=>?_
 ·rw [eQ];conv=>whnf
  refine qy h id fun fi h=>?_;rw [rA hG qo s1 fi];conv=>whnf
  refine qy h id fun qu h=>?_;rw [qQ p6 2 qz t.2 (ix qo s1) qu];conv=>whnf
  obtain ⟨qA,h⟩:=qD h;refine ⟨⟨qA.1,qA.2.1⟩,?_⟩;replace qA:0≤(ix t.2 (ix qo s1)).1∧(ix t.2 (ix qo s1)).1<(s2.length:Int):=⟨qA.1,by have:=qA.2;omega⟩;conv=>whnf
  refine JP hG s2 ((ix t.2 (ix qo s1)).1) qA ?_;conv=>whnf
  obtain ⟨qG,h⟩:=qD h;refine ⟨⟨qG.1,qG.2.1⟩,?_⟩;replace qG:0≤(ix t.2 (ix qo s1)).1∧(ix t.2 (ix qo s1)).1<(s2.length:Int):=⟨qG.1,by have:=qG.2;omega⟩;conv=>whnf
  refine JT hG s2 ((ix t.2 (ix qo s1)).1) (w ((ix s2 ((ix t.2 (ix qo s1)).1))+(1:Int))) qG ?_;conv=>whnf
  refine qy h id fun q7 h=>?_;rw [qQ p6 2 qz t.2 (ix qo s1) q7];conv=>whnf
  obtain ⟨qM,h⟩:=qD h;refine ⟨⟨qM.1,qM.2.1⟩,?_⟩;replace qM:0≤(ix t.2 (ix qo s1)).2∧(ix t.2 (ix qo s1)).2<((s2.set ((ix t.2 (ix qo s1)).1).toNat (w ((ix s2 ((ix t.2 (ix qo s1)).1))+(1:Int)))).length:Int):=⟨qM.1,by have:=qM.2;omega⟩;conv=>whnf
  refine JP hG (s2.set ((ix t.2 (ix qo s1)).1).toNat (w ((ix s2 ((ix t.2 (ix qo s1)).1))+(1:Int)))) ((ix t.2 (ix qo s1)).2) qM ?_;conv=>whnf
  obtain ⟨qI,h⟩:=qD h;refine ⟨⟨qI.1,qI.2.1⟩,?_⟩;replace qI:0≤(ix t.2 (ix qo s1)).2∧(ix t.2 (ix qo s1)).2<((s2.set ((ix t.2 (ix qo s1)).1).toNat (w ((ix s2 ((ix t.2 (ix qo s1)).1))+(1:Int)))).length:Int):=⟨qI.1,by have:=qI.2;omega⟩;conv=>whnf
  refine JT hG (s2.set ((ix t.2 (ix qo s1)).1).toNat (w ((ix s2 ((ix t.2 (ix qo s1)).1))+(1:Int)))) ((ix t.2 (ix qo s1)).2) (w ((ix (s2.set ((ix t.2 (ix qo s1)).1).toNat (w ((ix s2 ((ix t.2 (ix qo s1)).1))+(1:Int)))) ((ix t.2 (ix qo s1)).2))+(1:Int))) qI ?_;conv=>whnf
  exact ⟨m,Nat.lt_succ_self m,(w (s1+(1:Int))),((s2.set ((ix t.2 (ix qo s1)).1).toNat (w ((ix s2 ((ix t.2 (ix qo s1)).1))+(1:Int)))).set ((ix t.2 (ix qo s1)).2).toNat (w ((ix (s2.set ((ix t.2 (ix qo s1)).1).toNat (w ((ix s2 ((ix t.2 (ix qo s1)).1))+(1:Int)))) ((ix t.2 (ix qo s1)).2))+(1:Int)))),rfl,rfl,h⟩
 ·rw [eQ];conv=>whnf
  exact rf _ _ h ⟨rfl,rfl⟩
theorem ajO {xt:qa} {qK:qa→Option qa} {nL:qa} {qk:Int} {v:qa} {Q:ra} {bC:au}  (GL:∀ (n0:qa) (p_:List I),qK n0=some v→qV 66 [(8,(qq n0 (.uniq 1)))] p_→Q (.exit 2) p_ [bC]) {T:List I} (bW:eL (DX false [8,1,38,2,17]) T=F2 66 [(8,(qq nL (.uniq 1))),(47,(.agg ((xt.map hG)))),(48,(hG qk))]) (h:Jr xt qK p' nL qk=some v) :
  dB Tryz.prog N1 76 0 none PW T [bC] Q:=by
 unfold PW;refine wp_loop bW ?_;refine .intro (fun m T H=>∃ (nL:qa) (qk:Int),T=F2 66 [(8,(qq nL (.uniq 1))),(47,(.agg ((xt.map hG)))),(48,(hG qk))]∧H=[bC]∧Jr xt qK m nL qk=some v) p' ⟨nL,qk,rfl,rfl,h⟩ ?_;clear h bW;rintro m T H ⟨nL,qk,rfl,rfl,h⟩;cases m
 ·exact q3 h
 rename_i m;rw [Jr.eq_2] at h;conv=>whnf
 refine bs h (fun ry h=>?_) fun ry h=>?_
 ·rw [ry];conv=>whnf
  obtain ⟨r1,h⟩:=qD h;refine ⟨_,_,fun C=>afD rfl (aaK (e:=3) (len:=6) (kd:=.i64) (by kernel_rfl) (by kernel_rfl) (by kernel_rfl) (by kernel_rfl) r1.2.2 ⟨r1.1,r1.2.1⟩),?_⟩;conv=>whnf
  refine qy h id fun se h=>?_;conv=>whnf
  refine bs h (fun r8 h=>?_) fun r8 h=>?_
  ·rw [r8];(conv=>whnf);refine qy h id fun rI h=>?_;erw [ahb hG nL (nL.length:Int) rI.2];(conv=>whnf);obtain ⟨rZ,h⟩:=qD h;refine ⟨by first | rfl | simp,by have:=rZ;omega,by decide,rZ,by first | rfl | simp,?_⟩
   erw [Ii hG (nL.take (nL.length:Int).toNat) qk];(conv=>whnf);exact ⟨m,Nat.lt_succ_self m,((nL.take (nL.length:Int).toNat)++[qk]),(w (qk+(1:Int))),rfl,rfl,h⟩
  ·rw [r8];(conv=>whnf);exact ⟨m,Nat.lt_succ_self m,nL,(w (qk+(1:Int))),rfl,rfl,h⟩
 ·rw [ry];conv=>whnf
  exact GL _ _ h ⟨rfl,rfl⟩
theorem Tr {t:qn} {qo:qa} {v:qa} (h:K3 t qo=some v):qC 76 [(.bT [(hG t.1),(.ax (t.2.flatMap p6) t.2.length .shared)]),(.ax (qo.map hG) qo.length .shared)] (.ax (v.map hG) v.length .shared):=by
 refine qN dD afb rfl (rF (fun _=>rfl) _ _ _) fun Q bz=>?_;have lj:qE [.tmp 4] Q (fun v=>(qq v .shared)) v:=fun T H bJ=>bz _ T H bJ;unfold K3 at h;unfold aan;obtain ⟨Gi,qF⟩:∃ c,PV=c:=⟨_,rfl⟩;rw [qF];obtain ⟨IG,rR⟩:∃ c,PW=c:=⟨_,rfl⟩;rw [rR];conv=>whnf
 subst qF;refine ajN ?_ (by exact rfl) h;intro xt p_ h qt;obtain ⟨qT,rfl⟩:=qt.ex;conv=>whnf
 obtain ⟨rh,h⟩:=qD h;refine ⟨by simp [rh],?_⟩;rw [V1 hG xt (fun _=>rfl) rh];conv=>whnf
 obtain ⟨qS,h⟩:=qD h;refine ⟨_,_,fun C=>Wm rfl rfl (aaI .i64 (e:=3) (len:=6) (kd:=.i64) (xs:=xt) (ys:=[(0:Int),(0:Int),(0:Int),(0:Int),(0:Int),(0:Int)]) (by kernel_rfl) (by kernel_rfl) (by kernel_rfl) (by kernel_rfl) qS rfl),?_⟩;conv=>whnf
 refine bs h (fun q8 h=>?_) fun q8 h=>?_
 ·rw [q8];conv=>whnf
  exact qj h lj rfl rfl
 ·rw [q8];conv=>whnf
  obtain ⟨rr,h⟩:=qD h;refine ⟨by simp [rr],?_⟩;rw [V1 hG xt (fun _=>rfl) rr];conv=>whnf
  subst rR;refine ajO ?_ (by exact rfl) h;intro n0 p_ h qt;obtain ⟨qT,rfl⟩:=qt.ex;conv=>whnf
  exact qj h lj rfl rfl

noncomputable def PO:eM :=
 .loop (some (DX false [1,1,1,2,33])) (.seq (FY [FN 8 4,gO 9 [.sl 1] (.ov 1),FL 10 9,FK 11 10,Fo 12 8 11 .lss] (.cond (.sl 12) .skip (.exit 0))) (.seq (.block 1 (FY [FN 15 3,gO 16 [.sl 1] (.ov 1),FL 17 16,FN 18 4,FH 19 17 18 2,Fu 20 19 0,FL 21 20,gO 22 [.sl 15,.sl 21] (.pq 1),FL 23 22,Fk 24 23 1,FH 25 15 21 1,⟨none,[.hA 25,.hA 24],none,none,.st 1⟩] (FR [FN 26 3,gO 27 [.sl 1] (.ov 1),FL 28 27,FN 29 4,FH 30 28 29 2,Fu 31 30 1,FL 32 31,gO 33 [.sl 26,.sl 32] (.pq 1),FL 34 33,Fk 35 34 1,FH 36 26 32 1,⟨none,[.hA 36,.hA 35],none,none,.st 1⟩]))) (FR [FO 13 4,Fk 14 13 1,FO 4 14])))
noncomputable def Z':eM :=
 FY [gO 1 [.hA 0] .box,gO 2 [.ij (.ax [] 0 .full)] (.nil 1)] (FY [gO 5 [.sl 1] (.ov 0),FL 6 5,gO 7 [.sl 6,.hD 6] (.y9 [.int .i64 0] 1 8),FO 3 7] (.seq (FY [FM 4 0] (.block 0 PO)) (FY [FO 37 3,FO 2 37] .ret)))
theorem ae0:yQ Tryz.prog Qm 55=some (Z',38,[.tmp 2]):=by kernel_rfl
def KZ (b:qn) (qh:qa→Option qa):Nat→Int→qa→Option qa
 | 0,_,_=>none
 | m+1,s1,s2 =>
   if (decide (s1<(b.2.length:Int)))=true then
    qd (0≤s1∧s1<(b.2.length:Int)) <|
    qd (0≤(ix b.2 s1).1∧(ix b.2 s1).1<((b.1.toNat:Nat):Int)∧b.1.toNat=s2.length) <|
    qd (0≤(ix b.2 s1).1∧(ix b.2 s1).1<((b.1.toNat:Nat):Int)∧b.1.toNat=s2.length) <|
    qd (0≤s1∧s1<(b.2.length:Int)) <|
    qd (0≤(ix b.2 s1).2∧(ix b.2 s1).2<((b.1.toNat:Nat):Int)∧b.1.toNat=(s2.set ((ix b.2 s1).1).toNat (w ((ix s2 ((ix b.2 s1).1))+(1:Int)))).length) <|
    qd (0≤(ix b.2 s1).2∧(ix b.2 s1).2<((b.1.toNat:Nat):Int)∧b.1.toNat=(s2.set ((ix b.2 s1).1).toNat (w ((ix s2 ((ix b.2 s1).1))+(1:Int)))).length) <|
    KZ b qh m (w (s1+(1:Int))) ((s2.set ((ix b.2 s1).1).toNat (w ((ix s2 ((ix b.2 s1).1))+(1:Int)))).set ((ix b.2 s1).2).toNat (w ((ix (s2.set ((ix b.2 s1).1).toNat (w ((ix s2 ((ix b.2 s1).1))+(1:Int)))) ((ix b.2 s1).2))+(1:Int))))
   else
    qh s2
def L6 (b:qn):Option qa :=
 qd (0≤b.1∧b.1≤b.1∧b.1.toNat*8≤140737488355328) <|
 KZ b (fun xt =>
   qd (b.1.toNat=xt.length) <|
   some xt) p' (0:Int) (List.replicate b.1.toNat (0:Int))
theorem ajy {b:qn} {qh:qa→Option qa} {s1:Int} {s2:qa} {v:qa} {Q:ra}   (rf:∀ (xt:qa) (bC:au) (p_:List I),qh xt=some v→qV 38 [(3,(.ref 1 0 b.1.toNat (some b.1.toNat) 1))] p_→Q (.exit 0) p_ [bC,au.cells (xt.map hG)]) {T:List I} (bW:eL (DX false [1,1,1,2,33]) T=F2 38 [(1,(.ptr 0 0)),(3,(.ref 1 0 b.1.toNat (some b.1.toNat) 1)),(4,(hG s1))]) (h:KZ b qh p' s1 s2=some v) :
  dB Tryz.prog Qm 55 0 none PO T [qv b,au.cells (s2.map hG)] Q:=by
 unfold PO;refine wp_loop bW ?_;refine .intro (fun m T H=>∃ (s1:Int) (s2:qa),T=F2 38 [(1,(.ptr 0 0)),(3,(.ref 1 0 b.1.toNat (some b.1.toNat) 1)),(4,(hG s1))]∧H=[qv b,au.cells (s2.map hG)]∧KZ b qh m s1 s2=some v) p' ⟨s1,s2,rfl,rfl,h⟩ ?_;clear h bW;rintro m T H ⟨s1,s2,rfl,rfl,h⟩;cases m
 ·exact q3 h
 rename_i m;rw [KZ.eq_2] at h;conv=>whnf
 refine bs h (fun fi h=>?_) fun fi h=>?_
 ·rw [fi];conv=>whnf
  refine qy h id fun qu h=>?_;rw [qQ p6 2 qz b.2 s1 qu];conv=>whnf
  obtain ⟨qA,h⟩:=qD h;refine ⟨⟨qA.1,qA.2.1⟩,?_⟩;replace qA:0≤(ix b.2 s1).1∧(ix b.2 s1).1<(s2.length:Int):=⟨qA.1,by have:=qA.2;omega⟩;conv=>whnf
  refine JP hG s2 ((ix b.2 s1).1) qA ?_;conv=>whnf
  obtain ⟨qG,h⟩:=qD h;refine ⟨⟨qG.1,qG.2.1⟩,?_⟩;replace qG:0≤(ix b.2 s1).1∧(ix b.2 s1).1<(s2.length:Int):=⟨qG.1,by have:=qG.2;omega⟩;conv=>whnf
  refine JT hG s2 ((ix b.2 s1).1) (w ((ix s2 ((ix b.2 s1).1))+(1:Int))) qG ?_;conv=>whnf
  refine qy h id fun q7 h=>?_;rw [qQ p6 2 qz b.2 s1 q7];conv=>whnf
  obtain ⟨qM,h⟩:=qD h;refine ⟨⟨qM.1,qM.2.1⟩,?_⟩;replace qM:0≤(ix b.2 s1).2∧(ix b.2 s1).2<((s2.set ((ix b.2 s1).1).toNat (w ((ix s2 ((ix b.2 s1).1))+(1:Int)))).length:Int):=⟨qM.1,by have:=qM.2;omega⟩;conv=>whnf
  refine JP hG (s2.set ((ix b.2 s1).1).toNat (w ((ix s2 ((ix b.2 s1).1))+(1:Int)))) ((ix b.2 s1).2) qM ?_;conv=>whnf
  obtain ⟨qI,h⟩:=qD h;refine ⟨⟨qI.1,qI.2.1⟩,?_⟩;replace qI:0≤(ix b.2 s1).2∧(ix b.2 s1).2<((s2.set ((ix b.2 s1).1).toNat (w ((ix s2 ((ix b.2 s1).1))+(1:Int)))).length:Int):=⟨qI.1,by have:=qI.2;omega⟩;conv=>whnf
  refine JT hG (s2.set ((ix b.2 s1).1).toNat (w ((ix s2 ((ix b.2 s1).1))+(1:Int)))) ((ix b.2 s1).2) (w ((ix (s2.set ((ix b.2 s1).1).toNat (w ((ix s2 ((ix b.2 s1).1))+(1:Int)))) ((ix b.2 s1).2))+(1:Int))) qI ?_;conv=>whnf
  exact ⟨m,Nat.lt_succ_self m,(w (s1+(1:Int))),((s2.set ((ix b.2 s1).1).toNat (w ((ix s2 ((ix b.2 s1).1))+(1:Int)))).set ((ix b.2 s1).2).toNat (w ((ix (s2.set ((ix b.2 s1).1).toNat (w ((ix s2 ((ix b.2 s1).1))+(1:Int)))) ((ix b.2 s1).2))+(1:Int)))),rfl,rfl,h⟩
 ·rw [fi];conv=>whnf
  exact rf _ _ _ h ⟨rfl,rfl⟩
theorem Zd {b:qn} {v:qa} (h:L6 b=some v):qC 55 [(.agg [(hG b.1),(.ax (b.2.flatMap p6) b.2.length .shared)])] (.ax (v.map hG) v.length .shared):=by
 refine qN dD ae0 rfl (rF (fun _=>rfl) _ _ _) fun Q bz=>?_;have lj:qE [.tmp 2] Q (fun v=>(qq v .shared)) v:=fun T H bJ=>bz _ T H bJ;unfold L6 at h;unfold Z';obtain ⟨Gi,qF⟩:∃ c,PO=c:=⟨_,rfl⟩;rw [qF];conv=>whnf
 obtain ⟨eQ,h⟩:=qD h;refine ⟨eQ.1,eQ.2.1,eQ.2.2,?_⟩;rw [W6 hG (0:Int)];conv=>whnf
 subst qF;refine ajy ?_ (by exact rfl) h;intro xt bC p_ h qt;obtain ⟨qT,rfl⟩:=qt.ex;conv=>whnf
 obtain ⟨rh,h⟩:=qD h;obtain rfl:=Option.some.inj h;exact lj _ _ ⟨.inr rfl,_,rfl,_,(acL (f:=hG) (l:=xt) (by first | exact qs.h | rfl | (simp [List.getElem?_append,I.settle];done)) rh (fun _=>rfl) (fun _=>rfl)),by rw [aiu,rh]⟩

noncomputable def PX:eM :=
 .loop (some (DX false [3,3,19])) (.seq (FY [FN 8 5,FN 9 4,FK 10 9,Fo 11 8 10 .lss] (.cond (.sl 11) .skip (.exit 0))) (.seq (.block 1 (FY [FN 14 4,FN 15 5,FH 16 14 15 1,FL 17 16,Fm 18 17 2 .rem,Fm 19 18 1 .eql] (.cond (.sl 19) (FR [FO 20 3,FN 21 5,gO 22 [.hD 21] (.xG 1 1 [.int .i64 0] [0]),gO 23 [.hA 20,.hA 22] (.app 1 8),FO 3 23]) .skip))) (FR [FO 12 5,Fk 13 12 1,FO 5 13])))
noncomputable def aao:eM :=
 FY [gO 1 [.hA 0] .box,gO 2 [.ij (.ax [] 0 .full)] (.nil 1)] (FY [gO 3 [.ij (.ax [] 0 .full)] (.nil 1)] (FY [gO 6 [.hD 1] (.px (.str 2)),gO 7 [.ij (.func 55 [] []),.sl 6] (.call 3),FO 4 7] (.seq (FY [FM 5 0] (.block 0 PX)) (FY [FO 24 3,FO 2 24] .ret))))
theorem afc:yQ Tryz.prog Qp 78=some (aao,25,[.tmp 2]):=by kernel_rfl
def J4 (aR:qa) (qh:qa→Option qa):Nat→qa→Int→Option qa
 | 0,_,_=>none
 | m+1,s1,s2 =>
   if (decide (s2<(aR.length:Int)))=true then
    qd (0≤s2∧s2<(aR.length:Int)) <|
    qd ((2:Int)≠0) <|
    if (decide (((ix aR s2).tmod (2:Int))=(1:Int)))=true then
     qd ((s1.length+1)*8≤140737488355328) <|
     J4 aR qh m (s1++[s2]) (w (s2+(1:Int)))
    else
     J4 aR qh m s1 (w (s2+(1:Int)))
   else
    qh s1
def K6 (b:qn):Option qa :=
 (L6 b).bind fun aR =>
 J4 aR (fun xt =>
   some xt) p' ([]:List Int) (0:Int)
theorem ajS {aR:qa} {qh:qa→Option qa} {s1:qa} {s2:Int} {v:qa} {Q:ra} {bC:au}  (rf:∀ (xt:qa) (p_:List I),qh xt=some v→qV 25 [(3,(qq xt (.uniq 1)))] p_→Q (.exit 0) p_ [bC]) {T:List I} (bW:eL (DX false [3,3,19]) T=F2 25 [(3,(qq s1 (.uniq 1))),(4,(qq aR .shared)),(5,(hG s2))]) (h:J4 aR qh p' s1 s2=some v) :
  dB Tryz.prog Qp 78 0 none PX T [bC] Q:=by
 unfold PX;refine wp_loop bW ?_;refine .intro (fun m T H=>∃ (s1:qa) (s2:Int),T=F2 25 [(3,(qq s1 (.uniq 1))),(4,(qq aR .shared)),(5,(hG s2))]∧H=[bC]∧J4 aR qh m s1 s2=some v) p' ⟨s1,s2,rfl,rfl,h⟩ ?_;clear h bW;rintro m T H ⟨s1,s2,rfl,rfl,h⟩;cases m
 ·exact q3 h
 rename_i m;rw [J4.eq_2] at h;conv=>whnf
 refine bs h (fun fi h=>?_) fun fi h=>?_
 ·rw [fi];conv=>whnf
  refine qy h id fun qu h=>?_;rw [rA hG aR s2 qu];conv=>whnf
  refine qy h id fun qA h=>?_;conv=>whnf
  refine bs h (fun qG h=>?_) fun qG h=>?_
  ·rw [qG];(conv=>whnf);obtain ⟨q7,h⟩:=qD h;refine ⟨by first | rfl | simp,by have:=q7;omega,rfl,q7,?_⟩
   erw [Ii hG s1 s2];(conv=>whnf);exact ⟨m,Nat.lt_succ_self m,(s1++[s2]),(w (s2+(1:Int))),rfl,rfl,h⟩
  ·rw [qG];(conv=>whnf);exact ⟨m,Nat.lt_succ_self m,s1,(w (s2+(1:Int))),rfl,rfl,h⟩
 ·rw [fi];conv=>whnf
  exact rf _ _ h ⟨rfl,rfl⟩
theorem Tu {b:qn} {v:qa} (h:K6 b=some v):qC 78 [(.agg [(hG b.1),(.ax (b.2.flatMap p6) b.2.length .shared)])] (.ax (v.map hG) v.length .shared):=by
 refine qN dD afc rfl (rF (fun _=>rfl) _ _ _) fun Q bz=>?_;have lj:qE [.tmp 2] Q (fun v=>(qq v .shared)) v:=fun T H bJ=>bz _ T H bJ;unfold K6 at h;unfold aao;obtain ⟨Gi,qF⟩:∃ c,PX=c:=⟨_,rfl⟩;rw [qF];conv=>whnf
 obtain ⟨aR,eQ,h⟩:=qi h;refine ⟨qm.pl,_,Zd eQ,?_⟩;conv=>whnf
 subst qF;refine ajS ?_ (by exact rfl) h;intro xt p_ h qt;obtain ⟨qT,rfl⟩:=qt.ex;conv=>whnf
 exact qj h lj rfl rfl
end Go.Proofs.YtfakoboiahbhaaaGreat.Ab


namespace Go.Proofs.YtfakoboiahbhaaaGreat.Ab
open Go
theorem S9 (n:Nat):(upto n).Pairwise (·<·):=by
 unfold upto;exact List.pairwise_map.2 (List.pairwise_lt_range.imp fun h=>Int.ofNat_lt.2 h)
section
variable {b t:qb}
def rj (b:qb) (S:List Int):List Int:=(upto 6).filter fun f=>decide (q2 b S f % 2=1)
theorem Kw {S:List Int} {f:Int}:f∈rj b S↔(0≤f∧f<6)∧q2 b S f % 2=1:=by
 unfold rj;rw [List.mem_filter,Gc,decide_eq_true_eq];rfl
theorem OI (S:List Int):(rj b S).Pairwise (·<·):=(S9 6).filter _
theorem acp (e:Int×Int) (v:Int):H2 e v≤2:=by unfold H2;split <;> split <;> omega
theorem U5 (S:List Int) (v:Int):q2 b S v≤2*S.length:=by
 induction S with
 | nil=>simp [Kd]
 | cons i S a9=>rw [Mr,List.length_cons];have:=acp (ix b.2 i) v;omega
def Kb (S:List Int) (x:Int):List Int:=S.set x.toNat (w (ix S x+1))
theorem N3 (S:List Int) (x:Int):(Kb S x).length=S.length:=by simp [Kb]
theorem VX {S:List Int} {x f:Int} (al:0≤x∧x<(S.length:Int)) (aN:0≤f∧f<(S.length:Int)) (ai:0≤ix S x∧ix S x≤100000):ix (Kb S x) f=ix S f+if x=f then 1 else 0:=by
 obtain ⟨a,rfl⟩:∃ a:Nat,x=(a:Int):=⟨x.toNat,by omega⟩;obtain ⟨c,rfl⟩:∃ c:Nat,f=(c:Int):=⟨f.toNat,by omega⟩;unfold Kb;rw [Ia (by omega),Int.toNat_natCast];by_cases h:a=c
 ·subst h;rw [Ks (by omega),if_pos rfl]
 ·rw [Jg (Ne.symm h),if_neg (by omega),Int.add_zero]
structure Hs (b:qb) (n:Nat) (GK S:List Int):Prop where
 len:S.length=n
 val:∀ f:Int,0≤f→f<(n:Int)→ix S f=(q2 b GK f:Int)
theorem Hs.step {n:Nat} {GK S:List Int} {i:Int} (h:Hs b n GK S) (a2:GK.length≤1000) (ad:0≤(ix b.2 i).1∧(ix b.2 i).1<(n:Int)) (af:0≤(ix b.2 i).2∧(ix b.2 i).2<(n:Int)):Hs b n (GK++[i]) (Kb (Kb S (ix b.2 i).1) (ix b.2 i).2):=by
 have aq:=h.len;have dV:=h.val _ ad.1 ad.2;have akD:=U5 (b:=b) GK (ix b.2 i).1;have dt:=h.val _ af.1 af.2;have akE:=U5 (b:=b) GK (ix b.2 i).2;refine ⟨by rw [N3,N3,aq],fun f JH BL=>?_⟩;have e1:∀ f:Int,0≤f→f<(n:Int)→ix (Kb S (ix b.2 i).1) f=ix S f+if (ix b.2 i).1=f then 1 else 0:=fun f aB aF=>VX ⟨ad.1,by omega⟩ ⟨aB,by omega⟩ ⟨by omega,by omega⟩;rw [VX ⟨af.1,by rw [N3];omega⟩ ⟨JH,by rw [N3];omega⟩ (by rw [e1 _ af.1 af.2,dt];split <;> omega),e1 f JH BL,h.val f JH BL,N7,Mr,Kd];unfold H2;split <;> split <;> omega
theorem Hs.zero (n:Nat):Hs b n [] (List.replicate n 0):=⟨by simp,fun f ad af=>by rw [Rz];rfl⟩
theorem Zl (p8:qJ t) {S:List Int} (cg:rm t S) (aq:S.length≤1000) {k:List Int→Option (List Int)}:∀ (m i:Nat) (z:Int) (C:List Int),z=i→i≤S.length→S.length-i<m→Hs t 6 (S.take i) C →
  ∃ Me,Hs t 6 S Me∧K4 t S k m z C=k Me
 | 0,_,_,_,_,_,h,_=>absurd h (by omega)
 | m+1,i,_,C,rfl,hi,hm,rM=>by
   rw [K4];have bD:=rM.len;have bU:=p8.f6;by_cases h:(i:Int)<(S.length:Int)
   ·(have rb:i<S.length:=by omega);have mZ:=cg _ (List.getElem_mem rb);have kc:=MV (l:=t.2) (i:=S[i]) ⟨mZ.1,mZ.2⟩;have ad:=p8.left _ kc;have af:=p8.right _ kc;have cF:=rM.step (i:=S[i]) (by simp;omega) ⟨ad.1,by omega⟩ ⟨af.1,by omega⟩;rw [←Jo rb] at cF;rw [if_pos (decide_eq_true h),qp ⟨by omega,h⟩,rn rb,qp mZ,qp ⟨ad.1,by omega,bD.symm⟩,qp ⟨ad.1,by omega,bD.symm⟩,qp mZ,qp ⟨af.1,by omega,by simp [bD]⟩,qp ⟨af.1,by omega,by simp [bD]⟩,rq i (by omega)];exact Zl p8 cg aq m (i+1) _ _ rfl (by omega) (by omega) cF
   ·rw [if_neg (by simpa using h)]
    have:i=S.length:=by omega
    subst this;rw [List.take_length] at rM;exact ⟨C,rM,rfl⟩
theorem Pc (n:Nat):((n:Int).tmod 2=1)↔n % 2=1:=by
 rw [Int.tmod_eq_emod_of_nonneg (by omega)];omega
theorem Pe (q:Int→Bool) (i:Nat):(upto (i+1)).filter q=(upto i).filter q++if q (i:Int) then [(i:Int)] else []:=by
 rw [KC,List.filter_append,List.filter_cons,List.filter_nil]
theorem Tq {S C:List Int} (rM:Hs t 6 S C) {k:List Int→Option (List Int)}:∀ (m i:Nat) (z:Int),z=i→i≤6→6-i<m →
  Jr C k m ((upto i).filter fun f=>decide (q2 t S f % 2=1)) z=k (rj t S)
 | 0,_,_,_,_,h=>absurd h (by omega)
 | m+1,i,_,rfl,hi,hm=>by
   rw [Jr];have aq:((upto i).filter fun f=>decide (q2 t S f % 2=1)).length≤6:=Nat.le_trans (List.length_filter_le _ _) (by rw [r3];exact hi);by_cases h:(i:Int)<6
   ·rw [if_pos (decide_eq_true h),qp ⟨by omega,h,rM.len⟩,qp (by decide),rM.val i (by omega) h];by_cases ar:q2 t S (i:Int) % 2=1
    ·rw [if_pos (decide_eq_true ((Pc _).2 ar)),qp ⟨rfl,by omega,by omega⟩,Int.toNat_natCast,List.take_length,qp (by omega),rq i (by omega)];have ai:=Pe (fun f=>decide (q2 t S f % 2=1)) i;rw [if_pos (decide_eq_true ar)] at ai;rw [←ai];exact Tq rM m (i+1) _ rfl (by omega) (by omega)
    ·rw [if_neg (by simpa [Pc] using ar),rq i (by omega)];have ai:=Pe (fun f=>decide (q2 t S f % 2=1)) i;rw [if_neg (by simpa using ar),List.append_nil] at ai;rw [←ai];exact Tq rM m (i+1) _ rfl (by omega) (by omega)
   ·rw [if_neg (by simpa using h)]
    have:i=6:=by omega
    subst this;rfl
theorem Zk (p8:qJ t) {S:List Int} (cg:rm t S) (aq:S.length≤1000):K3 t S=some (rj t S):=by
 rw [K3]
 obtain ⟨C,rM,aj⟩:=Zl p8 cg aq (k:=fun xt =>
   qd (xt.length=6) <|
   qd (xt.length=6) <|
   if (decide (xt=[(0:Int),(0:Int),(0:Int),(0:Int),(0:Int),(0:Int)]))=true then
    some []
   else
    qd (xt.length=6) <|
    Jr xt (fun n0 =>
      some n0) p' ([]:List Int) (0:Int)) p' 0 0 _ rfl (by omega) (ru (by omega)) (by rw [List.take_zero];exact Hs.zero 6)
 rw [aj,qp rM.len,qp rM.len];split
 ·rename_i h;have h:=of_decide_eq_true h;congr 1
  symm
  refine List.filter_eq_nil_iff.2 fun f aN=>?_;have aN:=Gc.1 aN;have ae:=rM.val f aN.1 aN.2;have e:C=List.replicate 6 (0:Int):=h;rw [e,Rz] at ae
  have:q2 t S f=0:=by omega
  simp [this]
 ·rw [qp rM.len];exact Tq rM p' 0 0 rfl (by omega) (ru (by omega))
theorem Zm (ag:t.2.length≤1000) {k:List Int→Option (List Int)}:∀ (m i:Nat) (z:Int),z=i→i≤t.2.length→t.2.length-i<m→K5 t k m (upto i) z=k (upto t.2.length)
 | 0,_,_,_,_,h=>absurd h (by omega)
 | m+1,i,_,rfl,hi,hm=>by
   rw [K5];by_cases h:(i:Int)<(t.2.length:Int)
   ·rw [if_pos (decide_eq_true h),qp (by rw [r3];omega),rq i (by omega),←KC];exact Zm ag m (i+1) _ rfl (by omega) (by omega)
   ·rw [if_neg (by simpa using h),show i=t.2.length by omega]
theorem ajP (ag:t.2.length≤1000):Pn t=some (upto t.2.length):=Zm ag p' 0 0 rfl (by omega) (ru (by omega))
def H7 (b:qb):List Int:=rj b (upto b.2.length)
theorem Zc (p8:qJ b) {k:List Int→Option (List Int)}:∀ (m i:Nat) (z:Int) (C:List Int),z=i→i≤b.2.length→b.2.length-i<m→Hs b b.1.toNat (upto i) C →
  ∃ Me,Hs b b.1.toNat (upto b.2.length) Me∧KZ b k m z C=k Me
 | 0,_,_,_,_,_,h,_=>absurd h (by omega)
 | m+1,i,_,C,rfl,hi,hm,rM=>by
   rw [KZ];have bD:=rM.len;have hlen:=p8.len;by_cases h:(i:Int)<(b.2.length:Int)
   ·(have rb:i<b.2.length:=by omega);have ai:=KA p8 rb;have cF:=rM.step (i:=(i:Int)) (by rw [r3];omega) ⟨ai.1,by omega⟩ ⟨ai.2.2.1,by omega⟩;rw [←KC] at cF;rw [if_pos (decide_eq_true h),qp ⟨by omega,h⟩,qp ⟨ai.1,by omega,bD.symm⟩,qp ⟨ai.1,by omega,bD.symm⟩,qp ⟨by omega,h⟩,qp ⟨ai.2.2.1,by omega,by simp [bD]⟩,qp ⟨ai.2.2.1,by omega,by simp [bD]⟩,rq i (by omega)];exact Zc p8 m (i+1) _ _ rfl (by omega) (by omega) cF
   ·rw [if_neg (by simpa using h)]
    have:i=b.2.length:=by omega
    subst this;exact ⟨C,rM,rfl⟩
theorem Zb (p8:qJ b):∃ C,Hs b b.1.toNat (upto b.2.length) C∧L6 b=some C:=by
 have bU:=p8.f6;have ad:=p8.f1;have hlen:=p8.len;rw [L6,qp ⟨by omega,by omega,by omega⟩];obtain ⟨C,rM,aj⟩:=Zc p8 (k:=fun xt=>qd (b.1.toNat=xt.length) <| some xt) p' 0 0 _ rfl (by omega) (ru (by omega)) (Hs.zero _);exact ⟨C,rM,by rw [aj,qp rM.len.symm]⟩
theorem Tt {n:Nat} (aP:n≤6) {S C:List Int} (rM:Hs b n S C) {k:List Int→Option (List Int)}:∀ (m i:Nat) (z:Int),z=i→i≤n→n-i<m →
  J4 C k m ((upto i).filter fun f=>decide (q2 b S f % 2=1)) z=k ((upto n).filter fun f=>decide (q2 b S f % 2=1))
 | 0,_,_,_,_,h=>absurd h (by omega)
 | m+1,i,_,rfl,hi,hm=>by
   rw [J4];have aq:((upto i).filter fun f=>decide (q2 b S f % 2=1)).length≤6:=Nat.le_trans (List.length_filter_le _ _) (by rw [r3];omega);have bD:=rM.len;by_cases h:(i:Int)<(C.length:Int)
   ·rw [if_pos (decide_eq_true h),qp ⟨by omega,h⟩,qp (by decide),rM.val i (by omega) (by omega)];by_cases ar:q2 b S (i:Int) % 2=1
    ·rw [if_pos (decide_eq_true ((Pc _).2 ar)),qp (by omega),rq i (by omega)];have ai:=Pe (fun f=>decide (q2 b S f % 2=1)) i;rw [if_pos (decide_eq_true ar)] at ai;rw [←ai];exact Tt aP rM m (i+1) _ rfl (by omega) (by omega)
    ·rw [if_neg (by simpa [Pc] using ar),rq i (by omega)];have ai:=Pe (fun f=>decide (q2 b S f % 2=1)) i;rw [if_neg (by simpa using ar),List.append_nil] at ai;rw [←ai];exact Tt aP rM m (i+1) _ rfl (by omega) (by omega)
   ·rw [if_neg (by simpa using h)]
    have:i=n:=by omega
    subst this;rfl
theorem acs (p8:qJ b) {S:List Int} (cg:rm b S) {f:Int} (aN:b.1≤f):q2 b S f=0:=Ms.2 fun i hi kc=>by
 have:=Mz p8 (Gc.2 (cg i hi)) kc;omega
theorem afw (p8:qJ b) {S:List Int} (cg:rm b S):rj b S=(upto b.1.toNat).filter fun f=>decide (q2 b S f % 2=1):=by
 have bU:=p8.f6;have ad:=p8.f1;refine SM (OI S) ((S9 _).filter _) fun f=>?_;rw [Kw,List.mem_filter,Gc,decide_eq_true_eq];constructor
 ·rintro ⟨⟨aB,aF⟩,aS⟩;refine ⟨⟨aB,?_⟩,aS⟩;refine Classical.byContradiction fun aP=>?_;rw [acs p8 cg (by omega)] at aS;simp at aS
 ·rintro ⟨⟨aB,aF⟩,aS⟩;exact ⟨⟨aB,by omega⟩,aS⟩
theorem Ts (p8:qJ b):K6 b=some (H7 b):=by
 obtain ⟨C,rM,aj⟩:=Zb p8;have bU:=p8.f6;rw [K6,aj,Option.bind_some];unfold H7;rw [afw p8 It];exact Tt (by omega) rM p' 0 0 rfl (by omega) (ru (by omega))
end
end Go.Proofs.YtfakoboiahbhaaaGreat.Ab


namespace Go.Proofs.YtfakoboiahbhaaaGreat.Ab
open Go
theorem Xv {α:Type} [BEq α] [LawfulBEq α]:∀ (a b:List α),a.Nodup→(∀ x∈a,x∈b)→a.length≤b.length
 | [],_,_,_=>Nat.zero_le _
 | x::a,b,aP,h=>by
   obtain ⟨ad,af⟩:=List.nodup_cons.1 aP;have al:=h x (by simp);have:=Xv a (b.erase x) af fun y aZ=>by
    have bY:y≠x:=fun e=>ad (e ▸ aZ);exact (List.mem_erase_of_ne bY).2 (h y (by simp [aZ]))
   rw [List.length_erase_of_mem al] at this;have:=List.length_pos_of_mem al;simp only [List.length_cons];omega
section
variable {b t:qb}
structure RowsOf (b:qb) (S:List Int) (R:List Row):Prop where
 ok:∀ r∈R,∀ p∈r,Hc b p
 go:∀ r∈R,∃ a c,q1 b a r=some c
 all:((R.flatten).map (·.1)).Perm S
theorem RowsOf.app {S S':List Int} {R TN:List Row} (h:RowsOf b S R) (a4:RowsOf b S' TN):RowsOf b (S++S') (R++TN):=by
 refine ⟨fun r aj=>?_,fun r aj=>?_,?_⟩
 ·rcases List.mem_append.1 aj with aj | aj
  ·exact h.ok r aj
  ·exact a4.ok r aj
 ·rcases List.mem_append.1 aj with aj | aj
  ·exact h.go r aj
  ·exact a4.go r aj
 ·rw [List.flatten_append,List.map_append];exact h.all.append a4.all
theorem RowsOf.nil:RowsOf b [] []:=⟨fun r aj=>absurd aj (by simp),fun r aj=>absurd aj (by simp),by simp⟩
def Mu (b:qb):Row→List Int
 | []=>[]
 | p::r=>[qX b p,(q1 b (qX b p) (p::r)).getD 0]
theorem acw {r:Row} {a c v:Int} (h:q1 b a r=some c) (ar:q2 b (r.map (·.1)) v % 2=1):v∈Mu b r:=by
 cases r with
 | nil=>simp [Kd] at ar
 | cons p r =>
   have ag:=(HY.1 h).1;have aD:=Ns _ _ _ v h;show v∈[qX b p,(q1 b (qX b p) (p::r)).getD 0];rw [ag,h];simp only [Option.getD_some,List.mem_cons,List.not_mem_nil,or_false];by_cases ad:a=v
   ·exact .inl ad.symm
   ·by_cases af:c=v
    ·exact .inr af.symm
    ·rw [if_neg ad,if_neg af] at aD;omega
theorem U4 (v:Int):∀ (R:List Row),q2 b ((R.flatten).map (·.1)) v % 2=1→∃ r∈R,q2 b (r.map (·.1)) v % 2=1
 | [],h=>by simp [Kd] at h
 | r::R,h=>by
   rw [List.flatten_cons,List.map_append,N7] at h;by_cases ad:q2 b (r.map (·.1)) v % 2=1
   ·exact ⟨r,by simp,ad⟩
   ·obtain ⟨q,bl,af⟩:=U4 v R (by omega);exact ⟨q,by simp [bl],af⟩
theorem U6:∀ (R:List Row),(R.flatMap (Mu b)).length≤2*(R.filter fun r=>!r.isEmpty).length
 | []=>by simp
 | r::R=>by
   have a9:=U6 R;rw [List.flatMap_cons,List.length_append,List.filter_cons];cases r with
   | nil=>simpa [Mu] using a9
   | cons p r =>
     rw [if_pos (by simp)];simp only [Mu,List.length_cons,List.length_nil] at *;omega
theorem RowsOf.I_ {S:List Int} {R:List Row} (h:RowsOf b S R):(rj b S).length≤2*(R.filter fun r=>!r.isEmpty).length:=by
 refine Nat.le_trans (Xv _ (R.flatMap (Mu b)) ((OI S).imp fun h e=>by omega) fun v ae=>?_) (U6 R);have ae:=(Kw.1 ae).2;rw [←N8 h.all] at ae;obtain ⟨r,aj,ad⟩:=U4 v R ae;obtain ⟨a,c,Hz⟩:=h.go r aj;exact List.mem_flatMap.2 ⟨r,aj,acw Hz ad⟩
def HM (l:List (Int×Int)) (v:Int):Nat:=(l.map fun e=>H2 e v).sum
theorem acr (e:Int×Int) (l:List (Int×Int)) (v:Int):HM (e::l) v=H2 e v+HM l v:=by simp [HM]
theorem acq (l l':List (Int×Int)) (v:Int):HM (l++l') v=HM l v+HM l' v:=by simp [HM]
theorem QC (S:List Int) (v:Int):q2 b S v=HM (S.map (ix b.2)) v:=by
 unfold q2 HM;rw [List.map_map];rfl
theorem Wc {α:Type} [Inhabited α] (l:List α):(upto l.length).map (ix l)=l:=by
 refine List.ext_getElem (by simp [r3]) fun i ad af=>?_;simp only [upto,List.getElem_map,List.getElem_range];exact rn af
theorem U3 (v:Int):q2 b (upto b.2.length) v=HM b.2 v:=by rw [QC,Wc]
def GA:List Int→List (Int×Int)
 | x::y::r=>(x,y)::GA r
 | _=>[]
theorem X4:∀ (l:List Int),(GA l).length=l.length / 2
 | []=>rfl
 | [_]=>by simp [GA]
 | x::y::r=>by simp only [GA,List.length_cons,X4 r];omega
theorem X3:∀ (l:List Int) (v:Int),l.Nodup→l.length % 2=0→HM (GA l) v=if v∈l then 1 else 0
 | [],v,_,_=>by simp [GA,HM]
 | [_],_,_,h=>by simp at h
 | x::y::r,v,aP,h=>by
   obtain ⟨ad,af⟩:=List.nodup_cons.1 aP;obtain ⟨aH,bh⟩:=List.nodup_cons.1 af;have a9:=X3 r v bh (by simp only [List.length_cons] at h;omega);rw [GA,acr,a9];unfold H2;have GD:x≠y:=fun e=>ad (by simp [e]);by_cases e1:v=x
   ·subst e1
    have:v ∉ r:=fun hm=>ad (by simp [hm])
    simp [this,Ne.symm GD]
   ·by_cases cd:v=y
    ·subst cd;simp [aH,GD]
    ·simp [e1,cd,Ne.symm e1,Ne.symm cd]
theorem X5:∀ (l:List Int) (e:Int×Int),e∈GA l→e.1∈l∧e.2∈l
 | [],e,h=>by simp [GA] at h
 | [_],e,h=>by simp [GA] at h
 | x::y::r,e,h=>by
   rw [GA] at h;rcases List.mem_cons.1 h with rfl | h
   ·simp
   ·have:=X5 r e h;exact ⟨by simp [this.1],by simp [this.2]⟩
theorem ahn:∀ (n:Nat) (S:List Int),(∀ i∈S,0≤(ix b.2 i).1∧(ix b.2 i).1<(n:Int)∧0≤(ix b.2 i).2∧(ix b.2 i).2<(n:Int))→((upto n).map fun v=>q2 b S v).sum=2*S.length:=by
 have one:∀ (x:Int) (n:Nat),((upto n).map fun v=>if x=v then 1 else 0).sum=if 0≤x∧x<(n:Int) then 1 else 0:=by
  intro x n
  induction n with
  | zero=>rw [if_neg (by omega)];rfl
  | succ n a9 =>
    rw [KC,List.map_append,List.sum_append,a9];simp only [List.map_cons,List.map_nil,List.sum_cons,List.sum_nil];split <;> split <;> split <;> omega
 have add:∀ (l:List Int) (f g:Int→Nat),(l.map fun v=>f v+g v).sum=(l.map f).sum+(l.map g).sum:=by
  intro l f g
  induction l with
  | nil=>rfl
  | cons x l a9=>simp only [List.map_cons,List.sum_cons,a9];omega
 intro n S h
 induction S with
 | nil =>
   have:∀ l:List Int,(l.map fun v=>q2 b [] v).sum=0:=fun l=>by
    induction l with
    | nil=>rfl
    | cons x l a9=>rw [List.map_cons,List.sum_cons,a9,Kd]
   exact this _
 | cons i S a9 =>
   have hi:=h i (by simp);simp only [Mr];rw [add,a9 fun j az=>h j (by simp [az])];unfold H2;rw [add,one,one,if_pos ⟨hi.1,hi.2.1⟩,if_pos ⟨hi.2.2.1,hi.2.2.2⟩,List.length_cons];omega
theorem RG (p8:qJ b) {S:List Int} (cg:rm b S):(rj b S).length % 2=0:=by
 have bU:=p8.f6;have ai:=ahn (b:=b) 6 S fun i hi=>by
  have hm:=MV (l:=b.2) (i:=i) (cg i hi);have ad:=p8.left _ hm;have af:=p8.right _ hm;exact ⟨ad.1,by omega,af.1,by omega⟩
 have key:∀ l:List Int,(l.filter fun f=>decide (q2 b S f % 2=1)).length % 2=(l.map fun v=>q2 b S v).sum % 2:=by
  intro l
  induction l with
  | nil=>rfl
  | cons x l a9 =>
    rw [List.filter_cons,List.map_cons,List.sum_cons];split
    ·rename_i h;have h:=of_decide_eq_true h;rw [List.length_cons];omega
    ·rename_i h;(have h:¬ q2 b S x % 2=1:=by simpa using h);omega
 unfold rj;rw [key,ai];omega
def sf (b:qb) (S:List Int):qb:=(b.1,S.map (ix b.2)++GA (rj b S))
theorem LN (S:List Int):(sf b S).2.length=S.length+(rj b S).length / 2:=by
 unfold sf;simp [X4]
theorem Nu {S:List Int} {i:Nat} (h:i<S.length):ix (sf b S).2 (i:Int)=ix b.2 S[i]:=by
 have aH:i<(S.map (ix b.2)++GA (rj b S)).length:=by simp;omega
 show ix (S.map (ix b.2)++GA (rj b S)) (i:Int)=_;rw [rn aH,List.getElem_append_left (by simpa using h),List.getElem_map]
theorem ahH {S:List Int} {i:Nat} (h:S.length≤i) (af:i<(sf b S).2.length):ix (sf b S).2 (i:Int)∈GA (rj b S):=by
 have aH:i<(S.map (ix b.2)++GA (rj b S)).length:=af;show ix (S.map (ix b.2)++GA (rj b S)) (i:Int)∈_;rw [rn aH,List.getElem_append_right (by simpa using h)];exact List.getElem_mem _
theorem ahG (p8:qJ b) {S:List Int} (cg:rm b S) (v:Int):q2 (sf b S) (upto (sf b S).2.length) v % 2=0:=by
 rw [U3];show HM (S.map (ix b.2)++GA (rj b S)) v % 2=0;rw [acq,←QC,X3 _ _ ((OI S).imp fun h e=>by omega) (RG p8 cg)];split
 ·rename_i h;have:=(Kw.1 h).2;omega
 ·rename_i h;have bU:=p8.f6;refine Classical.byContradiction fun aP=>h (Kw.2 ⟨?_,by omega⟩)
  have:q2 b S v≠0:=fun e=>by rw [e] at aP;exact aP rfl
  refine Classical.byContradiction fun ae=>this (Ms.2 fun i hi kc=>?_);have:=Mz p8 (Gc.2 (cg i hi)) kc;omega
theorem XO {S:List Int} {f g:Int} (h:rB b S f g):rB (sf b S) (upto (sf b S).2.length) f g:=by
 induction h with
 | refl=>exact .refl
 | step i _ hi aB aF a9 =>
   obtain ⟨k,av,e⟩:=List.getElem_of_mem hi;have aq:=LN (b:=b) S;refine .step (k:Int) a9 (Gc.2 ⟨by omega,by omega⟩) ?_ ?_
   ·unfold qW at aB ⊢;rw [Nu av,e];exact aB
   ·unfold qW at aF ⊢;rw [Nu av,e];exact aF
theorem round_part (p8:qJ b) {S:List Int} (cg:rm b S) (aq:S.length≤990) (aT:S≠[]) (ak:∀ x∈S,∀ y∈S,∀ f g,qW b x f→qW b y g→rB b S f g) :
  ∃ l a,KE (sf b S)=some l∧Full (sf b S) l∧q1 (sf b S) a l=some a:=by
 have hlen:=LN (b:=b) S;have Kp:0<S.length:=List.length_pos_iff.2 aT;have ar:(rj b S).length≤6:=Nat.le_trans (List.length_filter_le _ _) (by rw [r3];omega);have fP:ix (sf b S).2 0=ix b.2 S[0]:=Nu (i:=0) Kp;obtain ⟨l,ad,af,aH⟩:=aiB (t:=sf b S) (ahG p8 cg) (by omega) (by omega) fun i hi=>by
  by_cases VK:i<S.length
  ·refine ⟨(ix b.2 S[i]).1,.inl (by rw [Nu VK]),?_⟩;rw [fP];exact XO (ak _ (List.getElem_mem _) _ (List.getElem_mem VK) _ _ (.inl rfl) (.inl rfl))
  ·have hm:=ahH (b:=b) (S:=S) (by omega) hi;refine ⟨(ix (sf b S).2 (i:Int)).1,.inl rfl,?_⟩;have HQ:=(Kw.1 (X5 _ _ hm).1).2
   have:¬ ∀ x∈S,¬ qW b x (ix (sf b S).2 (i:Int)).1:=fun aP=>by
    rw [Ms.2 aP] at HQ;simp at HQ
   have:∃ x∈S,qW b x (ix (sf b S).2 (i:Int)).1:=Classical.byContradiction fun aP=>this fun x al aN=>aP ⟨x,al,aN⟩
   obtain ⟨x,al,aN⟩:=this;rw [fP];exact XO (ak _ (List.getElem_mem Kp) x al _ _ (.inl rfl) aN)
 exact ⟨l,_,ad,af,aH⟩
theorem rC.ach {S:List Int} {out:List (List Int)} (h:rC b S out) {r:List Int} (aj:r∈out):∀ x∈r,∀ y∈r,∀ f g,qW b x f→qW b y g→rB b r f g:=by
 intro x al y aZ f g aN aK;have ak:=h.HL r aj x al y aZ f g aN aK;clear aK
 induction ak with
 | refl=>exact .refl
 | step i BM hi aB aF a9=>exact .step i a9 (h.closed aj al aN BM i hi aB) aB aF
end
end Go.Proofs.YtfakoboiahbhaaaGreat.Ab


namespace Go.Proofs.YtfakoboiahbhaaaGreat.Ab
open Go
def sc (S:List Int):Row→Row→List Row
 | own,[]=>if 0<own.length then [own] else []
 | own,p::r=>if p.1<(S.length:Int) then sc S (own++[(ix S p.1,p.2)]) r else own::sc S [] r
section
variable {b:qb} {S:List Int}
theorem Xt:∀ (m l:Row) (own:Row),(∀ p∈m,p.1<(S.length:Int))→sc S own (m++l)=sc S (own++m.map fun p=>(ix S p.1,p.2)) l
 | [],l,own,_=>by simp
 | p::m,l,own,h=>by
   rw [List.cons_append,sc,if_pos (h p (by simp)),Xt m l _ fun q bl=>h q (by simp [bl])];simp
theorem abU {p:Int×Int} (ad:0≤p.1) (af:p.1<(S.length:Int)):qX (sf b S) p=qX b (ix S p.1,p.2)∧fin (sf b S) p=fin b (ix S p.1,p.2):=by
 obtain ⟨i,hi⟩:∃ i:Nat,p.1=(i:Int):=⟨p.1.toNat,by omega⟩;unfold qX fin;rw [hi,Nu (by omega),rn (by omega)];exact ⟨rfl,rfl⟩
theorem O' (cg:rm b S):∀ (l own:Row),(∀ p∈own,Hc b p)→(∀ p∈l,Hc (sf b S) p)→∀ r∈sc S own l,∀ p∈r,Hc b p
 | [],own,ad,_=>by
   rw [sc];split
   ·intro r aj;rw [List.mem_singleton.1 aj];exact ad
   ·intro r aj;simp at aj
 | q::l,own,ad,af=>by
   rw [sc];have bl:=af q (by simp);split
   ·rename_i aY;refine O' cg l _ (fun p aD=>?_) fun p aD=>af p (by simp [aD]);rcases List.mem_append.1 aD with aD | aD
    ·exact ad p aD
    ·rw [List.mem_singleton.1 aD];have hm:ix S q.1∈S:=by
      obtain ⟨i,hi⟩:∃ i:Nat,q.1=(i:Int):=⟨q.1.toNat,by have:=bl.1;omega⟩;rw [hi,rn (by omega)];exact List.getElem_mem _
     exact ⟨(cg _ hm).1,(cg _ hm).2,bl.2.2.1,bl.2.2.2⟩
   ·intro r aj;rcases List.mem_cons.1 aj with rfl | aj
    ·exact ad
    ·exact O' cg l [] (fun p aD=>absurd aD (by simp)) (fun p aD=>af p (by simp [aD])) r aj
theorem O_:∀ (l own:Row) (jd a e:Int),q1 b jd own=some a→q1 (sf b S) a l=some e→(∀ p∈l,Hc (sf b S) p)→∀ r∈sc S own l,∃ a c,q1 b a r=some c
 | [],own,jd,a,e,ad,_,_=>by
   rw [sc];split
   ·intro r aj;rw [List.mem_singleton.1 aj];exact ⟨_,_,ad⟩
   ·intro r aj;simp at aj
 | q::l,own,jd,a,e,ad,af,aH=>by
   rw [sc];obtain ⟨cn,cp⟩:=HY.1 af;have bl:=aH q (by simp);split
   ·rename_i aY;obtain ⟨br,cU⟩:=abU (b:=b) bl.1 aY;refine O_ l _ jd (fin (sf b S) q) e ?_ cp fun p aD=>aH p (by simp [aD]);rw [IZ,ad,Option.bind_some];exact LL.2 ⟨by rw [←br];exact cn,cU.symm⟩
   ·intro r aj;rcases List.mem_cons.1 aj with rfl | aj
    ·exact ⟨_,_,ad⟩
    ·exact O_ l [] _ _ e rfl cp (fun p aD=>aH p (by simp [aD])) r aj
def Gl (S:List Int) (p:Int×Int):Bool:=decide (p.1<(S.length:Int))
theorem O9:∀ (l own:Row),(sc S own l).flatten.map (·.1)=own.map (·.1)++(l.filter (Gl S)).map fun p=>ix S p.1
 | [],own=>by
   rw [sc];split
   ·simp
   ·have:own=[]:=List.length_eq_zero_iff.1 (by omega)
    simp [this]
 | q::l,own=>by
   rw [sc,List.filter_cons];split
   ·rename_i h;have a4:Gl S q=true:=decide_eq_true h;rw [O9 l,if_pos a4];simp
   ·rename_i h;(have a4:¬ Gl S q=true:=by simpa [Gl] using h);rw [List.flatten_cons,List.map_append,O9 l,if_neg a4];simp
theorem SW {q:Int×Int} (bl:Gl S q=false):∀ (m own:Row),(sc S own (m++[q])).length=(m.filter fun p=>!Gl S p).length+1
 | [],own=>by
   have:¬ q.1<(S.length:Int):=by simpa [Gl] using bl
   rw [List.nil_append,sc,if_neg this];simp [sc]
 | p::m,own=>by
   rw [List.cons_append,sc,List.filter_cons];split
   ·rename_i h;have a4:Gl S p=true:=decide_eq_true h;rw [SW bl m,a4];simp
   ·rename_i h;(have a4:Gl S p=false:=by simpa [Gl] using h);rw [List.length_cons,SW bl m,a4];simp
theorem RM {α:Type} (p:α→Bool):∀ (l:List α) (i:Nat),(posOf p l i=-1∧∀ x∈l,p x=false)∨∃ dA q kq,l=dA++q::kq∧p q=true∧posOf p l i=((i+dA.length:Nat):Int)
 | [],i=>.inl ⟨rfl,fun x al=>by simp at al⟩
 | x::l,i=>by
   rw [posOf];by_cases h:p x=true
   ·rw [if_pos h];exact .inr ⟨[],x,l,rfl,h,rfl⟩
   ·rw [if_neg h];rcases RM p l (i+1) with ⟨ad,af⟩ | ⟨dA,q,kq,rfl,af,aH⟩
    ·refine .inl ⟨ad,fun y aZ=>?_⟩;rcases List.mem_cons.1 aZ with rfl | aZ
     ·simpa using h
     ·exact af y aZ
    ·refine .inr ⟨x::dA,q,kq,rfl,af,?_⟩;rw [aH,List.length_cons];congr 1;omega
theorem Full.perm {t:qb} {l l':Row} (h:Full t l) (aD:l'.Perm l):Full t l' :=
 ⟨fun p adQ=>h.ok p (aD.mem_iff.1 adQ),(aD.map _).nodup_iff.2 h.Gm,fun i hi=>(aD.map (·.1)).mem_iff.2 (h.all i hi)⟩
theorem Full.upto {t:qb} {l:Row} (h:Full t l):(l.map (·.1)).Perm (upto t.2.length):=by
 refine (List.perm_ext_iff_of_nodup h.Gm (Iu _)).2 fun x=>?_;rw [Gc];constructor
 ·intro al;obtain ⟨p,aD,rfl⟩:=List.mem_map.1 al;have:=h.ok p aD;exact ⟨this.1,this.2.1⟩
 ·rintro ⟨ad,af⟩;obtain ⟨i,rfl⟩:∃ i:Nat,x=(i:Int):=⟨x.toNat,by omega⟩;exact h.all i (by omega)
theorem Full.own {l:Row} (h:Full (sf b S) l):((l.filter (Gl S)).map fun p=>ix S p.1).Perm S:=by
 have ad:((l.filter (Gl S)).map (·.1)).Perm (Ab.upto S.length):=by
  refine (List.perm_ext_iff_of_nodup ((List.filter_sublist.map _).nodup h.Gm) (Iu _)).2 fun x=>?_;rw [Gc,List.mem_map];constructor
  ·rintro ⟨p,aD,rfl⟩;rw [List.mem_filter] at aD;exact ⟨(h.ok p aD.1).1,by simpa [Gl] using aD.2⟩
  ·rintro ⟨ad,af⟩;have hm:x∈l.map (·.1):=h.upto.mem_iff.2 (Gc.2 ⟨ad,by rw [LN];omega⟩);obtain ⟨p,aD,rfl⟩:=List.mem_map.1 hm;exact ⟨p,List.mem_filter.2 ⟨aD,decide_eq_true af⟩,rfl⟩
 have af:=ad.map (ix S);rw [Wc,List.map_map] at af;exact af
theorem U_ {α:Type} (q:α→Bool):∀ l:List α,l.length=(l.filter q).length+(l.filter fun x=>!q x).length
 | []=>rfl
 | x::l=>by
   rw [List.filter_cons,List.filter_cons,List.length_cons,U_ q l];cases q x <;> simp <;> omega
theorem Full.threads {l:Row} (h:Full (sf b S) l):(l.filter fun p=>!Gl S p).length=(rj b S).length / 2:=by
 have ad:=h.upto.length_eq;have af:=h.own.length_eq;rw [List.length_map] at ad af;rw [r3,LN] at ad;have aH:=U_ (Gl S) l;omega
def IY (S:List Int) (l:Row):Row:=let c:=posOf (fun p=>!Gl S p) l 0;if 0≤c then l.drop (c+1).toNat++l.take (c+1).toNat else l
theorem agU (l:Row):(IY S l=l∧∀ p∈l,Gl S p=true)∨∃ dA q kq,l=dA++q::kq∧Gl S q=false∧IY S l=(kq++dA)++[q]:=by
 unfold IY;rcases RM (fun p=>!Gl S p) l 0 with ⟨ad,af⟩ | ⟨dA,q,kq,rfl,af,aH⟩
 ·left;rw [ad];exact ⟨rfl,fun p aD=>by simpa using af p aD⟩
 ·right;refine ⟨dA,q,kq,rfl,by simpa using af,?_⟩;rw [aH];simp only [Nat.zero_add];rw [if_pos (by omega),show ((dA.length:Int)+1).toNat=dA.length+1 by omega];have e:dA++q::kq=(dA++[q])++kq:=by simp
  rw [e,List.drop_left' (by simp),List.take_left' (by simp),List.append_assoc]
structure TL (b:qb) (S:List Int) (R:List Row):Prop extends RowsOf b S R where
 ne:∀ r∈R,r≠[]
 len:R.length=max 1 ((rj b S).length / 2)
theorem Ww (p8:qJ b) (cg:rm b S) (aT:S≠[]) {l:Row} {a:Int} (bG:Full (sf b S) l) (aK:q1 (sf b S) a l=some a):TL b S (sc S [] (IY S l)):=by
 have Kp:0<S.length:=List.length_pos_iff.2 aT;have Rt:=bG.threads;have lv:=RG p8 cg;rcases agU (S:=S) l with ⟨ad,af⟩ | ⟨dA,q,kq,rfl,af,aH⟩
 ·rw [ad];have lj:RowsOf b S (sc S [] l):=⟨O' cg l [] (fun p aD=>absurd aD (by simp)) bG.ok,O_ l [] a a a rfl aK bG.ok,by rw [O9];simpa using bG.own⟩;have e:(l.filter fun p=>!Gl S p)=[]:=List.filter_eq_nil_iff.2 fun p aD=>by simp [af p aD]
  rw [e] at Rt;simp only [List.length_nil] at Rt;have aq:0<l.length:=by
   have:=bG.upto.length_eq;rw [List.length_map,r3,LN] at this;omega
  have ai:sc S [] l=[l.map fun p=>(ix S p.1,p.2)]:=by
   have:=Xt (S:=S) l [] [] fun p aD=>of_decide_eq_true (af p aD);rw [List.append_nil,List.nil_append] at this;rw [this,sc,if_pos (by simpa using aq)]
  refine ⟨lj,fun r aj=>?_,?_⟩
  ·rw [ai] at aj;rw [List.mem_singleton.1 aj];intro e;have:=congrArg List.length e;simp at this;rw [this] at aq;simp at aq
  ·rw [ai,←Rt];rfl
 ·rw [aH];have HR:(kq++dA++[q]).Perm (dA++q::kq):=by
   rw [show dA++q::kq=(dA++[q])++kq by simp,List.append_assoc];exact List.perm_append_comm
  have Oj:=bG.perm HR;have Rk:∃ aO,q1 (sf b S) aO (kq++dA++[q])=some aO:=by
   rw [show dA++q::kq=(dA++[q])++kq by simp,IZ] at aK;obtain ⟨c,cn,cp⟩:=qi aK;refine ⟨c,?_⟩;rw [List.append_assoc,IZ,cp];exact cn
  obtain ⟨aO,Rk⟩:=Rk;have lj:RowsOf b S (sc S [] (kq++dA++[q])):=⟨O' cg _ [] (fun p aD=>absurd aD (by simp)) Oj.ok,O_ _ [] aO aO aO rfl Rk Oj.ok,by rw [O9];simpa using Oj.own⟩;have adX:=Oj.threads;rw [List.filter_append,List.length_append] at adX;have akL:([q].filter fun p=>!Gl S p).length=1:=by simp [af]
  have hlen:=SW af (kq++dA) [];have VE:=lj.I_;have hle:=List.length_filter_le (fun r:Row=>!r.isEmpty) (sc S [] (kq++dA++[q]));refine ⟨lj,fun r aj=>?_,by omega⟩;have heq:((sc S [] (kq++dA++[q])).filter fun r=>!r.isEmpty).length=(sc S [] (kq++dA++[q])).length:=by omega
  have:=List.length_filter_eq_length_iff.1 heq r aj;intro e;rw [e] at this;simp at this
end
end Go.Proofs.YtfakoboiahbhaaaGreat.Ab


namespace Go.Proofs.YtfakoboiahbhaaaGreat.Ab
open Go
set_option maxRecDepth 20000
set_option maxHeartbeats 4000000
theorem Rel.RE {J:List Nat} {S:Nat→Nat→Prop} {w:World} {cells:List I} {v:Value} (h:Rel J S w (.bT cells) v):Rel J S w (.bT (cells.map I.gS)) v:=by
 cases h with
 | bT _ b o f k eG =>
   refine .bT _ b o f (fun j u az=>?_) (fun j u az=>?_)
   ·rw [List.getElem?_map] at az;simp only [Option.map_eq_some_iff] at az;obtain ⟨x,al,rfl⟩:=az;obtain ⟨aB,aF,aS,bp⟩:=k j x al;exact ⟨aB,aF,xN aS,bp⟩
   ·rw [List.getElem?_map] at az;simp only [Option.map_eq_some_iff] at az;obtain ⟨x,al,rfl⟩:=az;exact (eG j x al).gS
theorem kW.RE {P:Program} {k:FuncId} {cs:List I} {v:I} (h:kW P k [.bT (cs.map I.gS)] v):kW P k [.bT cs] v :=
 ⟨⟨h.1.1,h.1.2.1,fun B U J S w vs ah aP ae=>h.1.2.2 B U J S w vs ah aP ⟨by simpa using ae.len,fun i u x hu al=>by
   cases i with
   | zero =>
     obtain rfl:=Option.some.inj hu;exact (ae.rel 0 _ x rfl al).RE
   | succ i=>simp at hu,fun i u x hu al=>by
   cases i with
   | zero=>obtain rfl:=Option.some.inj hu;exact aV.b3 rfl
   | succ i=>simp at hu⟩⟩,h.2⟩
theorem call7 {P:Program} {k:FuncId} {H:List au} {lo id:Nat} {l cs:List I} {v:I} (bF:lo≤id) (ah:H[id]?=some (.cells l)) (ak:l.map I.view=cs) (aD:cl 8 (.bT cs)=true) {ds:List I} (a2:cs.map I.gS=ds) (h:kW P k [.bT ds] v):n2 P 7 lo (.fn k) [.ptr id 0] H v.cm (H.set id .dead):=by
 have h:kW P k [.bT cs] v:=kW.RE (by rw [a2];exact h);refine ⟨_,Dp (Xl (by simp [aD]) h []),?_⟩;simp only [eP,bF,if_true,ah,ak,aD];show ((kz (.fn k) [.bT cs] [] 0 v []) (.fn k) [.bT cs] [] 0).bind _=_;rw [Dn,Option.bind_some];show (bK [] 0 0 0 8 v).map _=_;rw [ox h.2];rfl
theorem acP:((List.range 24).all fun n=>match O2 [] 129 [.ax [] 0 .full,.int .i64 ((n+1:Nat):Int)] with | some v=>Ht 3 v (.ax [] 0 (.own 2)) | none=>false)=true:=by kernel_rfl
def Ti (s:List (Int×Int)) (n:Int):Option (List (Int×Int)):=qd (s=[]∧0<n∧n≤24) (some s)
theorem aiM {s v:List (Int×Int)} {n:Int} (h:Ti s n=some v):qC 129 [.ax [] 0 .full,hG n] (.ax (v.flatMap p6) v.length (.own 2)):=by
 obtain ⟨⟨rfl,aT,ad⟩,h⟩:=qD h;obtain rfl:=Option.some.inj h;obtain ⟨k,rfl⟩:∃ k:Nat,n=((k+1:Nat):Int):=⟨n.toNat-1,by omega⟩;have:=List.all_eq_true.1 acP k (List.mem_range.2 (by omega));split at this
 ·rename_i v ae;rw [Lm _ _ _ this] at ae;exact Gd (l:=[]) (by simp) ae
 ·cases this

noncomputable def ZF:eM :=
 FY [gO 2 [.hA 0] .box,gO 3 [.ij (.bool false)] .iH] (FY [Fu 4 2 0,FL 5 4,FL 6 1,FK 7 6,Fo 8 5 7 .geq,FO 3 8] .ret)
theorem aeu:yQ Tryz.prog TX 105=some (ZF,9,[.tmp 3]):=by kernel_rfl
def Nw (p:(Int×Int)) (c0:qa):Option Bool :=
 some (decide ((c0.length:Int)≤p.1))
theorem Te {p:(Int×Int)} {c0:qa} {v:Bool} (h:Nw p c0=some v):qC 105 [(.agg [(hG p.1),(hG p.2)]),(.bT [(.ax (c0.map hG) c0.length .shared)])] (B v):=by
 refine qN dD aeu rfl rfl fun Q bz=>?_;have lj:qE [.tmp 3] Q (fun v=>(B v)) v:=fun T H bJ=>bz _ T H bJ;unfold Nw at h;unfold ZF;conv=>whnf
 exact qj h lj rfl rfl

noncomputable def Px:eM :=
 .loop (some (DX false [0, 1, 2, 1, 5, 3, 24])) (FY [gO 12 [.sl 11, .sl 10] (.bin .lss)] (.seq (.cond (.sl 12) .skip (.exit 0)) (.seq (.block 1 (FY [gO 13 [.sl 9, .sl 11] (.pq 1), FL 14 13, FO 5 14] (FY [FO 15 3, FO 16 5, FK 17 16, Fo 18 15 17 .add, FO 3 18] (FY [FN 19 3, Fm 20 19 0 .lss] (.cond (.sl 20) (FR [gO 21 [.ij (.str (ByteArray.mk (Array.mk [108, 101, 110, 32, 111, 117, 116, 32, 111, 102, 32, 114, 97, 110, 103, 101])))] (.other (Oper.mk (some 21) (Op.makeInterface 9 (Operand.const (Value.string (ByteArray.mk (Array.mk [108, 101, 110, 32, 111, 117, 116, 32, 111, 102, 32, 114, 97, 110, 103, 101]))))) 20 "slices.go:496" (Array.mk []) none) 0), ⟨none, [.hD 21], none, none, .other (Oper.mk none (Op.panic (Operand.tmp 21)) 0 "slices.go:496" (Array.mk [Edge.mk 0 Ground.data]) none) 0⟩]) .skip))))) (FR [Fk 22 11 1, FO 11 22]))))
noncomputable def Py:eM :=
 .loop (some (DX false [6,1,18,3,8])) (FY [gO 28 [.sl 27,.sl 26] (.bin .lss)] (.seq (.cond (.sl 28) .skip (.exit 2)) (.seq (.block 3 (FY [gO 29 [.sl 25,.sl 27] (.pq 1),FL 30 29,FO 8 30] (FR [FO 31 6,FO 32 8,gO 33 [.hA 31,.hA 32] (.app 2 16),FO 6 33]))) (FR [Fk 34 27 1,FO 27 34]))))
noncomputable def ZG:eM :=
 FY [gO 2 [.ij (.ax [] 0 .full)] (.nil 2)] (FY [FM 3 0] (.seq (FY [FN 9 0,gO 10 [.sl 9] .pz,FM 11 0] (.block 0 Px)) (FY [FO 23 3,gO 24 [.ij (.func 129 [] []),.ij (.ax [] 0 .full),.sl 23] (.call 0),FO 6 24] (.seq (FY [FO 25 0,gO 26 [.sl 25] .pz,FM 27 0] (.block 2 Py)) (FY [FO 35 6,FO 2 35] .ret)))))
theorem aev:yQ Tryz.prog NY 106=some (ZG,36,[.tmp 2]):=by kernel_rfl
def JV (ri:qP) (qh:Int→Option qe):Nat→Int→Int→Option qe
 | 0,_,_=>none
 | m+1,s1,s2 =>
   if (decide (s2<(ri.length:Int)))=true then
    qd (0≤s2∧s2<(ri.length:Int)) <|
    if (decide ((w (s1+((ix ri s2).length:Int)))<(0:Int)))=true then
     none
    else
     JV ri qh m (w (s1+((ix ri s2).length:Int))) (w (s2+(1:Int)))
   else
    qh s1
def JW (ri:qP) (qK:qe→Option qe):Nat→qe→Int→Option qe
 | 0,_,_=>none
 | m+1,nL,qk =>
   if (decide (qk<(ri.length:Int)))=true then
    qd (0≤qk∧qk<(ri.length:Int)) <|
    qd ((nL.length+(ix ri qk).length)*16≤140737488355328) <|
    JW ri qK m (nL++(ix ri qk)) (w (qk+(1:Int)))
   else
    qK nL
def LV (ri:qP):Option qe :=
 JV ri (fun xt =>
   (Ti [] xt).bind fun aR =>
   JW ri (fun n0 =>
     some n0) p' aR (0:Int)) p' (0:Int) (0:Int)
theorem aiC {ri:qP} {qh:Int→Option qe} {s1:Int} {s2:Int} {v:qe} {Q:ra}   (rf:∀ (xt:Int) (p_:List I),qh xt=some v→qV 36 [(0,(.ax (ri.map (q_ p6)) ri.length .shared)),(3,(hG xt))] p_→Q (.exit 0) p_ []) {T:List I} (bW:eL (DX false [0,1,2,1,5,3,24]) T=F2 36 [(0,(.ax (ri.map (q_ p6)) ri.length .shared)),(3,(hG s1)),(9,(.ax (ri.map (q_ p6)) ri.length .shared)),(10,(hG (ri.length:Int))),(11,(hG s2))]) (h:JV ri qh p' s1 s2=some v) :
  dB Tryz.prog NY 106 0 none Px T [] Q:=by
 unfold Px;refine wp_loop bW ?_;refine .intro (fun m T H=>∃ (s1 s2:Int),T=F2 36 [(0,(.ax (ri.map (q_ p6)) ri.length .shared)),(3,(hG s1)),(9,(.ax (ri.map (q_ p6)) ri.length .shared)),(10,(hG (ri.length:Int))),(11,(hG s2))]∧H=[]∧JV ri qh m s1 s2=some v) p' ⟨s1,s2,rfl,rfl,h⟩ ?_;clear h bW;rintro m T H ⟨s1,s2,rfl,rfl,h⟩;cases m
 ·exact q3 h
 rename_i m;rw [JV.eq_2] at h;conv=>whnf
 refine bs h (fun eQ h=>?_) fun eQ h=>?_
 ·rw [eQ];conv=>whnf
  refine qy h id fun fi h=>?_;rw [rA (q_ p6) ri s2 fi];conv=>whnf
  refine bs h (fun qu h=>?_) fun qu h=>?_
  ·rw [qu];(conv=>whnf);exact q3 h
  ·rw [qu];(conv=>whnf);exact ⟨m,Nat.lt_succ_self m,(w (s1+((ix ri s2).length:Int))),(w (s2+(1:Int))),rfl,rfl,h⟩
 ·rw [eQ];conv=>whnf
  exact rf _ _ h ⟨rfl,rfl⟩
theorem aiD {ri:qP} {qK:qe→Option qe} {nL:qe} {qk:Int} {v:qe} {Q:ra}   (GL:∀ (n0:qe) (p_:List I),qK n0=some v→qV 36 [(6,(qf n0 (.own 2)))] p_→Q (.exit 2) p_ []) {T:List I} (bW:eL (DX false [6,1,18,3,8]) T=F2 36 [(6,(qf nL (.own 2))),(25,(.ax (ri.map (q_ p6)) ri.length .shared)),(26,(hG (ri.length:Int))),(27,(hG qk))]) (h:JW ri qK p' nL qk=some v) :
  dB Tryz.prog NY 106 0 none Py T [] Q:=by
 unfold Py;refine wp_loop bW ?_;refine .intro (fun m T H=>∃ (nL:qe) (qk:Int),T=F2 36 [(6,(qf nL (.own 2))),(25,(.ax (ri.map (q_ p6)) ri.length .shared)),(26,(hG (ri.length:Int))),(27,(hG qk))]∧H=[]∧JW ri qK m nL qk=some v) p' ⟨nL,qk,rfl,rfl,h⟩ ?_;clear h bW;rintro m T H ⟨nL,qk,rfl,rfl,h⟩;cases m
 ·exact q3 h
 rename_i m;rw [JW.eq_2] at h;conv=>whnf
 refine bs h (fun qG h=>?_) fun qG h=>?_
 ·rw [qG];conv=>whnf
  refine qy h id fun q7 h=>?_;rw [rA (q_ p6) ri qk q7];conv=>whnf
  obtain ⟨qM,h⟩:=qD h;refine ⟨by first | rfl | (simp;done) | exact r9 p6 _ qz _,by have:=qM;omega,rfl,qM,?_⟩
  erw [UG p6 nL (ix ri qk)];conv=>whnf
  exact ⟨m,Nat.lt_succ_self m,(nL++(ix ri qk)),(w (qk+(1:Int))),rfl,rfl,h⟩
 ·rw [qG];conv=>whnf
  exact GL _ _ h ⟨rfl,rfl⟩
theorem Tf {ri:qP} {v:qe} (h:LV ri=some v):qC 106 [(.ax (ri.map (q_ p6)) ri.length .shared)] (.ax (v.flatMap p6) v.length .shared):=by
 refine qN dD aev rfl (q4 (fun _=>(p5 rfl (p5 rfl rfl))) _ _ _) fun Q bz=>?_;have lj:qE [.tmp 2] Q (fun v=>(qf v .shared)) v:=fun T H bJ=>bz _ T H bJ;unfold LV at h;unfold ZG;obtain ⟨Gi,qF⟩:∃ c,Px=c:=⟨_,rfl⟩;rw [qF];obtain ⟨IG,rR⟩:∃ c,Py=c:=⟨_,rfl⟩;rw [rR];conv=>whnf
 subst qF;refine aiC ?_ (by exact rfl) h;intro xt p_ h qt;obtain ⟨qT,rfl⟩:=qt.ex;conv=>whnf
 obtain ⟨aR,qA,h⟩:=qi h;refine ⟨_,_,ab0 (p5 rfl (p5 rfl rfl)) (aiM qA) _ _,?_⟩;conv=>whnf
 subst rR;refine aiD ?_ (by exact rfl) h;intro n0 p_ h qt;obtain ⟨qT,rfl⟩:=qt.ex;conv=>whnf
 exact qj h lj rfl rfl

noncomputable def PZ:eM :=
 .loop (some (DX false [0,1,2,1,1,2,12,3,10,3,98])) (FY [gO 35 [.sl 34,.sl 33] (.bin .lss)] (.seq (.cond (.sl 35) .skip (.exit 2)) (.seq (.block 3 (FY [gO 36 [.sl 32,.sl 34] (.pq 1),FL 37 36,FO 8 37] (FT [gO 38 [.sl 6] (.ov 0),Fu 39 38 1,gO 40 [.hD 39] .take,FN 41 0,gO 42 [.hD 41] .za,Fu 43 42 0,Fu 44 43 1,FL 45 44,FO 46 8,FH 47 45 46 2,gO 48 [.hD 47] (.px (.str 2)),gO 49 [.hD 48] (.xG 1 2 [.int .i64 0,.int .i64 0] [0]),gO 50 [.hA 40,.hA 49] (.app 2 16),gO 51 [.sl 6] (.ov 0),Fu 52 51 1,⟨none,[.hA 52,.hA 50],none,none,.st 1⟩]))) (FR [Fk 53 34 1,FO 34 53]))))
noncomputable def Mc:eM :=
 .loop (some (DX false [0,1,2,1,1,2,2,2,8,3,111])) (.seq (FY [FN 57 10,Fk 58 57 1,FN 59 9,FK 60 59,Fo 61 58 60 .lss] (.cond (.sl 61) .skip (.exit 4))) (.seq (.block 5 (FT [gO 64 [.sl 6] (.ov 0),Fu 65 64 1,gO 66 [.hD 65] .take,FN 67 9,FN 68 10,FH 69 67 68 1,FL 70 69,FN 71 9,FN 72 10,Fk 73 72 1,FH 74 71 73 1,FL 75 74,gO 76 [.hD 70,.hD 75] (.build [.int .i64 0,.int .i64 0] [(0,1),(1,1)]),gO 77 [.hD 76] (.xG 1 2 [.int .i64 0,.int .i64 0] [0]),gO 78 [.hA 66,.hA 77] (.app 2 16),gO 79 [.sl 6] (.ov 0),Fu 80 79 1,⟨none,[.hA 80,.hA 78],none,none,.st 1⟩])) (FR [FO 62 10,Fk 63 62 2,FO 10 63])))
noncomputable def P0:eM :=
 .loop (some (DX false [0,1,2,1,1,1,7,1,5,3,75,3,33])) (FY [gO 100 [.sl 99,.sl 98] (.bin .lss)] (.seq (.cond (.sl 100) .skip (.exit 6)) (.seq (.block 7 (FY [gO 101 [.sl 97,.sl 99] (.pq 2),gO 102 [.hD 101] (.px (.str 2)),gO 15 [] (.alloc [.int .i64 0,.int .i64 0]),⟨none,[.sl 15,.hA 102],none,none,.st 2⟩] (.seq (FY [gO 103 [.sl 15] (.ov 0),FL 104 103,gO 105 [.sl 5] (.px .one),FK 106 105,Fo 107 104 106 .lss] (.cond (.sl 107) (.seq (FT [FO 108 13,gO 109 [.sl 5] (.px .one),gO 110 [.sl 15] (.ov 0),FL 111 110,FH 112 109 111 1,FL 113 112,gO 114 [.sl 15] (.ov 1),FL 115 114,gO 116 [.hD 113,.hD 115] (.build [.int .i64 0,.int .i64 0] [(0,1),(1,1)]),gO 117 [.hD 116] (.xG 1 2 [.int .i64 0,.int .i64 0] [0]),gO 118 [.hA 108,.hA 117] (.app 2 16),FO 13 118]) (.exit 7)) .skip)) (FR [FO 119 3,FO 120 13,gO 121 [.hD 120] (.xG 1 1 [.ax [] 0 .full] [0]),gO 122 [.hA 119,.hA 121] (.app 1 24),FO 3 122,gO 13 [.ij (.ax [] 0 .full)] (.nil 2)])))) (FR [Fk 123 99 1,FO 99 123]))))
noncomputable def P1:eM :=
 FY [gO 13 [.ij (.ax [] 0 .full)] (.nil 2)] (.seq (FY [FO 97 11,gO 98 [.sl 97] .pz,FM 99 0] (.block 6 P0)) (FY [FN 124 13,FK 125 124,Fm 126 125 0 .gtr] (.cond (.sl 126) (FR [FO 127 3,FO 128 13,gO 129 [.hD 128] (.xG 1 1 [.ax [] 0 .full] [0]),gO 130 [.hA 127,.hA 129] (.app 1 24),FO 3 130]) .skip)))
noncomputable def P2:eM :=
 .loop (some (DX false [0,1,2,1,15,3,111])) (FY [gO 22 [.sl 21,.sl 20] (.bin .lss)] (.seq (.cond (.sl 22) .skip (.exit 0)) (.seq (.block 1 (FY [gO 23 [.sl 19,.sl 21] (.pq 1),FL 24 23,gO 5 [] (.alloc [.ax [] 0 .full]),⟨none,[.sl 5,.hA 24],none,none,.st 1⟩] (FY [FN 25 0,gO 26 [.hD 25] .za,Fu 27 26 0,Fu 28 27 0,FL 29 28,gO 30 [.hD 29] (.build [.int .i64 0,.ax [] 0 .full] [(0,1)]),gO 31 [.hD 30] (.build [.int .i64 0,.ax [] 0 .full] [(0,2)]),gO 6 [] (.alloc [.int .i64 0,.ax [] 0 .full]),⟨none,[.sl 6,.hA 31],none,none,.st 2⟩] (.seq (FY [gO 32 [.sl 5] (.px .one),gO 33 [.sl 32] .pz,FM 34 0] (.block 2 PZ)) (FY [FN 54 0,gO 55 [.sl 5] (.px .one),gO 56 [.ij (.func 76 [] []),.sl 54,.sl 55] (.call 3),FO 9 56] (.seq (FY [FM 10 0] (.block 4 Mc)) (FY [gO 81 [.ij (.func 104 [] []),.sl 6] (.call 7),FO 11 81] (.seq (FY [FN 82 11,gO 83 [.sl 5] (.y6 105 0 1),gO 84 [.ij (.func 94 [] []),.sl 82,.sl 83] (.call 6),FO 12 84] (FY [FN 85 12,Fm 86 85 0 .geq] (.cond (.sl 86) (FT [FN 87 11,FN 88 12,Fk 89 88 1,gO 90 [.hA 87,.hA 89] (.Ap 2 true false false),FN 91 11,FN 92 12,Fk 93 92 1,gO 94 [.hA 91,.hA 93] (.Ap 2 false true false),gO 95 [.hD 90,.hD 94] (.xG 2 1 [.ax [] 0 .full] [0,1]),gO 96 [.ij (.func 106 [] []),.sl 95] (.call 3),FO 11 96]) .skip))) P1)))))))) (FR [Fk 131 21 1,FO 21 131]))))
noncomputable def aaq:eM :=
 FY [gO 2 [.ij (.ax [] 0 .full)] (.nil 1)] (FY [gO 3 [.ij (.ax [] 0 .full)] (.nil 1)] (.seq (FY [FN 16 0,FN 17 0,gO 18 [.ij (.func 77 [] []),.sl 17] (.call 3),gO 19 [.ij (.func 79 [] []),.sl 16,.sl 18] (.call 3),gO 20 [.sl 19] .pz,FM 21 0] (.block 0 P2)) (FY [FO 132 3,FO 2 132] .ret)))
theorem afe:yQ Tryz.prog Jy 83=some (aaq,133,[.tmp 2]):=by kernel_rfl
def K7 (t:qn) (r2:rX) (s2:Int) (qK:qe→Option qP):Nat→Int→qe→Option qP
 | 0,_,_=>none
 | m+1,nL,qk =>
   if (decide (nL<((ix r2 s2).length:Int)))=true then
    qd (0≤nL∧nL<((ix r2 s2).length:Int)) <|
    qd (0≤(ix (ix r2 s2) nL)∧(ix (ix r2 s2) nL)<(t.2.length:Int)) <|
    qd ((qk.length+1)*16≤140737488355328) <|
    K7 t r2 s2 qK m (w (nL+(1:Int))) (qk++[(ix t.2 (ix (ix r2 s2) nL))])
   else
    qK qk
def Iy (ew:qa) (q5:qe→Option qP):Nat→Int→qe→Option qP
 | 0,_,_=>none
 | m+1,qc,qw =>
   if (decide ((w (qc+(1:Int)))<(ew.length:Int)))=true then
    qd (0≤qc∧qc<(ew.length:Int)) <|
    qd (0≤(w (qc+(1:Int)))∧(w (qc+(1:Int)))<(ew.length:Int)) <|
    qd ((qw.length+1)*16≤140737488355328) <|
    Iy ew q5 m (w (qc+(2:Int))) (qw++[((ix ew qc),(ix ew (w (qc+(1:Int)))))])
   else
    q5 qw
def J8 (r2:rX) (s2:Int) (dj:qe) (Ku:qP→qe→Option qP):Nat→qP→qe→Int→Option qP
 | 0,_,_,_=>none
 | m+1,ql,qx,qg =>
   if (decide (qg<(dj.length:Int)))=true then
    qd (0≤qg∧qg<(dj.length:Int)) <|
    if (decide ((ix dj qg).1<((ix r2 s2).length:Int)))=true then
     qd (0≤(ix dj qg).1∧(ix dj qg).1<((ix r2 s2).length:Int)) <|
     qd ((qx.length+1)*16≤140737488355328) <|
     J8 r2 s2 dj Ku m ql (qx++[((ix (ix r2 s2) ((ix dj qg).1)),(ix dj qg).2)]) (w (qg+(1:Int)))
    else
     qd ((ql.length+1)*24≤140737488355328) <|
     J8 r2 s2 dj Ku m (ql++[qx]) [] (w (qg+(1:Int)))
   else
    Ku ql qx
def J7 (r2:rX) (s1:qP) (s2:Int) (MW:qP→Option qP) (dj:qe):Option qP :=
 J8 r2 s2 dj (fun xt n0 =>
   if (decide ((0:Int)<(n0.length:Int)))=true then
    qd ((xt.length+1)*24≤140737488355328) <|
    MW (xt++[n0])
   else
    MW xt) p' s1 ([]:List (Int×Int)) (0:Int)
def HJ (t:qn) (r2:rX) (qh:qP→Option qP):Nat→qP→Int→Option qP
 | 0,_,_=>none
 | m+1,s1,s2 =>
   if (decide (s2<(r2.length:Int)))=true then
    qd (0≤s2∧s2<(r2.length:Int)) <|
    K7 t r2 s2 (fun xt =>
      (K3 t (ix r2 s2)).bind fun ew =>
      Iy ew (fun xt =>
        (KE (t.1,xt)).bind fun qH =>
        (J_ qH (fun qR=>Nw qR (ix r2 s2))).bind fun q6 =>
        if (decide ((0:Int)≤q6))=true then
         qd (0≤(w (q6+(1:Int)))∧(w (q6+(1:Int)))≤(qH.length:Int)) <|
         qd (0≤(w (q6+(1:Int)))∧(w (q6+(1:Int)))≤(qH.length:Int)) <|
         (LV [(qH.drop (w (q6+(1:Int))).toNat),(qH.take (w (q6+(1:Int))).toNat)]).bind fun Gp =>
         J7 r2 s1 s2 (fun Fh =>
           HJ t r2 qh m Fh (w (s2+(1:Int)))) Gp
        else
         J7 r2 s1 s2 (fun Fh =>
           HJ t r2 qh m Fh (w (s2+(1:Int)))) qH) p' (0:Int) xt) p' (0:Int) ([]:List (Int×Int))
   else
    qh s1
def I4 (t:qn):Option qP :=
 (Pn t).bind fun aR =>
 (J5 t aR).bind fun r2 =>
 HJ t r2 (fun J' =>
   some J') p' ([]:List qe) (0:Int)
theorem ajZ {t:qn} {r2:rX} {s2:Int} {qK:qe→Option qP} {nL:Int} {qk:qe} {s1:qP} {v:qP} {Q:ra}  {rk:List au} {GZ:h9} (GL:∀ (xt:qe) (p_:List I),qK xt=some v→qV 133 [(0,(.bT [(hG t.1),(qf t.2 .shared)])),(3,(.ax (s1.map (q_ p6)) s1.length (.uniq 1))),(5,(.ptr (rk).length 0)),(6,(.ptr ((rk)++[au.cells [(qq (ix r2 s2) .shared)]]).length 0)),(19,(.ax (r2.map i') r2.length .shared)),(20,(hG (r2.length:Int))),(21,(hG s2))] p_→Q (.exit 2) p_ (((rk)++[au.cells [(qq (ix r2 s2) .shared)]])++[au.cells [(hG t.1),(qf xt .full)]])) (adC:∀ (xt:qe) (p_:List I),qK xt=some v→qV 133 [(0,(.bT [(hG t.1),(qf t.2 .shared)])),(3,(.ax (s1.map (q_ p6)) s1.length (.uniq 1))),(5,(.ptr (rk).length 0)),(6,(.ptr ((rk)++[au.cells [(qq (ix r2 s2) .shared)]]).length 0)),(19,(.ax (r2.map i') r2.length .shared)),(20,(hG (r2.length:Int))),(21,(hG s2))] p_→Q (.exit 2) p_ (((rk)++[au.cells [(qq (ix r2 s2) .shared)]])++[au.cells [(hG t.1),(qf xt (.own 2))]])) (Ki:(GZ=h9.full∨GZ=(.own 2))) {T:List I} (bW:eL (DX false [0,1,2,1,1,2,12,3,10,3,98]) T=F2 133 [(0,(.bT [(hG t.1),(qf t.2 .shared)])),(3,(.ax (s1.map (q_ p6)) s1.length (.uniq 1))),(5,(.ptr (rk).length 0)),(6,(.ptr ((rk)++[au.cells [(qq (ix r2 s2) .shared)]]).length 0)),(19,(.ax (r2.map i') r2.length .shared)),(20,(hG (r2.length:Int))),(21,(hG s2)),(32,(qq (ix r2 s2) .shared)),(33,(hG ((ix r2 s2).length:Int))),(34,(hG nL))]) (h:K7 t r2 s2 qK p' nL qk=some v) :
  dB Tryz.prog Jy 83 0 none PZ T (((rk)++[au.cells [(qq (ix r2 s2) .shared)]])++[au.cells [(hG t.1),(.ax (qk.flatMap p6) qk.length GZ)]]) Q:=by
 unfold PZ;refine wp_loop bW ?_;refine .intro (fun m T H=>∃ (nL:Int) (qk:qe) (GZ:h9),(GZ=h9.full∨GZ=(.own 2))∧T=F2 133 [(0,(.bT [(hG t.1),(qf t.2 .shared)])),(3,(.ax (s1.map (q_ p6)) s1.length (.uniq 1))),(5,(.ptr (rk).length 0)),(6,(.ptr ((rk)++[au.cells [(qq (ix r2 s2) .shared)]]).length 0)),(19,(.ax (r2.map i') r2.length .shared)),(20,(hG (r2.length:Int))),(21,(hG s2)),(32,(qq (ix r2 s2) .shared)),(33,(hG ((ix r2 s2).length:Int))),(34,(hG nL))]∧H=(((rk)++[au.cells [(qq (ix r2 s2) .shared)]])++[au.cells [(hG t.1),(.ax (qk.flatMap p6) qk.length GZ)]])∧K7 t r2 s2 qK m nL qk=some v) p' ⟨nL,qk,_,Ki,rfl,rfl,h⟩ ?_;clear h bW;rintro m T H ⟨nL,qk,GZ,Ki,rfl,rfl,h⟩;cases m
 ·exact q3 h
 rename_i m;rw [K7.eq_2] at h;rcases Ki with rfl | rfl
 ·conv=>whnf
  refine bs h (fun qG h=>?_) fun qG h=>?_
  ·rw [qG];(conv=>whnf);refine qy h id fun q7 h=>?_;rw [rA hG (ix r2 s2) nL q7];(conv=>whnf);refine Dj (x:=au.cells [(hG t.1),(qf qk .full)]) (by first | exact qs.h | rfl | (simp [List.getElem?_append,I.settle];done)) ?_
   (conv=>whnf);refine qy h id fun qM h=>?_;rw [qQ p6 2 qz t.2 (ix (ix r2 s2) nL) qM];(conv=>whnf);obtain ⟨qI,h⟩:=qD h;refine ⟨by first | rfl | (simp;done) | exact r9 p6 _ qz _,by have:=qI;omega,by decide,qI,by first | rfl | (simp;done) | exact r9 p6 _ qz _,?_⟩
   erw [F_ p6 qk (ix t.2 (ix (ix r2 s2) nL))];(conv=>whnf);refine Dj (x:=au.cells [(hG t.1),(qf qk .full)]) (by first | exact qs.h | rfl | (simp [List.getElem?_append,I.settle];done)) ?_
   (conv=>whnf);rw [rK];exact ⟨m,Nat.lt_succ_self m,(w (nL+(1:Int))),(qk++[(ix t.2 (ix (ix r2 s2) nL))]),_,(.inr rfl),rfl,rfl,h⟩
  ·rw [qG];(conv=>whnf);exact GL _ _ h ⟨rfl,rfl⟩
 ·conv=>whnf
  refine bs h (fun qG h=>?_) fun qG h=>?_
  ·rw [qG];(conv=>whnf);refine qy h id fun q7 h=>?_;rw [rA hG (ix r2 s2) nL q7];(conv=>whnf);refine Dj (x:=au.cells [(hG t.1),(qf qk (.own 2))]) (by first | exact qs.h | rfl | (simp [List.getElem?_append,I.settle];done)) ?_
   (conv=>whnf);rw [rK];refine qy h id fun qM h=>?_;rw [qQ p6 2 qz t.2 (ix (ix r2 s2) nL) qM];(conv=>whnf);obtain ⟨qI,h⟩:=qD h;refine ⟨by first | rfl | (simp;done) | exact r9 p6 _ qz _,by have:=qI;omega,rfl,qI,?_⟩
   erw [F_ p6 qk (ix t.2 (ix (ix r2 s2) nL))];(conv=>whnf);refine Dj (x:=au.cells [(hG t.1),(qf qk .shared)]) (by first | exact qs.h | rfl | (simp [List.getElem?_append,I.settle];done)) ?_
   (conv=>whnf);rw [rK];exact ⟨m,Nat.lt_succ_self m,(w (nL+(1:Int))),(qk++[(ix t.2 (ix (ix r2 s2) nL))]),_,(.inr rfl),rfl,rfl,h⟩
  ·rw [qG];(conv=>whnf);exact adC _ _ h ⟨rfl,rfl⟩
theorem aj0 {ew:qa} {q5:qe→Option qP} {qc:Int} {qw:qe} {t:qn} {r2:rX} {s1:qP} {s2:Int} {v:qP} {Q:ra}  {rk:List au} {GZ:h9} (Hn:∀ (xt:qe) (p_:List I),q5 xt=some v→qV 133 [(0,(.bT [(hG t.1),(qf t.2 .shared)])),(3,(.ax (s1.map (q_ p6)) s1.length (.uniq 1))),(5,(.ptr (rk).length 0)),(6,(.ptr ((rk)++[au.cells [(qq (ix r2 s2) .shared)]]).length 0)),(19,(.ax (r2.map i') r2.length .shared)),(20,(hG (r2.length:Int))),(21,(hG s2))] p_→Q (.exit 4) p_ (((rk)++[au.cells [(qq (ix r2 s2) .shared)]])++[au.cells [(hG t.1),(qf xt .full)]])) (MP:∀ (xt:qe) (p_:List I),q5 xt=some v→qV 133 [(0,(.bT [(hG t.1),(qf t.2 .shared)])),(3,(.ax (s1.map (q_ p6)) s1.length (.uniq 1))),(5,(.ptr (rk).length 0)),(6,(.ptr ((rk)++[au.cells [(qq (ix r2 s2) .shared)]]).length 0)),(19,(.ax (r2.map i') r2.length .shared)),(20,(hG (r2.length:Int))),(21,(hG s2))] p_→Q (.exit 4) p_ (((rk)++[au.cells [(qq (ix r2 s2) .shared)]])++[au.cells [(hG t.1),(qf xt (.own 2))]])) (Ki:(GZ=h9.full∨GZ=(.own 2))) {T:List I} (bW:eL (DX false [0,1,2,1,1,2,2,2,8,3,111]) T=F2 133 [(0,(.bT [(hG t.1),(qf t.2 .shared)])),(3,(.ax (s1.map (q_ p6)) s1.length (.uniq 1))),(5,(.ptr (rk).length 0)),(6,(.ptr ((rk)++[au.cells [(qq (ix r2 s2) .shared)]]).length 0)),(9,(qq ew .shared)),(10,(hG qc)),(19,(.ax (r2.map i') r2.length .shared)),(20,(hG (r2.length:Int))),(21,(hG s2))]) (h:Iy ew q5 p' qc qw=some v) :
  dB Tryz.prog Jy 83 0 none Mc T (((rk)++[au.cells [(qq (ix r2 s2) .shared)]])++[au.cells [(hG t.1),(.ax (qw.flatMap p6) qw.length GZ)]]) Q:=by
 unfold Mc;refine wp_loop bW ?_;refine .intro (fun m T H=>∃ (qc:Int) (qw:qe) (GZ:h9),(GZ=h9.full∨GZ=(.own 2))∧T=F2 133 [(0,(.bT [(hG t.1),(qf t.2 .shared)])),(3,(.ax (s1.map (q_ p6)) s1.length (.uniq 1))),(5,(.ptr (rk).length 0)),(6,(.ptr ((rk)++[au.cells [(qq (ix r2 s2) .shared)]]).length 0)),(9,(qq ew .shared)),(10,(hG qc)),(19,(.ax (r2.map i') r2.length .shared)),(20,(hG (r2.length:Int))),(21,(hG s2))]∧H=(((rk)++[au.cells [(qq (ix r2 s2) .shared)]])++[au.cells [(hG t.1),(.ax (qw.flatMap p6) qw.length GZ)]])∧Iy ew q5 m qc qw=some v) p' ⟨qc,qw,_,Ki,rfl,rfl,h⟩ ?_;clear h bW;rintro m T H ⟨qc,qw,GZ,Ki,rfl,rfl,h⟩;cases m
 ·exact q3 h
 rename_i m;rw [Iy.eq_2] at h;rcases Ki with rfl | rfl
 ·conv=>whnf
  refine bs h (fun qS h=>?_) fun qS h=>?_
  ·rw [qS];(conv=>whnf);refine Dj (x:=au.cells [(hG t.1),(qf qw .full)]) (by first | exact qs.h | rfl | (simp [List.getElem?_append,I.settle];done)) ?_
   (conv=>whnf);refine qy h id fun q8 h=>?_;rw [rA hG ew qc q8];(conv=>whnf);refine qy h id fun rr h=>?_;rw [rA hG ew (w (qc+(1:Int))) rr];(conv=>whnf);obtain ⟨ry,h⟩:=qD h;refine ⟨by first | rfl | (simp;done) | exact r9 p6 _ qz _,by have:=ry;omega,by decide,ry,by first | rfl | (simp;done) | exact r9 p6 _ qz _,?_⟩
   erw [F_ p6 qw ((ix ew qc),(ix ew (w (qc+(1:Int)))))];(conv=>whnf);refine Dj (x:=au.cells [(hG t.1),(qf qw .full)]) (by first | exact qs.h | rfl | (simp [List.getElem?_append,I.settle];done)) ?_
   (conv=>whnf);rw [rK];exact ⟨m,Nat.lt_succ_self m,(w (qc+(2:Int))),(qw++[((ix ew qc),(ix ew (w (qc+(1:Int)))))]),_,(.inr rfl),rfl,rfl,h⟩
  ·rw [qS];(conv=>whnf);exact Hn _ _ h ⟨rfl,rfl⟩
 ·conv=>whnf
  refine bs h (fun qS h=>?_) fun qS h=>?_
  ·rw [qS];(conv=>whnf);refine Dj (x:=au.cells [(hG t.1),(qf qw (.own 2))]) (by first | exact qs.h | rfl | (simp [List.getElem?_append,I.settle];done)) ?_
   (conv=>whnf);rw [rK];refine qy h id fun q8 h=>?_;rw [rA hG ew qc q8];(conv=>whnf);refine qy h id fun rr h=>?_;rw [rA hG ew (w (qc+(1:Int))) rr];(conv=>whnf);obtain ⟨ry,h⟩:=qD h;refine ⟨by first | rfl | (simp;done) | exact r9 p6 _ qz _,by have:=ry;omega,rfl,ry,?_⟩
   erw [F_ p6 qw ((ix ew qc),(ix ew (w (qc+(1:Int)))))];(conv=>whnf);refine Dj (x:=au.cells [(hG t.1),(qf qw .shared)]) (by first | exact qs.h | rfl | (simp [List.getElem?_append,I.settle];done)) ?_
   (conv=>whnf);rw [rK];exact ⟨m,Nat.lt_succ_self m,(w (qc+(2:Int))),(qw++[((ix ew qc),(ix ew (w (qc+(1:Int)))))]),_,(.inr rfl),rfl,rfl,h⟩
  ·rw [qS];(conv=>whnf);exact MP _ _ h ⟨rfl,rfl⟩
theorem aj2 {r2:rX} {s2:Int} {dj:qe} {Ku:qP→qe→Option qP} {ql:qP} {qx:qe} {qg:Int} {t:qn} {v:qP} {Q:ra} {bO:au} {rk:List au} {Mm:List au} (adD:∀ (xt:qP) (n0:qe) (qO:List au) (p_:List I),Ku xt n0=some v→qV 133 [(0,(.bT [(hG t.1),(qf t.2 .shared)])),(3,(.ax (xt.map (q_ p6)) xt.length (.uniq 1))),(13,(qf n0 (.uniq 2))),(19,(.ax (r2.map i') r2.length .shared)),(20,(hG (r2.length:Int))),(21,(hG s2))] p_→Q (.exit 6) p_ (qO)) {T:List I} (bW:eL (DX false [0,1,2,1,1,1,7,1,5,3,75,3,33]) T=F2 133 [(0,(.bT [(hG t.1),(qf t.2 .shared)])),(3,(.ax (ql.map (q_ p6)) ql.length (.uniq 1))),(5,(.ptr (rk).length 0)),(13,(qf qx (.uniq 2))),(19,(.ax (r2.map i') r2.length .shared)),(20,(hG (r2.length:Int))),(21,(hG s2)),(97,(qf dj .shared)),(98,(hG (dj.length:Int))),(99,(hG qg))]) (h:J8 r2 s2 dj Ku p' ql qx qg=some v) :
  dB Tryz.prog Jy 83 0 none P0 T ((((rk)++[au.cells [(qq (ix r2 s2) .shared)]])++[bO])++Mm) Q:=by
 unfold P0;refine wp_loop bW ?_;refine .intro (fun m T H=>∃ (ql:qP) (qx:qe) (qg:Int) (Mm:List au),T=F2 133 [(0,(.bT [(hG t.1),(qf t.2 .shared)])),(3,(.ax (ql.map (q_ p6)) ql.length (.uniq 1))),(5,(.ptr (rk).length 0)),(13,(qf qx (.uniq 2))),(19,(.ax (r2.map i') r2.length .shared)),(20,(hG (r2.length:Int))),(21,(hG s2)),(97,(qf dj .shared)),(98,(hG (dj.length:Int))),(99,(hG qg))]∧H=((((rk)++[au.cells [(qq (ix r2 s2) .shared)]])++[bO])++Mm)∧J8 r2 s2 dj Ku m ql qx qg=some v) p' ⟨ql,qx,qg,Mm,rfl,rfl,h⟩ ?_;clear h bW;rintro m T H ⟨ql,qx,qg,Mm,rfl,rfl,h⟩;cases m
 ·exact q3 h
 rename_i m;rw [J8.eq_2] at h;conv=>whnf
 refine bs h (fun si h=>?_) fun si h=>?_
 ·rw [si];conv=>whnf
  refine qy h id fun sj h=>?_;rw [qQ p6 2 qz dj qg sj];conv=>whnf
  refine Dj (x:=au.cells [(hG (0:Int)),(hG (0:Int))]) (by first | exact qs.h | rfl | (simp [List.getElem?_append,I.settle];done)) ?_
  conv=>whnf
  rw [rK];refine Dj (x:=au.cells [(hG (ix dj qg).1),(hG (ix dj qg).2)]) (by first | exact qs.h | rfl | (simp [List.getElem?_append,I.settle];done)) ?_
  conv=>whnf
  refine Dj (x:=au.cells [(qq (ix r2 s2) .shared)]) (by first | exact qs.h | rfl | (simp [List.getElem?_append,I.settle];done)) ?_
  conv=>whnf
  refine bs h (fun GH h=>?_) fun GH h=>?_
  ·rw [GH];(conv=>whnf);refine Dj (x:=au.cells [(qq (ix r2 s2) .shared)]) (by first | exact qs.h | rfl | (simp [List.getElem?_append,I.settle];done)) ?_
   (conv=>whnf);refine Dj (x:=au.cells [(hG (ix dj qg).1),(hG (ix dj qg).2)]) (by first | exact qs.h | rfl | (simp [List.getElem?_append,I.settle];done)) ?_
   (conv=>whnf);refine qy h id fun GI h=>?_;rw [rA hG (ix r2 s2) ((ix dj qg).1) GI];(conv=>whnf);refine Dj (x:=au.cells [(hG (ix dj qg).1),(hG (ix dj qg).2)]) (by first | exact qs.h | rfl | (simp [List.getElem?_append,I.settle];done)) ?_
   (conv=>whnf);obtain ⟨GQ,h⟩:=qD h;refine ⟨by first | rfl | (simp;done) | exact r9 p6 _ qz _,by have:=GQ;omega,rfl,GQ,?_⟩
   erw [F_ p6 qx ((ix (ix r2 s2) ((ix dj qg).1)),(ix dj qg).2)];(conv=>whnf);exact ⟨m,Nat.lt_succ_self m,ql,(qx++[((ix (ix r2 s2) ((ix dj qg).1)),(ix dj qg).2)]),(w (qg+(1:Int))),_,rfl,(UH _ _ _),h⟩
  ·rw [GH];(conv=>whnf);obtain ⟨H5,h⟩:=qD h;refine ⟨by first | rfl | simp,by have:=H5;omega,rfl,H5,?_⟩
   erw [Ii (q_ p6) ql qx];(conv=>whnf);exact ⟨m,Nat.lt_succ_self m,(ql++[qx]),[],(w (qg+(1:Int))),_,rfl,(UH _ _ _),h⟩
 ·rw [si];conv=>whnf
  exact adD _ _ _ _ h ⟨rfl,rfl⟩
theorem L' {r2:rX} {s1:qP} {s2:Int} {MW:qP→Option qP} {dj:qe} {t:qn} {v:qP} {Q:ra} {bO:au} {p_:List I} {rk:List au} (VM:∀ (Fh:qP) (qO:List au) (p_:List I),MW Fh=some v→qV 133 [(0,(.bT [(hG t.1),(qf t.2 .shared)])),(3,(.ax (Fh.map (q_ p6)) Fh.length (.uniq 1))),(19,(.ax (r2.map i') r2.length .shared)),(20,(hG (r2.length:Int))),(21,(hG s2))] p_→Q .normal p_ (qO)) (qt:qV 133 [(0,(.bT [(hG t.1),(qf t.2 .shared)])),(3,(.ax (s1.map (q_ p6)) s1.length (.uniq 1))),(5,(.ptr (rk).length 0)),(11,(qf dj .shared)),(19,(.ax (r2.map i') r2.length .shared)),(20,(hG (r2.length:Int))),(21,(hG s2))] p_) (h:J7 r2 s1 s2 MW dj=some v) :
  dB Tryz.prog Jy 83 0 none P1 p_ (((rk)++[au.cells [(qq (ix r2 s2) .shared)]])++[bO]) Q:=by
 obtain ⟨qT,rfl⟩:=qt.ex;unfold J7 at h;unfold P1;obtain ⟨Qy,H4⟩:∃ c,P0=c:=⟨_,rfl⟩;rw [H4];conv=>whnf
 subst H4;refine aiy ?_;refine aj2 ?_ (by exact rfl) h;intro xt n0 qO p_ h qt;obtain ⟨qT,rfl⟩:=qt.ex;conv=>whnf
 refine bs h (fun G3 h=>?_) fun G3 h=>?_
 ·rw [G3];conv=>whnf
  obtain ⟨H6,h⟩:=qD h;refine ⟨by first | rfl | simp,by have:=H6;omega,rfl,H6,?_⟩
  erw [Ii (q_ p6) xt n0];conv=>whnf
  exact VM _ _ _ h ⟨rfl,rfl⟩
 ·rw [G3];conv=>whnf
  exact VM _ _ _ h ⟨rfl,rfl⟩
theorem aj1 {sm:qa} {q5:qe→Option qP} {HE:Int} {Ir:qe} {t:qn} {r2:rX} {s1:qP} {s2:Int} {v:qP} {Q:ra}  {rk:List au} (Hn:∀ (Md:qe) (p_:List I),q5 Md=some v→qV 133 [(0,(.bT [(hG t.1),(qf t.2 .shared)])),(3,(.ax (s1.map (q_ p6)) s1.length (.uniq 1))),(5,(.ptr (rk).length 0)),(6,(.ptr ((rk)++[au.cells [(qq (ix r2 s2) .shared)]]).length 0)),(19,(.ax (r2.map i') r2.length .shared)),(20,(hG (r2.length:Int))),(21,(hG s2))] p_→Q (.exit 4) p_ (((rk)++[au.cells [(qq (ix r2 s2) .shared)]])++[au.cells [(hG t.1),(qf Md (.own 2))]])) {T:List I} (bW:eL (DX false [0,1,2,1,1,2,2,2,8,3,111]) T=F2 133 [(0,(.bT [(hG t.1),(qf t.2 .shared)])),(3,(.ax (s1.map (q_ p6)) s1.length (.uniq 1))),(5,(.ptr (rk).length 0)),(6,(.ptr ((rk)++[au.cells [(qq (ix r2 s2) .shared)]]).length 0)),(9,(qq sm .shared)),(10,(hG HE)),(19,(.ax (r2.map i') r2.length .shared)),(20,(hG (r2.length:Int))),(21,(hG s2))]) (h:Iy sm q5 p' HE Ir=some v) :
  dB Tryz.prog Jy 83 0 none Mc T (((rk)++[au.cells [(qq (ix r2 s2) .shared)]])++[au.cells [(hG t.1),(qf Ir (.own 2))]]) Q:=by
 unfold Mc;refine wp_loop bW ?_;refine .intro (fun m T H=>∃ (HE:Int) (Ir:qe),T=F2 133 [(0,(.bT [(hG t.1),(qf t.2 .shared)])),(3,(.ax (s1.map (q_ p6)) s1.length (.uniq 1))),(5,(.ptr (rk).length 0)),(6,(.ptr ((rk)++[au.cells [(qq (ix r2 s2) .shared)]]).length 0)),(9,(qq sm .shared)),(10,(hG HE)),(19,(.ax (r2.map i') r2.length .shared)),(20,(hG (r2.length:Int))),(21,(hG s2))]∧H=(((rk)++[au.cells [(qq (ix r2 s2) .shared)]])++[au.cells [(hG t.1),(qf Ir (.own 2))]])∧Iy sm q5 m HE Ir=some v) p' ⟨HE,Ir,rfl,rfl,h⟩ ?_;clear h bW;rintro m T H ⟨HE,Ir,rfl,rfl,h⟩;cases m
 ·exact q3 h
 rename_i m;rw [Iy.eq_2] at h;conv=>whnf
 refine bs h (fun Q' h=>?_) fun Q' h=>?_
 ·rw [Q'];conv=>whnf
  refine Dj (x:=au.cells [(hG t.1),(qf Ir (.own 2))]) (by first | exact qs.h | rfl | (simp [List.getElem?_append,I.settle];done)) ?_
  conv=>whnf
  rw [rK];refine qy h id fun ada h=>?_;rw [rA hG sm HE ada];conv=>whnf
  refine qy h id fun adb h=>?_;rw [rA hG sm (w (HE+(1:Int))) adb];conv=>whnf
  obtain ⟨VB,h⟩:=qD h;refine ⟨by first | rfl | (simp;done) | exact r9 p6 _ qz _,by have:=VB;omega,rfl,VB,?_⟩
  erw [F_ p6 Ir ((ix sm HE),(ix sm (w (HE+(1:Int)))))];conv=>whnf
  refine Dj (x:=au.cells [(hG t.1),(qf Ir .shared)]) (by first | exact qs.h | rfl | (simp [List.getElem?_append,I.settle];done)) ?_
  conv=>whnf
  rw [rK];exact ⟨m,Nat.lt_succ_self m,(w (HE+(2:Int))),(Ir++[((ix sm HE),(ix sm (w (HE+(1:Int)))))]),rfl,rfl,h⟩
 ·rw [Q'];conv=>whnf
  exact Hn _ _ h ⟨rfl,rfl⟩
theorem ajY {t:qn} {r2:rX} {qh:qP→Option qP} {s1:qP} {s2:Int} {v:qP} {Q:ra}   (rf:∀ (J':qP) (qO:List au) (p_:List I),qh J'=some v→qV 133 [(3,(.ax (J'.map (q_ p6)) J'.length (.uniq 1)))] p_→Q (.exit 0) p_ (qO)) {T:List I} (bW:eL (DX false [0,1,2,1,15,3,111]) T=F2 133 [(0,(.bT [(hG t.1),(qf t.2 .shared)])),(3,(.ax (s1.map (q_ p6)) s1.length (.uniq 1))),(19,(.ax (r2.map i') r2.length .shared)),(20,(hG (r2.length:Int))),(21,(hG s2))]) (h:HJ t r2 qh p' s1 s2=some v) :
  dB Tryz.prog Jy 83 0 none P2 T [] Q:=by
 unfold P2;obtain ⟨Gi,qF⟩:∃ c,PZ=c:=⟨_,rfl⟩;rw [qF];obtain ⟨IG,rR⟩:∃ c,Mc=c:=⟨_,rfl⟩;rw [rR];obtain ⟨abZ,IJ⟩:∃ c,P1=c:=⟨_,rfl⟩;rw [IJ];refine wp_loop bW ?_;refine .intro (fun m T H=>∃ (s1:qP) (s2:Int) (rk:List au),T=F2 133 [(0,(.bT [(hG t.1),(qf t.2 .shared)])),(3,(.ax (s1.map (q_ p6)) s1.length (.uniq 1))),(19,(.ax (r2.map i') r2.length .shared)),(20,(hG (r2.length:Int))),(21,(hG s2))]∧H=(rk)∧HJ t r2 qh m s1 s2=some v) p' ⟨s1,s2,[],rfl,rfl,h⟩ ?_;clear h bW;rintro m T H ⟨s1,s2,rk,rfl,rfl,h⟩;cases m
 ·exact q3 h
 rename_i m;rw [HJ.eq_2] at h;conv=>whnf
 refine bs h (fun qu h=>?_) fun qu h=>?_
 ·rw [qu];conv=>whnf
  refine qy h id fun qA h=>?_;rw [rA i' r2 s2 qA];conv=>whnf
  refine Dj (x:=au.cells [(.ax [] 0 .full)]) (by first | exact qs.h | rfl | (simp [List.getElem?_append,I.settle];done)) ?_
  conv=>whnf
  rw [rK];refine Dj (x:=au.cells [(hG (0:Int)),(.ax [] 0 .full)]) (by first | exact qs.h | rfl | (simp [List.getElem?_append,I.settle];done)) ?_
  conv=>whnf
  rw [rK];refine Dj (x:=au.cells [(qq (ix r2 s2) .shared)]) (by first | exact qs.h | rfl | (simp [List.getElem?_append,I.settle];done)) ?_
  conv=>whnf
  subst qF;refine ajZ ?_ ?_ (.inl rfl) (by exact rfl) h
  ·intro xt p_ h qt;obtain ⟨qT,rfl⟩:=qt.ex;(conv=>whnf);refine Dj (x:=au.cells [(qq (ix r2 s2) .shared)]) (by first | exact qs.h | rfl | (simp [List.getElem?_append,I.settle];done)) ?_
   (conv=>whnf);obtain ⟨ew,rh,h⟩:=qi h;refine ⟨qm.pl,_,Tr rh,?_⟩;(conv=>whnf);subst rR;refine aj0 ?_ ?_ (.inl rfl) (by exact rfl) h
   ·intro xt p_ h qt;obtain ⟨qT,rfl⟩:=qt.ex;(conv=>whnf);obtain ⟨qH,r1,h⟩:=qi h;refine ⟨_,_,call7 (l:=[(hG t.1),(qf xt .full)]) (cs:=[(hG t.1),(qf xt .full)]) (Nat.zero_le _) (by first | exact qs.h | rfl | (simp [List.getElem?_append,I.settle];done)) rfl (q' (p5 rfl (p5 (q4 (fun _=>(p5 rfl (p5 rfl rfl))) _ _ _) rfl))) (ds:=[(hG t.1),(qf xt .shared)]) rfl (Td r1),?_⟩
    rw [rK];(conv=>whnf);obtain ⟨q6,se,h⟩:=qi h;refine ⟨_,_,Hv (cs:=[(qf qH .shared),(.func 105 [] [(.bT [(qq (ix r2 s2) .shared)])])]) (bs:=[(qf qH .shared),(.func 105 [] [(.bT [(qq (ix r2 s2) .shared)])])]) (rp rfl (rp (I0 rT (rp (HF (cs:=[(qq (ix r2 s2) .shared)]) (by first | exact qs.h | rfl | (simp [List.getElem?_append,I.settle];done)) rfl) rT)) rT)) (by rfl) (by exact (p5 (q4 (fun _=>(p5 rfl (p5 rfl rfl))) _ _ _) (p5 (Ip rfl (p5 (q' (p5 (rF (fun _=>rfl) _ _ _) rfl)) rfl)) rfl))) (Pu ⟨(p5 (q' (p5 (rF (fun _=>rfl) _ _ _) rfl)) rfl),by simp⟩ (fun _ _ aZ=>Te aZ) se) rfl,?_⟩
    (conv=>whnf);refine bs h (fun r8 h=>?_) fun r8 h=>?_
    ·rw [r8];(conv=>whnf);refine qy h id fun rI h=>?_;erw [O5 p6 2 qz qH (w (q6+(1:Int))) rI];(conv=>whnf);refine qy h id fun rZ h=>?_;erw [LM p6 2 qz qH (w (q6+(1:Int))) rZ];(conv=>whnf);obtain ⟨Gp,r0,h⟩:=qi h;refine ⟨(p5 (RP (p5 (q4 (fun _=>(p5 rfl (p5 rfl rfl))) _ _ _) (p5 (q4 (fun _=>(p5 rfl (p5 rfl rfl))) _ _ _) rfl))) rfl),_,Tf r0,F7,?_⟩;(conv=>whnf);subst IJ;refine L' ?_ (by exact ⟨rfl,rfl⟩) h;intro Fh qO p_ h qt;obtain ⟨qT,rfl⟩:=qt.ex;(conv=>whnf);exact ⟨m,Nat.lt_succ_self m,Fh,(w (s2+(1:Int))),_,rfl,rfl,h⟩
    ·rw [r8];(conv=>whnf);subst IJ;refine L' ?_ (by exact ⟨rfl,rfl⟩) h;intro Fh qO p_ h qt;obtain ⟨qT,rfl⟩:=qt.ex;(conv=>whnf);exact ⟨m,Nat.lt_succ_self m,Fh,(w (s2+(1:Int))),_,rfl,rfl,h⟩
   ·intro xt p_ h qt;obtain ⟨qT,rfl⟩:=qt.ex;(conv=>whnf);obtain ⟨GF,Jc,h⟩:=qi h;refine ⟨_,_,call7 (l:=[(hG t.1),(qf xt (.own 2))]) (cs:=[(hG t.1),(qf xt .shared)]) (Nat.zero_le _) (by first | exact qs.h | rfl | (simp [List.getElem?_append,I.settle];done)) rfl (q' (p5 rfl (p5 (q4 (fun _=>(p5 rfl (p5 rfl rfl))) _ _ _) rfl))) (ds:=[(hG t.1),(qf xt .shared)]) rfl (Td Jc),?_⟩
    rw [rK];(conv=>whnf);obtain ⟨Hd,Il,h⟩:=qi h;refine ⟨_,_,Hv (cs:=[(qf GF .shared),(.func 105 [] [(.bT [(qq (ix r2 s2) .shared)])])]) (bs:=[(qf GF .shared),(.func 105 [] [(.bT [(qq (ix r2 s2) .shared)])])]) (rp rfl (rp (I0 rT (rp (HF (cs:=[(qq (ix r2 s2) .shared)]) (by first | exact qs.h | rfl | (simp [List.getElem?_append,I.settle];done)) rfl) rT)) rT)) (by rfl) (by exact (p5 (q4 (fun _=>(p5 rfl (p5 rfl rfl))) _ _ _) (p5 (Ip rfl (p5 (q' (p5 (rF (fun _=>rfl) _ _ _) rfl)) rfl)) rfl))) (Pu ⟨(p5 (q' (p5 (rF (fun _=>rfl) _ _ _) rfl)) rfl),by simp⟩ (fun _ _ aZ=>Te aZ) Il) rfl,?_⟩
    (conv=>whnf);refine bs h (fun Jd h=>?_) fun Jd h=>?_
    ·rw [Jd];(conv=>whnf);refine qy h id fun Im h=>?_;erw [O5 p6 2 qz GF (w (Hd+(1:Int))) Im];(conv=>whnf);refine qy h id fun Je h=>?_;erw [LM p6 2 qz GF (w (Hd+(1:Int))) Je];(conv=>whnf);obtain ⟨sa,Kg,h⟩:=qi h;refine ⟨(p5 (RP (p5 (q4 (fun _=>(p5 rfl (p5 rfl rfl))) _ _ _) (p5 (q4 (fun _=>(p5 rfl (p5 rfl rfl))) _ _ _) rfl))) rfl),_,Tf Kg,F7,?_⟩;(conv=>whnf);subst IJ;refine L' ?_ (by exact ⟨rfl,rfl⟩) h;intro TJ qO p_ h qt;obtain ⟨qT,rfl⟩:=qt.ex;(conv=>whnf);exact ⟨m,Nat.lt_succ_self m,TJ,(w (s2+(1:Int))),_,rfl,rfl,h⟩
    ·rw [Jd];(conv=>whnf);subst IJ;refine L' ?_ (by exact ⟨rfl,rfl⟩) h;intro TJ qO p_ h qt;obtain ⟨qT,rfl⟩:=qt.ex;(conv=>whnf);exact ⟨m,Nat.lt_succ_self m,TJ,(w (s2+(1:Int))),_,rfl,rfl,h⟩
  ·intro xt p_ h qt;obtain ⟨qT,rfl⟩:=qt.ex;(conv=>whnf);refine Dj (x:=au.cells [(qq (ix r2 s2) .shared)]) (by first | exact qs.h | rfl | (simp [List.getElem?_append,I.settle];done)) ?_
   (conv=>whnf);obtain ⟨sm,ac_,h⟩:=qi h;refine ⟨qm.pl,_,Tr ac_,?_⟩;(conv=>whnf);subst rR;refine aj1 ?_ (by exact rfl) h;intro Md p_ h qt;obtain ⟨qT,rfl⟩:=qt.ex;(conv=>whnf);obtain ⟨HB,ade,h⟩:=qi h;refine ⟨_,_,call7 (l:=[(hG t.1),(qf Md (.own 2))]) (cs:=[(hG t.1),(qf Md .shared)]) (Nat.zero_le _) (by first | exact qs.h | rfl | (simp [List.getElem?_append,I.settle];done)) rfl (q' (p5 rfl (p5 (q4 (fun _=>(p5 rfl (p5 rfl rfl))) _ _ _) rfl))) (ds:=[(hG t.1),(qf Md .shared)]) rfl (Td ade),?_⟩
   rw [rK];(conv=>whnf);obtain ⟨Jm,adf,h⟩:=qi h;refine ⟨_,_,Hv (cs:=[(qf HB .shared),(.func 105 [] [(.bT [(qq (ix r2 s2) .shared)])])]) (bs:=[(qf HB .shared),(.func 105 [] [(.bT [(qq (ix r2 s2) .shared)])])]) (rp rfl (rp (I0 rT (rp (HF (cs:=[(qq (ix r2 s2) .shared)]) (by first | exact qs.h | rfl | (simp [List.getElem?_append,I.settle];done)) rfl) rT)) rT)) (by rfl) (by exact (p5 (q4 (fun _=>(p5 rfl (p5 rfl rfl))) _ _ _) (p5 (Ip rfl (p5 (q' (p5 (rF (fun _=>rfl) _ _ _) rfl)) rfl)) rfl))) (Pu ⟨(p5 (q' (p5 (rF (fun _=>rfl) _ _ _) rfl)) rfl),by simp⟩ (fun _ _ aZ=>Te aZ) adf) rfl,?_⟩
   (conv=>whnf);refine bs h (fun Ra h=>?_) fun Ra h=>?_
   ·rw [Ra];(conv=>whnf);refine qy h id fun adg h=>?_;erw [O5 p6 2 qz HB (w (Jm+(1:Int))) adg];(conv=>whnf);refine qy h id fun adh h=>?_;erw [LM p6 2 qz HB (w (Jm+(1:Int))) adh];(conv=>whnf);obtain ⟨JO,adi,h⟩:=qi h;refine ⟨(p5 (RP (p5 (q4 (fun _=>(p5 rfl (p5 rfl rfl))) _ _ _) (p5 (q4 (fun _=>(p5 rfl (p5 rfl rfl))) _ _ _) rfl))) rfl),_,Tf adi,F7,?_⟩;(conv=>whnf);subst IJ;refine L' ?_ (by exact ⟨rfl,rfl⟩) h;intro TI qO p_ h qt;obtain ⟨qT,rfl⟩:=qt.ex;(conv=>whnf);exact ⟨m,Nat.lt_succ_self m,TI,(w (s2+(1:Int))),_,rfl,rfl,h⟩
   ·rw [Ra];(conv=>whnf);subst IJ;refine L' ?_ (by exact ⟨rfl,rfl⟩) h;intro TI qO p_ h qt;obtain ⟨qT,rfl⟩:=qt.ex;(conv=>whnf);exact ⟨m,Nat.lt_succ_self m,TI,(w (s2+(1:Int))),_,rfl,rfl,h⟩
 ·rw [qu];conv=>whnf
  exact rf _ _ _ h ⟨rfl,rfl⟩
theorem Tz {t:qn} {v:qP} (h:I4 t=some v):qC 83 [(.bT [(hG t.1),(.ax (t.2.flatMap p6) t.2.length .shared)])] (.ax (v.map (q_ p6)) v.length .shared):=by
 refine qN dD afe rfl (rF (fun _=>(q4 (fun _=>(p5 rfl (p5 rfl rfl))) _ _ _)) _ _ _) fun Q bz=>?_;have lj:qE [.tmp 2] Q (fun v=>(.ax (v.map (q_ p6)) v.length .shared)) v:=fun T H bJ=>bz _ T H bJ;unfold I4 at h;unfold aaq;obtain ⟨akw,Vr⟩:∃ c,P2=c:=⟨_,rfl⟩;rw [Vr];conv=>whnf
 obtain ⟨aR,eQ,h⟩:=qi h;refine ⟨qm.pl,_,ajR eQ,?_⟩;conv=>whnf
 obtain ⟨r2,fi,h⟩:=qi h;refine ⟨qm.pl,_,Tv fi,?_⟩;conv=>whnf
 subst Vr;refine ajY ?_ (by exact rfl) h;intro J' qO p_ h qt;obtain ⟨qT,rfl⟩:=qt.ex;conv=>whnf
 exact qj h lj rfl rfl
end Go.Proofs.YtfakoboiahbhaaaGreat.Ab


namespace Go.Proofs.YtfakoboiahbhaaaGreat.Ab
open Go
theorem aiE {x y:Row} (h:0<x.length+y.length) (af:x.length+y.length≤24):LV [x,y]=some (x++y):=by
 have fP:ix [x,y] (0:Int)=x:=rfl;have e1:ix [x,y] (1:Int)=y:=rfl;have w0:w ((0:Int)+1)=1:=by decide
 have bE:w ((1:Int)+1)=2:=by decide
 have aq:([x,y]:List Row).length=2:=rfl;rw [LV,show p'=18446744073709551613+3 from rfl,JV,aq,if_pos (by decide),qp (by decide),fP,Ia (n:=(0:Int)+(x.length:Int)) (by omega),if_neg (by simp),w0,JV,aq,if_pos (by decide),qp (by decide),e1,Ia (n:=(0:Int)+(x.length:Int)+(y.length:Int)) (by omega),if_neg (by simp;omega),bE,JV,aq,if_neg (by decide),Ti,qp ⟨rfl,by omega,by omega⟩,Option.bind_some,JW,aq,if_pos (by decide),qp (by decide),fP,qp (by simp;omega),w0,JW,aq,if_pos (by decide),qp (by decide),e1,qp (by simp;omega),bE,JW,aq,if_neg (by decide)];rfl
section
variable {b t:qb} {S:List Int} {r2:List (List Int)} {s2:Int}
theorem Zu (he:ix r2 s2=S) (cg:rm t S) (aq:S.length≤1000) {k:Row→Option (List Row)}:∀ (m i:Nat) (z:Int),z=i→i≤S.length→S.length-i<m→K7 t r2 s2 k m z ((S.take i).map (ix t.2))=k (S.map (ix t.2))
 | 0,_,_,_,_,h=>absurd h (by omega)
 | m+1,i,_,rfl,hi,hm=>by
   rw [K7,he];by_cases h:(i:Int)<(S.length:Int)
   ·(have rb:i<S.length:=by omega);have ai:=cg _ (List.getElem_mem rb);rw [if_pos (decide_eq_true h),qp ⟨by omega,h⟩,rn rb,qp ai,qp (by simp;omega),rq i (by omega)];(have e:(S.take i).map (ix t.2)++[ix t.2 S[i]]=(S.take (i+1)).map (ix t.2):=by rw [Jo rb,List.map_append];rfl);rw [e];exact Zu he cg aq m (i+1) _ rfl (by omega) (by omega)
   ·rw [if_neg (by simpa using h),show i=S.length by omega,List.take_length]
theorem Zv {o:List Int} (ar:o.length≤1000) {k:Row→Option (List Row)}:∀ (m i:Nat) (z:Int) (acc:Row),z=i→acc.length+o.length≤10000+i→o.length+2-i<m→i≤o.length+1→acc.length≤10000+i→Iy o k m z acc=k (acc++GA (o.drop i))
 | 0,_,_,_,_,_,h,_,_=>absurd h (by omega)
 | m+1,i,_,acc,rfl,cu,hm,hi,akB=>by
   rw [Iy,rq i (by omega)];by_cases h:((i+1:Nat):Int)<(o.length:Int)
   ·(have ad:i<o.length:=by omega);(have af:i+1<o.length:=by omega);rw [if_pos (decide_eq_true h),qp ⟨by omega,by omega⟩,qp ⟨by omega,h⟩,qp (by omega),rn ad,rn af,Ia (n:=(i:Int)+2) (by omega),Zv ar m (i+2) _ _ (by omega) (by simp;omega) (by omega) (by omega) (by simp;omega)];rw [List.drop_eq_getElem_cons ad,List.drop_eq_getElem_cons af,GA];simp
   ·rw [if_neg (by simpa using h)]
    have:GA (o.drop i)=[]:=by
     have aq:(o.drop i).length≤1:=by simp;omega
     match o.drop i,aq with
     | [],_=>rfl
     | [_],_=>rfl
     | _::_::_,h=>simp at h
    rw [this,List.append_nil]
theorem Ty (he:ix r2 s2=S) {dj:Row} {T:qb} (az:∀ p∈dj,Hc T p) (aq:dj.length≤1000) {k:List Row→Option (List Row)}:∀ (m i:Nat) (z:Int) (out:List Row) (own:Row),z=i→i≤dj.length→dj.length-i<m→out.length≤1000+i→own.length≤i →
  J8 r2 s2 dj (fun xt n0=>if (decide ((0:Int)<(n0.length:Int)))=true then qd ((xt.length+1)*24≤140737488355328) <| k (xt++[n0]) else k xt) m out own z=k (out++sc S own (dj.drop i))
 | 0,_,_,_,_,_,_,h,_,_=>absurd h (by omega)
 | m+1,i,_,out,own,rfl,hi,hm,ad,af=>by
   rw [J8,he];by_cases h:(i:Int)<(dj.length:Int)
   ·(have rb:i<dj.length:=by omega);have aD:=az _ (List.getElem_mem rb);rw [if_pos (decide_eq_true h),qp ⟨by omega,h⟩,rn rb,List.drop_eq_getElem_cons rb,sc,rq i (by omega)];by_cases aY:dj[i].1<(S.length:Int)
    ·rw [if_pos (decide_eq_true aY),if_pos aY,qp ⟨aD.1,aY⟩,qp (by omega)];exact Ty he az aq m (i+1) _ out _ rfl (by omega) (by omega) (by omega) (by simp;omega)
    ·rw [if_neg (by simpa using aY),if_neg aY,qp (by omega),Ty he az aq m (i+1) _ (out++[own]) [] rfl (by omega) (by omega) (by simp;omega) (by simp)];simp
   ·rw [if_neg (by simpa using h),List.drop_eq_nil_of_le (by omega),sc];by_cases aT:0<own.length
    ·rw [if_pos (by simpa using aT),if_pos aT,qp (by omega)]
    ·rw [if_neg (by simpa using aT),if_neg aT,List.append_nil]
theorem aj_ {s:List (Int×Int)} {f:Int×Int→Option Bool} {p:Int×Int→Bool} (aN:∀ x∈s,f x=some (p x)) (ai:s.length≤140737488355328):J_ s f=some (posOf p s 0):=by
 have:=TG aN ai p' 0 0 rfl (Nat.zero_le _) (ru (by omega));rw [List.drop_zero] at this;rw [J_,this]
def HA (b:qb) (r:List Int):Nat:=max 1 ((rj b r).length / 2)
theorem We (r:List Int):HA b r≤3:=by
 have ar:(rj b r).length≤6:=Nat.le_trans (List.length_filter_le _ _) (by rw [r3];omega);unfold HA;omega
def G' (b:qb):Nat:=((parts b).map (HA b)).sum
theorem Zt (p8:qJ b) {P:List (List Int)} (r_:rC b (upto b.2.length) P) {k:List Row→Option (List Row)}:∀ (m i:Nat) (z:Int) (out:List Row),z=i→i≤P.length→P.length-i<m→RowsOf b (P.take i).flatten out→(∀ r∈out,r≠[])→out.length=((P.take i).map (HA b)).sum →
  ∃ so,HJ b P k m out z=k so∧RowsOf b P.flatten so∧(∀ r∈so,r≠[])∧so.length=(P.map (HA b)).sum
 | 0,_,_,_,_,_,h,_,_,_=>absurd h (by omega)
 | m+1,i,_,out,rfl,hi,hm,lj,bY,hlen=>by
   have dq:=p8.len;have bU:=p8.f6;have VE:=r_.I_ It;rw [HJ];by_cases h:(i:Int)<(P.length:Int)
   ·(have rb:i<P.length:=by omega);obtain ⟨S,Ol⟩:∃ S,S=P[i]:=⟨_,rfl⟩;(have Om:S∈P:=by rw [Ol];exact List.getElem_mem rb);(have he:ix P (i:Int)=S:=by rw [rn rb,Ol]);have MK:rm b S:=r_.MU It S Om;(have ac1:S.Nodup:=(r_.Ho S Om).imp fun h e=>by omega);have ac0:S.length≤b.2.length:=HV ac1 MK;have IN:=r_.ne S Om;obtain ⟨l,a,al,bG,aK⟩:=round_part p8 MK (by omega) IN (r_.ach Om);have Q8:=Ww p8 MK IN bG aK;have ar:(rj b S).length≤6:=Nat.le_trans (List.length_filter_le _ _) (by rw [r3];omega);have FB:l.length=S.length+(rj b S).length / 2:=by
     have:=bG.upto.length_eq
     rwa [List.length_map,r3,LN] at this
    (have akJ:0<l.length:=by have:=List.length_pos_iff.2 IN;omega);have adW:∀ l:List (List Int),(l.map (HA b)).sum≤3*l.length:=fun l=>by
     induction l with
     | nil=>simp
     | cons x l a9=>rw [List.map_cons,List.sum_cons,List.length_cons];have:=We (b:=b) x;omega
    have Cg:out.length≤30:=by
     have:=adW (P.take i);rw [List.length_take] at this;omega
    have IT:∃ so,HJ b P k m (out++sc S [] (IY S l)) (w ((i:Int)+1))=k so∧RowsOf b P.flatten so∧(∀ r∈so,r≠[])∧so.length=(P.map (HA b)).sum:=by
     rw [rq i (by omega)];refine Zt p8 r_ m (i+1) _ _ rfl (by omega) (by omega) ?_ ?_ ?_
     ·rw [Jo rb,List.flatten_append,←Ol];simpa using lj.app Q8.toRowsOf
     ·intro r aj;rcases List.mem_append.1 aj with aj | aj
      ·exact bY r aj
      ·exact Q8.ne r aj
     ·rw [List.length_append,hlen,Q8.len,Jo rb,List.map_append,List.sum_append,←Ol];simp [HA]
    have az:∀ (g3:Nat) (l':Row),l'=IY S l→(∀ p∈l',Hc (sf b S) p)→l'.length≤1000→J7 P out (i:Int) (fun Fh=>HJ b P k m Fh (w ((i:Int)+1))) l'=HJ b P k m (out++sc S [] (IY S l)) (w ((i:Int)+1)):=fun _ l' e dr e7=>by
     rw [J7];refine (Ty (T:=sf b S) (k:=fun Fh=>HJ b P k m Fh (w ((i:Int)+1))) he dr e7 p' 0 0 out [] rfl (by omega) (ru (by omega)) (by omega) (by simp)).trans ?_;rw [List.drop_zero,e]
    rw [if_pos (decide_eq_true h),qp ⟨by omega,h⟩]
    have e7:=Zu (t:=b) (r2:=P) (s2:=(i:Int)) (S:=S) he MK (by omega) (k:=fun xt =>
      (K3 b (ix P (i:Int))).bind fun ew =>
      Iy ew (fun xt =>
        (KE (b.1,xt)).bind fun qH =>
        (J_ qH (fun qR=>Nw qR (ix P (i:Int)))).bind fun q6 =>
        if (decide ((0:Int)≤q6))=true then
         qd (0≤(w (q6+(1:Int)))∧(w (q6+(1:Int)))≤(qH.length:Int)) <|
         qd (0≤(w (q6+(1:Int)))∧(w (q6+(1:Int)))≤(qH.length:Int)) <|
         (LV [(qH.drop (w (q6+(1:Int))).toNat),(qH.take (w (q6+(1:Int))).toNat)]).bind fun Gp =>
         J7 P out (i:Int) (fun Fh =>
           HJ b P k m Fh (w ((i:Int)+(1:Int)))) Gp
        else
         J7 P out (i:Int) (fun Fh =>
           HJ b P k m Fh (w ((i:Int)+(1:Int)))) qH) p' (0:Int) xt) p' 0 0 rfl (by omega) (ru (by omega))
    rw [List.take_zero,List.map_nil] at e7;rw [e7,he,Zk p8 MK (by omega),Option.bind_some,Zv (by omega) p' 0 0 _ rfl (by simp;omega) (ru (by omega)) (by omega) (by simp;omega),List.drop_zero];have na:KE (b.1,S.map (ix b.2)++GA (rj b S))=some l:=al;rw [na,Option.bind_some,aj_ (p:=fun p=>!Gl S p) (fun p _=>by rw [Nw];unfold Gl;congr 1;by_cases ak:p.1<(S.length:Int) <;> simp [ak] <;> omega) (by omega),Option.bind_some];rcases RM (fun p=>!Gl S p) l 0 with ⟨ad,af⟩ | ⟨dA,q,kq,adE,af,aH⟩
    ·rw [ad,if_neg (by decide),az 0 l (by unfold IY;rw [ad];rfl) bG.ok (by omega)];exact IT
    ·(have dh:dA.length+1≤l.length:=by rw [adE];simp);have adT:IY S l=l.drop (dA.length+1)++l.take (dA.length+1):=by
      unfold IY;rw [aH];simp only [Nat.zero_add];rw [if_pos (by omega),show ((dA.length:Int)+1).toNat=dA.length+1 by omega]
     rw [aH,Nat.zero_add,if_pos (by simp),rq _ (by omega),qp ⟨by omega,by omega⟩,qp ⟨by omega,by omega⟩,Int.toNat_natCast,aiE (by simp;omega) (by simp;omega),Option.bind_some,az 0 _ adT.symm ?_ ?_]
     ·exact IT
     ·intro p aD;rcases List.mem_append.1 aD with aD | aD
      ·exact bG.ok p (List.mem_of_mem_drop aD)
      ·exact bG.ok p (List.mem_of_mem_take aD)
     ·simp;omega
   ·rw [if_neg (by simpa using h)]
    have:i=P.length:=by omega
    subst this;rw [List.take_length] at lj hlen;exact ⟨out,rfl,lj,bY,hlen⟩
structure NW (b:qb) (R:List Row):Prop extends RowsOf b (upto b.2.length) R where
 ne:∀ r∈R,r≠[]
 len:R.length=G' b
theorem rC.flat {P:List (List Int)} {S:List Int} (cg:S.Nodup) (r_:rC b S P):P.flatten.Perm S:=by
 refine (List.perm_ext_iff_of_nodup r_.Ve cg).2 fun x=>?_;rw [r_.mem x,List.mem_flatten]
theorem Pq (p8:qJ b):∃ R,I4 b=some R∧NW b R:=by
 obtain ⟨ad,af,_⟩:=NO p8;have hlen:=p8.len;obtain ⟨R,aR,r2,ew,qH⟩:=Zt p8 af (k:=fun J'=>some J') p' 0 0 [] rfl (by omega) (ru (by have:=af.I_ It;omega)) (by rw [List.take_zero];exact RowsOf.nil) (fun r aj=>absurd aj (by simp)) (by simp);refine ⟨R,?_,⟨⟨r2.ok,r2.go,r2.all.trans (af.flat (Iu _))⟩,ew,qH⟩⟩;rw [I4,ajP (by omega),Option.bind_some,ad,Option.bind_some];exact aR
end
end Go.Proofs.YtfakoboiahbhaaaGreat.Ab


namespace Go.Proofs.YtfakoboiahbhaaaGreat.Ab
open Go
instance {d:Nat} {l:List I} [h:qm d l]:qm d (l.map I.gS):=⟨by
 have h:=h.pl;rw [List.all_eq_true] at h ⊢;intro u hu;obtain ⟨v,ae,rfl⟩:=List.mem_map.1 hu;have:=h v ae;cases d with
 | zero=>simp [cl] at this
 | succ d=>cases v with
   | ax cs n c=>cases c <;> exact this
   | _=>exact this⟩
end Go.Proofs.YtfakoboiahbhaaaGreat.Ab
