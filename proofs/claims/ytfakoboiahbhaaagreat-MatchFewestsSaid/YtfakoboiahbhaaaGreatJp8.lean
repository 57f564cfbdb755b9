
import Derived.Test.YtfakoboiahbhaaaGreatJp5
import Derived.KernelRfl
import Derived.Test.YtfakoboiahbhaaaGreatJp6
import Derived.Test.YtfakoboiahbhaaaGreatJp7
import Derived.Test.YtfakoboiahbhaaaGreatJp4
set_option linter.unusedSimpArgs false
set_option linter.unusedVariables false
set_option linter.unusedSectionVars false

namespace Go.Proofs.YtfakoboiahbhaaaGreat.Ab
open Go
def aL:qL:=.pure 18 [.agg [.int .i64 4,.ax [.int .i64 0,.int .i64 1,.int .i64 1,.int .i64 2,.int .i64 2,.int .i64 0,.int .i64 2,.int .i64 3] 4 .shared],.ax [.int .i64 1,.int .i64 1,.int .i64 0,.int .i64 1,.int .i64 2,.int .i64 1,.int .i64 3,.int .i64 0] 4 .shared] (.tuple [.int .i64 2,.int .i64 3,.int .i64 0])
def aQ:qL:=.pure 22 [.agg [.int .i64 4,.ax [.int .i64 0,.int .i64 1,.int .i64 1,.int .i64 2,.int .i64 2,.int .i64 0,.int .i64 2,.int .i64 3] 4 .shared],.ax [.int .i64 1,.int .i64 1,.int .i64 0,.int .i64 1,.int .i64 2,.int .i64 1,.int .i64 3,.int .i64 0] 4 .shared] (.int .i64 27)
def ch:qL:=.pure 27 [.agg [.int .i64 5,.ax [.int .i64 0,.int .i64 1,.int .i64 2,.int .i64 3,.int .i64 4,.int .i64 4] 3 .shared]] (.tuple [.ax [.int .i64 0,.int .i64 1,.int .i64 2,.int .i64 3] 4 .full,.int .i64 0])
def lW:qL:=.pure 29 [.agg [.int .i64 4,.ax [.int .i64 0,.int .i64 1,.int .i64 1,.int .i64 2,.int .i64 2,.int .i64 0,.int .i64 2,.int .i64 3] 4 .shared]] (.tuple [.ax [.ax [.int .i64 0,.int .i64 1,.int .i64 2,.int .i64 3] 4 .shared] 1 .shared,.int .i64 0])
def CH:qL:=.pure 35 [.agg [.int .i64 4,.ax [.int .i64 0,.int .i64 1,.int .i64 1,.int .i64 2,.int .i64 2,.int .i64 0,.int .i64 2,.int .i64 3] 4 .shared]] (.tuple [.int .i64 1,.int .i64 0])
def Kt:qL:=.pure 35 [.agg [.int .i64 2,.ax [.int .i64 0,.int .i64 1,.int .i64 1,.int .i64 0] 2 .shared]] (.tuple [.int .i64 1,.int .i64 0])
end Go.Proofs.YtfakoboiahbhaaaGreat.Ab


namespace Go.Proofs.YtfakoboiahbhaaaGreat.Ab
open Go
def Yz:List qL:=[bE,bS,F9,Iv,LS,Yt,Yu,Yv,Yw,Yf,Yg,Yh,Yi,Yj,Yk,Yl,Ym,Yn,Yo,Yp,Yq,Yr,Ys]
theorem aiv:∀ e∈Yz,qY Go.Proofs.Tryz.prog e:=by
 simp only [Yz,List.forall_mem_cons];exact ⟨aif,ail,aim,ain,aio,aip,aiq,air,ais,ah6,ah7,ah8,ah9,ah_,aia,aib,aic,aid,aie,aih,aii,aij,aik,by simp⟩
abbrev aaH:Prop:=qC 17 [] (B true)
theorem aiw:aaH:=Gd aiv (by kernel_rfl)
end Go.Proofs.YtfakoboiahbhaaaGreat.Ab


namespace Go.Proofs.YtfakoboiahbhaaaGreat.Ab
open Go
def KI:Option Bool:=some true
theorem Tj {v:Bool} (h:KI=some v):qC 17 [] (B v):=by
 obtain rfl:=Option.some.inj h;exact aiw
end Go.Proofs.YtfakoboiahbhaaaGreat.Ab


namespace Go.Proofs.YtfakoboiahbhaaaGreat.Ab
open Go
set_option maxRecDepth 20000
set_option maxHeartbeats 4000000
noncomputable def ZQ:eM :=
 FY [gO 1 [.hA 0] .box,gO 2 [.ij (.bool false)] .iH] (FY [Fu 3 1 1,FL 4 3,FK 5 4,Fm 6 5 14 .gtr,FO 2 6] .ret)
theorem aeF:yQ Tryz.prog Ub 16=some (ZQ,7,[.tmp 2]):=by kernel_rfl
def Nz (b:qn):Option Bool :=
 some (decide ((14:Int)<(b.2.length:Int)))
theorem aiR {b:qn} {v:Bool} (h:Nz b=some v):qC 16 [(.agg [(hG b.1),(.ax (b.2.flatMap p6) b.2.length .shared)])] (B v):=by
 refine qN dD aeF rfl rfl fun Q bz=>?_;have lj:qE [.tmp 2] Q (fun v=>(B v)) v:=fun T H bJ=>bz _ T H bJ;unfold Nz at h;unfold ZQ;conv=>whnf
 exact qj h lj rfl rfl

noncomputable def aax:eM :=
 FY [gO 4 [.ij (.bool false)] .iH] (FY [FN 5 0,FL 6 1,Fo 7 5 6 .lss,FO 8 7,dZ 9 [.hA 0] 8 false .iH,dZ 10 [.hD 2] 8 false (.px .one),dZ 11 [.hD 9,.hD 10] 8 false (.bin .gtr),gO 12 [.hD 8,.ij (.bool true),.hD 11] .pick,FO 4 12] .ret)
theorem afl:yQ Tryz.prog UC 93=some (aax,13,[.tmp 4]):=by kernel_rfl
def NR (n c0 a':Int):Option Bool :=
 if (decide (n<c0))=true then
  some true
 else
  some (decide (a'<n))
theorem aj9 {n:Int} {c0:Int} {a':Int} {v:Bool} (h:NR n c0 a'=some v):qC 93 [(hG n),(.bT [(hG c0)]),(.bT [(hG a')])] (B v):=by
 refine qN dD afl rfl rfl fun Q bz=>?_;have lj:qE [.tmp 4] Q (fun v=>(B v)) v:=fun T H bJ=>bz _ T H bJ;unfold NR at h;unfold aax;conv=>whnf
 refine bs h (fun eQ h=>?_) fun eQ h=>?_
 ·rw [eQ];conv=>whnf
  exact qj h lj rfl rfl
 ·rw [eQ];conv=>whnf
  exact qj h lj rfl rfl

noncomputable def aag:eM :=
 FY [gO 3 [.hA 0] .box,gO 4 [.hA 1] .box,gO 6 [.ij (.bool false)] .iH] (FY [FO 7 2,gO 8 [.hD 3,.hD 4] (.y6 93 0 2),gO 9 [.ij (.func 92 [] []),.sl 7,.sl 8] (.call 6),gO 10 [.hD 9] (.un .not),FO 6 10] .ret)
theorem ae5:yQ Tryz.prog Uq 66=some (aag,11,[.tmp 6]):=by kernel_rfl
def J2 (lo hi:Int) (l:qa):Option Bool :=
 (Js l (fun qR=>NR qR lo hi)).bind fun aR =>
 some (!aR)
theorem Pl {lo:Int} {hi:Int} {l:qa} {v:Bool} (h:J2 lo hi l=some v):qC 66 [(hG lo),(hG hi),(.ax (l.map hG) l.length .shared)] (B v):=by
 refine qN dD ae5 rfl rfl fun Q bz=>?_;have lj:qE [.tmp 6] Q (fun v=>(B v)) v:=fun T H bJ=>bz _ T H bJ;unfold J2 at h;unfold aag;conv=>whnf
 obtain ⟨aR,eQ,h⟩:=qi h;refine ⟨_,_,Hv (cs:=[(qq l .shared),(.func 93 [] [(.bT [(hG lo)]),(.bT [(hG hi)])])]) (bs:=[(qq l .shared),(.func 93 [] [(.bT [(hG lo)]),(.bT [(hG hi)])])]) (rp rfl (rp (I0 rT (rp (HF (cs:=[(hG lo)]) (by first | exact qs.h | rfl | (simp [List.getElem?_append,I.settle];done)) rfl) (rp (HF (cs:=[(hG hi)]) (by first | exact qs.h | rfl | (simp [List.getElem?_append,I.settle];done)) rfl) rT))) rT)) (by rfl) (by exact (p5 (rF (fun _=>rfl) _ _ _) (p5 (Ip rfl (p5 (q' (p5 rfl rfl)) (p5 (q' (p5 rfl rfl)) rfl))) rfl))) (Pt ⟨(p5 (q' (p5 rfl rfl)) (p5 (q' (p5 rfl rfl)) rfl)),by simp⟩ (fun _ _ aZ=>aj9 aZ) eQ) rfl,?_⟩
 conv=>whnf
 exact qj h lj rfl rfl

noncomputable def aal:eM :=
 FY [gO 2 [.hA 0] .box,gO 3 [.ij (.bool false)] .iH] (FY [Fu 4 1 0,FL 5 4,Fm 6 5 1 .sub,gO 7 [.sl 2] (.ov 0),FL 8 7,Fu 9 2 1,FL 10 9,gO 11 [.hD 8,.hD 10] (.xG 2 1 [.int .i64 0] [0,1]),gO 12 [.ij (.func 66 [] []),.ij (.int .i64 0),.sl 6,.sl 11] (.call 3),gO 13 [.hD 12] (.un .not),FO 3 13] .ret)
theorem ae_:yQ Tryz.prog Uu 71=some (aal,14,[.tmp 3]):=by kernel_rfl
def Pm (s:(Int×Int)) (c0:qn):Option Bool :=
 (J2 (0:Int) (w (c0.1-(1:Int))) [s.1,s.2]).bind fun aR =>
 some (!aR)
theorem ajK {s:(Int×Int)} {c0:qn} {v:Bool} (h:Pm s c0=some v):qC 71 [(.agg [(hG s.1),(hG s.2)]),(.bT [(hG c0.1),(.ax (c0.2.flatMap p6) c0.2.length .shared)])] (B v):=by
 refine qN dD ae_ rfl rfl fun Q bz=>?_;have lj:qE [.tmp 3] Q (fun v=>(B v)) v:=fun T H bJ=>bz _ T H bJ;unfold Pm at h;unfold aal;conv=>whnf
 obtain ⟨aR,eQ,h⟩:=qi h;refine ⟨(p5 rfl (p5 rfl (p5 rfl rfl))),_,Pl eQ,?_⟩;conv=>whnf
 exact qj h lj rfl rfl

noncomputable def P6:eM :=
 .loop (some (DX false [0,2,5,2,10])) (FY [gO 9 [.sl 8,.sl 7] (.bin .lss)] (.seq (.cond (.sl 9) .skip (.exit 0)) (.seq (.block 1 (FY [FN 10 8,FO 5 10] (FY [FN 11 1,FN 12 0,FN 13 5,FH 14 12 13 2,gO 15 [.hD 14] (.px (.str 2)),gO 16 [.sl 11,.sl 15] (.call 6)] (.cond (.sl 16) (FY [FO 17 5,FO 4 17] .ret) .skip)))) (FR [Fk 18 8 1,FO 8 18]))))
noncomputable def aaz:eM :=
 FY [FM 4 0] (.seq (FY [FN 6 0,FK 7 6,FM 8 0] (.block 0 P6)) (FY [FM 4 (-1)] .ret))
theorem afn:yQ Tryz.prog Qv 95=some (aaz,19,[.tmp 4]):=by kernel_rfl
def Lc (s:qe) (f:((Int×Int)→Option Bool)) (qh:Unit→Option Int):Nat→Int→Option Int
 | 0,_=>none
 | m+1,s1 =>
   if (decide (s1<(s.length:Int)))=true then
    qd (0≤s1∧s1<(s.length:Int)) <|
    (f (ix s s1)).bind fun aR =>
    if aR=true then
     some s1
    else
     Lc s f qh m (w (s1+(1:Int)))
   else
    qh ()
def Pv (s:qe) (f:((Int×Int)→Option Bool)):Option Int :=
 Lc s f (fun _ =>
   some (-1:Int)) p' (0:Int)
theorem akb {s:qe} {f:((Int×Int)→Option Bool)} {qh:Unit→Option Int} {s1:Int} {rQ:FuncId} {re:List I} (r6:sg re) (G4:∀ (qR:(Int×Int)) (r:Bool),f qR=some r→qC rQ ((.agg [(hG qR.1),(hG qR.2)])::re) (B r)) {v:Int} {Q:ra}   (lj:qE [.tmp 4] Q (fun v=>(hG v)) v) (rf:∀ (p_:List I),qh ()=some v→qV 19 [] p_→Q (.exit 0) p_ []) {T:List I} (bW:eL (DX false [0,2,5,2,10]) T=F2 19 [(0,(qf s .shared)),(1,(.func rQ [] re)),(7,(hG (s.length:Int))),(8,(hG s1))]) (h:Lc s f qh p' s1=some v) :
  dB Tryz.prog Qv 95 0 none P6 T [] Q:=by
 unfold P6;refine wp_loop bW ?_;refine .intro (fun m T H=>∃ (s1:Int),T=F2 19 [(0,(qf s .shared)),(1,(.func rQ [] re)),(7,(hG (s.length:Int))),(8,(hG s1))]∧H=[]∧Lc s f qh m s1=some v) p' ⟨s1,rfl,rfl,h⟩ ?_;clear h bW;rintro m T H ⟨s1,rfl,rfl,h⟩;cases m
 ·exact q3 h
 rename_i m;rw [Lc.eq_2] at h;conv=>whnf
 refine bs h (fun eQ h=>?_) fun eQ h=>?_
 ·rw [eQ];conv=>whnf
  refine qy h id fun fi h=>?_;rw [qQ p6 2 qz s s1 fi];conv=>whnf
  obtain ⟨aR,qu,h⟩:=qi h;refine ⟨_,_,call6 (bs:=((.agg [(hG (ix s s1).1),(hG (ix s s1).2)])::re)) (by simp only [List.map_cons,r6.h6,r6.cm];rfl) (by simp only [List.map_cons,r6.h6];exact (p5 (H8 (p5 rfl (p5 rfl rfl))) r6.Lk)) (G4 _ _ qu) rfl,?_⟩;conv=>whnf
  cases aR
  ·(conv=>whnf);replace h:=r5 rfl h;exact ⟨m,Nat.lt_succ_self m,(w (s1+(1:Int))),rfl,rfl,h⟩
  ·(conv=>whnf);replace h:=r4 rfl h;exact qj h lj rfl rfl
 ·rw [eQ];conv=>whnf
  exact rf  _ h ⟨rfl,rfl⟩
theorem akc {s:qe} {f:((Int×Int)→Option Bool)} {rQ:FuncId} {re:List I} (r6:sg re) (G4:∀ (qR:(Int×Int)) (r:Bool),f qR=some r→qC rQ ((.agg [(hG qR.1),(hG qR.2)])::re) (B r)) {v:Int} (h:Pv s f=some v):qC 95 [(.ax (s.flatMap p6) s.length .shared),(.func rQ [] re)] (hG v):=by
 refine qN dD afn rfl rfl fun Q bz=>?_;have lj:qE [.tmp 4] Q (fun v=>(hG v)) v:=fun T H bJ=>bz _ T H bJ;unfold Pv at h;unfold aaz;obtain ⟨Gi,qF⟩:∃ c,P6=c:=⟨_,rfl⟩;rw [qF];conv=>whnf
 subst qF;refine akb r6 G4 ?_ ?_ (by exact rfl) h
 ·exact fun T H bJ=>lj T H bJ
 ·intro  p_ h qt;obtain ⟨qT,rfl⟩:=qt.ex;conv=>whnf
  exact qj h lj rfl rfl

noncomputable def aam:eM :=
 FY [gO 4 [.ij (.bool false)] .iH] (FY [FO 5 0,FO 6 1,gO 7 [.ij (.func 95 [] []),.sl 5,.sl 6] (.call 6),Fm 8 7 0 .geq,FO 4 8] .ret)
theorem afa:yQ Tryz.prog Uv 72=some (aam,9,[.tmp 4]):=by kernel_rfl
def NN (s:qe) (f:((Int×Int)→Option Bool)):Option Bool :=
 (Pv s f).bind fun aR =>
 some (decide ((0:Int)≤aR))
theorem ajM {s:qe} {f:((Int×Int)→Option Bool)} {rQ:FuncId} {re:List I} (r6:sg re) (G4:∀ (qR:(Int×Int)) (r:Bool),f qR=some r→qC rQ ((.agg [(hG qR.1),(hG qR.2)])::re) (B r)) {v:Bool} (h:NN s f=some v):qC 72 [(.ax (s.flatMap p6) s.length .shared),(.func rQ [] re)] (B v):=by
 refine qN dD afa rfl rfl fun Q bz=>?_;have lj:qE [.tmp 4] Q (fun v=>(B v)) v:=fun T H bJ=>bz _ T H bJ;unfold NN at h;unfold aam;conv=>whnf
 obtain ⟨aR,eQ,h⟩:=qi h;refine ⟨_,_,Hv (cs:=[(qf s .shared),(.func rQ [] re)]) (bs:=[(qf s .shared),(.func rQ [] re)]) (rp rfl (rp (r6.fn _ _) rT)) (by rfl) (by exact (p5 (q4 (fun _=>(p5 rfl (p5 rfl rfl))) _ _ _) (p5 (r6.M4 _) rfl))) (akc r6 G4 eQ) rfl,?_⟩;conv=>whnf
 exact qj h lj rfl rfl

noncomputable def ZT:eM :=
 FY [gO 1 [.hA 0] .box,FM 2 0] (FY [gO 4 [.sl 1] (.y6 71 0 1),FO 3 4] (.seq (.block 0 (FY [gO 6 [.sl 1] (.ov 0),FL 7 6,gO 8 [.hD 7] (.xG 1 1 [.int .i64 0] [0]),gO 9 [.ij (.func 66 [] []),.ij (.int .i64 1),.ij (.int .i64 6),.sl 8] (.call 3),gO 10 [.hD 9] (.un .not),FO 11 10,dZ 12 [.sl 1] 11 false (.ov 1),dZ 13 [.hD 12] 11 false (.px .one),dZ 14 [.hA 13] 11 false .pz,dZ 15 [.hD 14,.ij (.int .i64 10)] 11 false (.bin .gtr),gO 16 [.hD 11,.ij (.bool true),.hD 15] .pick,FO 5 16] (.cond (.sl 5) (FY [FM 2 6] .ret) (FY [Fu 18 1 1,FL 19 18,FO 20 3,gO 21 [.ij (.func 72 [] []),.sl 19,.sl 20] (.call 6),FO 17 21] (.cond (.sl 17) (FY [FM 2 3] .ret) .skip))))) (FY [FM 2 0] .ret)))
theorem aeI:yQ Tryz.prog Uc 20=some (ZT,22,[.tmp 2]):=by kernel_rfl
def LZ (b:qn):Option Int :=
 (J2 (1:Int) (6:Int) [b.1]).bind fun aR =>
 if aR=true then
  if (decide ((10:Int)<(b.2.length:Int)))=true then
   some (6:Int)
  else
   (NN b.2 (fun qR=>Pm qR b)).bind fun r2 =>
   if r2=true then
    some (3:Int)
   else
    some (0:Int)
 else
  some (6:Int)
theorem ai0 {b:qn} {v:Int} (h:LZ b=some v):qC 20 [(.agg [(hG b.1),(.ax (b.2.flatMap p6) b.2.length .shared)])] (hG v):=by
 refine qN dD aeI rfl rfl fun Q bz=>?_;have lj:qE [.tmp 2] Q (fun v=>(hG v)) v:=fun T H bJ=>bz _ T H bJ;unfold LZ at h;unfold ZT;conv=>whnf
 obtain ⟨aR,eQ,h⟩:=qi h;refine ⟨(p5 rfl (p5 rfl (p5 rfl rfl))),_,Pl eQ,?_⟩;conv=>whnf
 cases aR
 ·conv=>whnf
  replace h:=r5 rfl h;exact qj h lj rfl rfl
 ·conv=>whnf
  replace h:=r4 rfl h;refine bs h (fun fi h=>?_) fun fi h=>?_
  ·rw [fi];(conv=>whnf);exact qj h lj rfl rfl
  ·rw [fi];(conv=>whnf);obtain ⟨r2,qu,h⟩:=qi h;refine ⟨_,_,Hv (cs:=[(qf b.2 .shared),(.func 71 [] [(.bT [(hG b.1),(qf b.2 .shared)])])]) (bs:=[(qf b.2 .shared),(.func 71 [] [(.bT [(hG b.1),(qf b.2 .shared)])])]) (rp rfl (rp (I0 rT (rp (HF (cs:=[(hG b.1),(qf b.2 .shared)]) (by first | exact qs.h | rfl | (simp [List.getElem?_append,I.settle];done)) rfl) rT)) rT)) (by rfl) (by exact (p5 (q4 (fun _=>(p5 rfl (p5 rfl rfl))) _ _ _) (p5 (Ip rfl (p5 (q' (p5 rfl (p5 (q4 (fun _=>(p5 rfl (p5 rfl rfl))) _ _ _) rfl))) rfl)) rfl))) (ajM ⟨(p5 (q' (p5 rfl (p5 (q4 (fun _=>(p5 rfl (p5 rfl rfl))) _ _ _) rfl))) rfl),by simp⟩ (fun _ _ aZ=>ajK aZ) qu) rfl,?_⟩
   (conv=>whnf);cases r2
   ·(conv=>whnf);replace h:=r5 rfl h;exact qj h lj rfl rfl
   ·(conv=>whnf);replace h:=r4 rfl h;exact qj h lj rfl rfl

def P7 (x:qn):List I:=[(hG x.1),(qf x.2 .shared)]
instance {d:Nat} {x:qn}:qm (d+2) (P7 x):=⟨(inferInstance:qm (d+2) [(hG x.1),(qf x.2 .shared)]).pl⟩
noncomputable def aae:eM :=
 FY [gO 1 [.hA 0] .box,gO 2 [.ij .eu] .iH,FM 3 0] (.seq (FY [gO 5 [.sl 1] (.px (.str 2)),gO 6 [.ij (.func 20 [] []),.sl 5] (.call 3),FO 4 6] (FY [FN 7 4,Fm 8 7 0 .neq] (.cond (.sl 8) (FY [FO 9 4,gO 2 [.ij .eu] .iH,FO 3 9] .ret) .skip))) (FY [gO 10 [.hD 1] (.px (.str 2)),gO 11 [.hD 10] (.build [.int .i64 0,.ax [] 0 .full] [(0,2)]),gO 12 [.hA 11] .xE,FO 2 12,FM 3 0] .ret))
theorem ae3:yQ Tryz.prog Uo 64=some (aae,13,[.tmp 2,.tmp 3]):=by kernel_rfl
def Iw (b:qn):Option ((Option qn)×Int) :=
 (LZ b).bind fun aR =>
 if (decide (aR≠(0:Int)))=true then
  some (none,aR)
 else
  some ((some b),(0:Int))
theorem J1 {b:qn} {v:((Option qn)×Int)} (h:Iw b=some v):qC 64 [(.agg [(hG b.1),(.ax (b.2.flatMap p6) b.2.length .shared)])] (.tuple [(OJ P7 v.1),(hG v.2)]):=by
 refine qN dD ae3 rfl (HX (p5 (WD (fun _=>(p5 rfl (p5 (q4 (fun _=>(p5 rfl (p5 rfl rfl))) _ _ _) rfl))) _) (p5 rfl rfl))) fun Q bz=>?_;have lj:qE [.tmp 2,.tmp 3] Q (fun v=>(.tuple [(OJ P7 v.1),(hG v.2)])) v:=fun T H bJ=>bz _ T H bJ;unfold Iw at h;unfold aae;conv=>whnf
 obtain ⟨aR,eQ,h⟩:=qi h;refine ⟨qm.pl,_,ai0 eQ,?_⟩;conv=>whnf
 refine bs h (fun fi h=>?_) fun fi h=>?_
 ·rw [fi];conv=>whnf
  exact qj h lj rfl rfl
 ·rw [fi];conv=>whnf
  refine ⟨rfl,?_⟩;conv=>whnf
  exact qj h lj rfl rfl

noncomputable def aaf:eM :=
 FY [gO 2 [.hA 0] .box,gO 3 [.ij (.bool false)] .iH] (FY [Fu 4 1 1,FL 5 4,FK 6 5,Fm 7 6 1 .sub,gO 8 [.sl 2] (.ov 0),FL 9 8,gO 10 [.hD 9] (.xG 1 1 [.int .i64 0] [0]),gO 11 [.ij (.func 66 [] []),.ij (.int .i64 0),.sl 7,.sl 10] (.call 3),gO 12 [.hD 11] (.un .not),FO 13 12,dZ 14 [.hD 2] 13 false (.ov 1),dZ 15 [.hD 14] 13 false (.px .one),⟨some 16,[.hD 15],some (13,false),none,.xG 1 1 [.int .i64 0] [0]⟩,⟨some 17,[.ij (.func 66 [] []),.ij (.int .i64 0),.ij (.int .i64 1),.sl 16],some (13,false),none,.call 3⟩,dZ 18 [.hD 17] 13 false (.un .not),gO 19 [.hD 13,.ij (.bool true),.hD 18] .pick,FO 3 19] .ret)
theorem ae4:yQ Tryz.prog Up 65=some (aaf,20,[.tmp 3]):=by kernel_rfl
def L7 (p:(Int×Int)) (c0:qn):Option Bool :=
 (J2 (0:Int) (w ((c0.2.length:Int)-(1:Int))) [p.1]).bind fun aR =>
 if aR=true then
  (J2 (0:Int) (1:Int) [p.2]).bind fun r2 =>
  some (!r2)
 else
  some true
theorem Zg {p:(Int×Int)} {c0:qn} {v:Bool} (h:L7 p c0=some v):qC 65 [(.agg [(hG p.1),(hG p.2)]),(.bT [(hG c0.1),(.ax (c0.2.flatMap p6) c0.2.length .shared)])] (B v):=by
 refine qN dD ae4 rfl rfl fun Q bz=>?_;have lj:qE [.tmp 3] Q (fun v=>(B v)) v:=fun T H bJ=>bz _ T H bJ;unfold L7 at h;unfold aaf;conv=>whnf
 obtain ⟨aR,eQ,h⟩:=qi h;refine ⟨(p5 rfl (p5 rfl (p5 rfl rfl))),_,Pl eQ,?_⟩;conv=>whnf
 cases aR
 ·conv=>whnf
  replace h:=r5 rfl h;exact qj h lj rfl rfl
 ·conv=>whnf
  replace h:=r4 rfl h;obtain ⟨r2,fi,h⟩:=qi h;refine ⟨(p5 rfl (p5 rfl (p5 rfl rfl))),_,Pl fi,?_⟩;conv=>whnf
  exact qj h lj rfl rfl

noncomputable def P5:eM :=
 .loop (some (DX false [0,2,5,2,10])) (FY [gO 9 [.sl 8,.sl 7] (.bin .lss)] (.seq (.cond (.sl 9) .skip (.exit 0)) (.seq (.block 1 (FY [FN 10 8,FO 5 10] (FY [FN 11 1,FN 12 0,FN 13 5,FH 14 12 13 2,gO 15 [.hD 14] (.px (.str 2)),gO 16 [.sl 11,.sl 15] (.call 6)] (.cond (.sl 16) (FY [FO 17 5,FO 4 17] .ret) .skip)))) (FR [Fk 18 8 1,FO 8 18]))))
noncomputable def aay:eM :=
 FY [FM 4 0] (.seq (FY [FN 6 0,FK 7 6,FM 8 0] (.block 0 P5)) (FY [FM 4 (-1)] .ret))
theorem afm:yQ Tryz.prog Qu 94=some (aay,19,[.tmp 4]):=by kernel_rfl
def Lb (s:qe) (f:((Int×Int)→Option Bool)) (qh:Unit→Option Int):Nat→Int→Option Int
 | 0,_=>none
 | m+1,s1 =>
   if (decide (s1<(s.length:Int)))=true then
    qd (0≤s1∧s1<(s.length:Int)) <|
    (f (ix s s1)).bind fun aR =>
    if aR=true then
     some s1
    else
     Lb s f qh m (w (s1+(1:Int)))
   else
    qh ()
def J_ (s:qe) (f:((Int×Int)→Option Bool)):Option Int :=
 Lb s f (fun _ =>
   some (-1:Int)) p' (0:Int)
theorem aka {s:qe} {f:((Int×Int)→Option Bool)} {qh:Unit→Option Int} {s1:Int} {rQ:FuncId} {re:List I} (r6:sg re) (G4:∀ (qR:(Int×Int)) (r:Bool),f qR=some r→qC rQ ((.agg [(hG qR.1),(hG qR.2)])::re) (B r)) {v:Int} {Q:ra}   (lj:qE [.tmp 4] Q (fun v=>(hG v)) v) (rf:∀ (p_:List I),qh ()=some v→qV 19 [] p_→Q (.exit 0) p_ []) {T:List I} (bW:eL (DX false [0,2,5,2,10]) T=F2 19 [(0,(qf s .shared)),(1,(.func rQ [] re)),(7,(hG (s.length:Int))),(8,(hG s1))]) (h:Lb s f qh p' s1=some v) :
  dB Tryz.prog Qu 94 0 none P5 T [] Q:=by
 unfold P5;refine wp_loop bW ?_;refine .intro (fun m T H=>∃ (s1:Int),T=F2 19 [(0,(qf s .shared)),(1,(.func rQ [] re)),(7,(hG (s.length:Int))),(8,(hG s1))]∧H=[]∧Lb s f qh m s1=some v) p' ⟨s1,rfl,rfl,h⟩ ?_;clear h bW;rintro m T H ⟨s1,rfl,rfl,h⟩;cases m
 ·exact q3 h
 rename_i m;rw [Lb.eq_2] at h;conv=>whnf
 refine bs h (fun eQ h=>?_) fun eQ h=>?_
 ·rw [eQ];conv=>whnf
  refine qy h id fun fi h=>?_;rw [qQ p6 2 qz s s1 fi];conv=>whnf
  obtain ⟨aR,qu,h⟩:=qi h;refine ⟨_,_,call6 (bs:=((.agg [(hG (ix s s1).1),(hG (ix s s1).2)])::re)) (by simp only [List.map_cons,r6.h6,r6.cm];rfl) (by simp only [List.map_cons,r6.h6];exact (p5 (H8 (p5 rfl (p5 rfl rfl))) r6.Lk)) (G4 _ _ qu) rfl,?_⟩;conv=>whnf
  cases aR
  ·(conv=>whnf);replace h:=r5 rfl h;exact ⟨m,Nat.lt_succ_self m,(w (s1+(1:Int))),rfl,rfl,h⟩
  ·(conv=>whnf);replace h:=r4 rfl h;exact qj h lj rfl rfl
 ·rw [eQ];conv=>whnf
  exact rf  _ h ⟨rfl,rfl⟩
theorem Pu {s:qe} {f:((Int×Int)→Option Bool)} {rQ:FuncId} {re:List I} (r6:sg re) (G4:∀ (qR:(Int×Int)) (r:Bool),f qR=some r→qC rQ ((.agg [(hG qR.1),(hG qR.2)])::re) (B r)) {v:Int} (h:J_ s f=some v):qC 94 [(.ax (s.flatMap p6) s.length .shared),(.func rQ [] re)] (hG v):=by
 refine qN dD afm rfl rfl fun Q bz=>?_;have lj:qE [.tmp 4] Q (fun v=>(hG v)) v:=fun T H bJ=>bz _ T H bJ;unfold J_ at h;unfold aay;obtain ⟨Gi,qF⟩:∃ c,P5=c:=⟨_,rfl⟩;rw [qF];conv=>whnf
 subst qF;refine aka r6 G4 ?_ ?_ (by exact rfl) h
 ·exact fun T H bJ=>lj T H bJ
 ·intro  p_ h qt;obtain ⟨qT,rfl⟩:=qt.ex;conv=>whnf
  exact qj h lj rfl rfl

noncomputable def aah:eM :=
 FY [gO 4 [.ij (.bool false)] .iH] (FY [FO 5 0,FO 6 1,gO 7 [.ij (.func 94 [] []),.sl 5,.sl 6] (.call 6),Fm 8 7 0 .geq,FO 4 8] .ret)
theorem ae6:yQ Tryz.prog Ur 67=some (aah,9,[.tmp 4]):=by kernel_rfl
def L8 (s:qe) (f:((Int×Int)→Option Bool)):Option Bool :=
 (J_ s f).bind fun aR =>
 some (decide ((0:Int)≤aR))
theorem Zh {s:qe} {f:((Int×Int)→Option Bool)} {rQ:FuncId} {re:List I} (r6:sg re) (G4:∀ (qR:(Int×Int)) (r:Bool),f qR=some r→qC rQ ((.agg [(hG qR.1),(hG qR.2)])::re) (B r)) {v:Bool} (h:L8 s f=some v):qC 67 [(.ax (s.flatMap p6) s.length .shared),(.func rQ [] re)] (B v):=by
 refine qN dD ae6 rfl rfl fun Q bz=>?_;have lj:qE [.tmp 4] Q (fun v=>(B v)) v:=fun T H bJ=>bz _ T H bJ;unfold L8 at h;unfold aah;conv=>whnf
 obtain ⟨aR,eQ,h⟩:=qi h;refine ⟨_,_,Hv (cs:=[(qf s .shared),(.func rQ [] re)]) (bs:=[(qf s .shared),(.func rQ [] re)]) (rp rfl (rp (r6.fn _ _) rT)) (by rfl) (by exact (p5 (q4 (fun _=>(p5 rfl (p5 rfl rfl))) _ _ _) (p5 (r6.M4 _) rfl))) (Pu r6 G4 eQ) rfl,?_⟩;conv=>whnf
 exact qj h lj rfl rfl

noncomputable def Ma:eM :=
 .loop (some (DX false [1,1,5,1,2,1,28,3,40])) (FY [gO 42 [.sl 41,.sl 40] (.bin .lss)] (.seq (.cond (.sl 42) .skip (.exit 1)) (.seq (.block 2 (FY [gO 43 [.sl 39,.sl 41] (.pq 2),gO 44 [.hD 43] (.px (.str 2)),gO 12 [] (.alloc [.int .i64 0,.int .i64 0]),⟨none,[.sl 12,.hA 44],none,none,.st 2⟩] (.seq (FY [gO 45 [.sl 12] (.ov 0),FL 46 45,gO 47 [.sl 10,.hD 46] (.yC 10 1),FL 48 47,Fm 49 48 0 .gtr] (.cond (.sl 49) (FY [FM 4 0,FM 5 0,FM 6 11] .ret) .skip)) (FR [Fu 50 12 0,FL 51 50,gO 52 [.sl 10,.hD 51] (.yC 10 1),⟨none,[.hA 52,.ij (.int .i64 1)],none,none,.st 1⟩])))) (FR [Fk 53 41 1,FO 41 53]))))
noncomputable def PC:eM :=
 .loop (some (DX false [7,1,5,1,1,1,47,3,16])) (FY [gO 66 [.sl 65,.sl 64] (.bin .lss)] (.seq (.cond (.sl 66) .skip (.exit 3)) (.seq (.block 4 (FY [gO 67 [.sl 63,.sl 65] (.pq 2),gO 68 [.hD 67] (.px (.str 2)),gO 17 [] (.alloc [.int .i64 0,.int .i64 0]),⟨none,[.sl 17,.hA 68],none,none,.st 2⟩] (FY [FN 70 7,gO 71 [.hD 17] (.px (.str 2)),gO 72 [.ij (.func 68 [] []),.sl 70,.sl 71] (.call 3),FO 69 72,F5 73 69 0,gO 74 [.hD 69] (.ext 1),FO 18 73,FO 19 74] (.seq (FY [FO 75 18,FO 76 15,Fo 77 75 76 .neq] (.cond (.sl 77) (FY [FM 4 0,FM 5 0,FM 6 27] .ret) .skip)) (FR [FO 78 19,FO 15 78]))))) (FR [Fk 79 65 1,FO 65 79]))))
noncomputable def ZR:eM :=
 FY [gO 2 [.hA 0] .box, FM 4 0, FM 5 0, FM 6 0] (FY [gO 21 [.sl 2] (.px (.str 2)), gO 22 [.ij (.func 64 [] []), .sl 21] (.call 3), FO 20 22, F5 23 20 0, gO 24 [.hD 20] (.ext 1), FO 7 23, FO 8 24] (FY [gO 25 [.hD 2] (.y6 65 0 1), FO 9 25] (.seq (.block 0 (FY [FN 27 8, Fm 28 27 0 .neq, FO 26 28] (.cond (.sl 26) (FY [FO 29 8, FM 4 0, FM 5 0, FO 6 29] .ret) (FY [FN 31 1, FK 32 31, Fm 33 32 0 .eql, FO 30 33] (.cond (.sl 30) (FY [FM 4 0, FM 5 0, FM 6 6] .ret) (FY [FN 35 1, FO 36 9, gO 37 [.ij (.func 67 [] []), .sl 35, .sl 36] (.call 6), FO 34 37] (.cond (.sl 34) (FY [FM 4 0, FM 5 0, FM 6 3] .ret) .skip))))))) (FY [gO 10 [] (.alloc [.int .i64 0, .int .i64 0, .int .i64 0, .int .i64 0, .int .i64 0, .int .i64 0, .int .i64 0, .int .i64 0, .int .i64 0, .int .i64 0])] (FY [gO 38 [.sl 10] (.other (Oper.mk (some 38) (Op.slice 89 (Operand.tmp 10) none none none) 38 "match.go:50" (Array.mk []) none) 0), ⟨none, [.hA 38], none, none, .other (Oper.mk none (Op.call (Call.mk (Callee.builtin Builtin.clear) (Array.mk [Operand.tmp 38]) (Array.mk [38]))) 0 "match.go:50" (Array.mk [Edge.mk 0 Ground.data]) none) 0⟩] (.seq (FY [FN 39 1, gO 40 [.sl 39] .pz, FM 41 0] (.block 1 Ma)) (FY [FN 55 7, FN 56 1, gO 57 [.hD 56, .ij (.int .i64 0)] (.pq 2), gO 58 [.hD 57] (.px (.str 2)), gO 59 [.ij (.func 68 [] []), .sl 55, .sl 58] (.call 3), FO 54 59, F5 60 54 0, gO 61 [.hD 54] (.ext 1), FO 13 60, FO 14 61] (FY [FN 62 13, FO 15 62] (.seq (FY [FO 63 1, gO 64 [.sl 63] .pz, FM 65 0] (.block 3 PC)) (FY [FO 80 13, FO 81 15, FO 4 80, FO 5 81, FM 6 0] .ret))))))))))
theorem aeG:yQ Tryz.prog Mn 18=some (ZR,82,[.tmp 4,.tmp 5,.tmp 6]):=by kernel_rfl
def NA (row:qe) (qh:Unit→Option (Int×Int×Int)):Nat→Int→qa→Option (Int×Int×Int)
 | 0,_,_=>none
 | m+1,s1,s2 =>
   if (decide (s1<(row.length:Int)))=true then
    qd (0≤s1∧s1<(row.length:Int)) <|
    qd (0≤(ix row s1).1∧(ix row s1).1<(10:Int)∧10=s2.length) <|
    if (decide ((0:Int)<(ix s2 ((ix row s1).1))))=true then
     some ((0:Int),(0:Int),(11:Int))
    else
     qd (0≤(ix row s1).1∧(ix row s1).1<(10:Int)∧10=s2.length) <|
     NA row qh m (w (s1+(1:Int))) (s2.set ((ix row s1).1).toNat (1:Int))
   else
    qh ()
def KJ (row:qe) (qK:Unit→Option (Int×Int×Int)):Nat→Int→qa→Option (Int×Int×Int)
 | 0,_,_=>none
 | m+1,nL,qk =>
   if (decide (nL<(row.length:Int)))=true then
    qd (0≤nL∧nL<(row.length:Int)) <|
    qd (0≤(ix row nL).1∧(ix row nL).1<(10:Int)∧10=qk.length) <|
    if (decide ((0:Int)<(ix qk ((ix row nL).1))))=true then
     some ((0:Int),(0:Int),(11:Int))
    else
     qd (0≤(ix row nL).1∧(ix row nL).1<(10:Int)∧10=qk.length) <|
     KJ row qK m (w (nL+(1:Int))) (qk.set ((ix row nL).1).toNat (1:Int))
   else
    qK ()
def KK (row:qe) (bP:qn) (q5:Int→Option (Int×Int×Int)):Nat→Int→Int→Option (Int×Int×Int)
 | 0,_,_=>none
 | m+1,qc,qw =>
   if (decide (qw<(row.length:Int)))=true then
    qd (0≤qw∧qw<(row.length:Int)) <|
    (J3 bP (ix row qw)).bind fun q6 =>
    if (decide (q6.1≠qc))=true then
     some ((0:Int),(0:Int),(27:Int))
    else
     KK row bP q5 m q6.2 (w (qw+(1:Int)))
   else
    q5 qc
def LY (b:qn) (row:qe):Option (Int×Int×Int) :=
 (Iw b).bind fun aR =>
 match aR with
 | (none,aW) =>
   if (decide (aW≠(0:Int)))=true then
    some ((0:Int),(0:Int),aW)
   else
    if (decide ((row.length:Int)=(0:Int)))=true then
     some ((0:Int),(0:Int),(6:Int))
    else
     (L8 row (fun qR=>L7 qR b)).bind fun r2 =>
     if r2=true then
      some ((0:Int),(0:Int),(3:Int))
     else
      qd ((List.replicate 10 (0:Int)).length=10) <|
      NA row (fun _ =>
        qd (0≤(0:Int)∧(0:Int)<(row.length:Int)) <|
        none) p' (0:Int) (List.replicate 10 (0:Int))
 | (some bP,aW) =>
   if (decide (aW≠(0:Int)))=true then
    some ((0:Int),(0:Int),aW)
   else
    if (decide ((row.length:Int)=(0:Int)))=true then
     some ((0:Int),(0:Int),(6:Int))
    else
     (L8 row (fun qR=>L7 qR b)).bind fun ew =>
     if ew=true then
      some ((0:Int),(0:Int),(3:Int))
     else
      qd ((List.replicate 10 (0:Int)).length=10) <|
      KJ row (fun _ =>
        qd (0≤(0:Int)∧(0:Int)<(row.length:Int)) <|
        (J3 bP (ix row (0:Int))).bind fun qH =>
        KK row bP (fun xt =>
          some (qH.1,xt,(0:Int))) p' qH.1 (0:Int)) p' (0:Int) (List.replicate 10 (0:Int))
theorem aiT {row:qe} {qh:Unit→Option (Int×Int×Int)} {s1:Int} {s2:qa} {v:(Int×Int×Int)} {Q:ra} {bC:au}  (lj:qE [.tmp 4,.tmp 5,.tmp 6] Q (fun v=>(.tuple [(hG v.1),(hG v.2.1),(hG v.2.2)])) v) (rf:∀ (bO:au) (qO:List au) (p_:List I),qh ()=some v→qV 82 [(1,(qf row .shared)),(7,.eu)] p_→Q (.exit 1) p_ (bC::bO::qO)) {T:List I} (bW:eL (DX false [1,1,5,1,2,1,28,3,40]) T=F2 82 [(1,(qf row .shared)),(7,.eu),(10,(.ptr 1 0)),(39,(qf row .shared)),(40,(hG (row.length:Int))),(41,(hG s1))]) (h:NA row qh p' s1 s2=some v) :
  dB Tryz.prog Mn 18 0 none Ma T [bC,au.cells (s2.map hG)] Q:=by
 unfold Ma;refine wp_loop bW ?_;refine .intro (fun m T H=>∃ (s1:Int) (s2:qa) (Ml:List au),T=F2 82 [(1,(qf row .shared)),(7,.eu),(10,(.ptr 1 0)),(39,(qf row .shared)),(40,(hG (row.length:Int))),(41,(hG s1))]∧H=(bC::au.cells (s2.map hG)::Ml)∧NA row qh m s1 s2=some v) p' ⟨s1,s2,[],rfl,rfl,h⟩ ?_;clear h bW;rintro m T H ⟨s1,s2,Ml,rfl,rfl,h⟩;cases m
 ·exact q3 h
 rename_i m;rw [NA.eq_2] at h;conv=>whnf
 refine bs h (fun q7 h=>?_) fun q7 h=>?_
 ·rw [q7];conv=>whnf
  refine qy h id fun qM h=>?_;rw [qQ p6 2 qz row s1 qM];conv=>whnf
  refine Dj (x:=au.cells [(hG (0:Int)),(hG (0:Int))]) (by first | exact qs.h | rfl | (simp [List.getElem?_append,I.settle];done)) ?_
  conv=>whnf
  rw [rK];refine Dj (x:=au.cells [(hG (ix row s1).1),(hG (ix row s1).2)]) (by first | exact qs.h | rfl | (simp [List.getElem?_append,I.settle];done)) ?_
  conv=>whnf
  obtain ⟨qI,h⟩:=qD h;refine ⟨⟨qI.1,qI.2.1⟩,?_⟩;replace qI:0≤(ix row s1).1∧(ix row s1).1<(s2.length:Int):=⟨qI.1,by have:=qI.2;omega⟩;conv=>whnf
  refine JP hG s2 ((ix row s1).1) qI ?_;conv=>whnf
  refine bs h (fun rh h=>?_) fun rh h=>?_
  ·rw [rh];(conv=>whnf);exact qj h lj rfl rfl
  ·rw [rh];(conv=>whnf);refine Dj (x:=au.cells [(hG (ix row s1).1),(hG (ix row s1).2)]) (by first | exact qs.h | rfl | (simp [List.getElem?_append,I.settle];done)) ?_
   (conv=>whnf);obtain ⟨qS,h⟩:=qD h;refine ⟨⟨qS.1,qS.2.1⟩,?_⟩;replace qS:0≤(ix row s1).1∧(ix row s1).1<(s2.length:Int):=⟨qS.1,by have:=qS.2;omega⟩;(conv=>whnf);refine JT hG s2 ((ix row s1).1) (1:Int) qS ?_;(conv=>whnf);exact ⟨m,Nat.lt_succ_self m,(w (s1+(1:Int))),(s2.set ((ix row s1).1).toNat (1:Int)),_,rfl,rfl,h⟩
 ·rw [q7];conv=>whnf
  exact rf _ _ _ h ⟨rfl,rfl⟩
theorem aiU {row:qe} {qK:Unit→Option (Int×Int×Int)} {nL:Int} {qk:qa} {bP:qn} {v:(Int×Int×Int)} {Q:ra} {bC:au}  (lj:qE [.tmp 4,.tmp 5,.tmp 6] Q (fun v=>(.tuple [(hG v.1),(hG v.2.1),(hG v.2.2)])) v) (GL:∀ (hY:au) (qO:List au) (p_:List I),qK ()=some v→qV 82 [(1,(qf row .shared)),(7,(.bT [(hG bP.1),(qf bP.2 .shared)]))] p_→Q (.exit 1) p_ (bC::hY::qO)) {T:List I} (bW:eL (DX false [1,1,5,1,2,1,28,3,40]) T=F2 82 [(1,(qf row .shared)),(7,(.bT [(hG bP.1),(qf bP.2 .shared)])),(10,(.ptr 1 0)),(39,(qf row .shared)),(40,(hG (row.length:Int))),(41,(hG nL))]) (h:KJ row qK p' nL qk=some v) :
  dB Tryz.prog Mn 18 0 none Ma T [bC,au.cells (qk.map hG)] Q:=by
 unfold Ma;refine wp_loop bW ?_;refine .intro (fun m T H=>∃ (nL:Int) (qk:qa) (Ml:List au),T=F2 82 [(1,(qf row .shared)),(7,(.bT [(hG bP.1),(qf bP.2 .shared)])),(10,(.ptr 1 0)),(39,(qf row .shared)),(40,(hG (row.length:Int))),(41,(hG nL))]∧H=(bC::au.cells (qk.map hG)::Ml)∧KJ row qK m nL qk=some v) p' ⟨nL,qk,[],rfl,rfl,h⟩ ?_;clear h bW;rintro m T H ⟨nL,qk,Ml,rfl,rfl,h⟩;cases m
 ·exact q3 h
 rename_i m;rw [KJ.eq_2] at h;conv=>whnf
 refine bs h (fun r8 h=>?_) fun r8 h=>?_
 ·rw [r8];conv=>whnf
  refine qy h id fun rI h=>?_;rw [qQ p6 2 qz row nL rI];conv=>whnf
  refine Dj (x:=au.cells [(hG (0:Int)),(hG (0:Int))]) (by first | exact qs.h | rfl | (simp [List.getElem?_append,I.settle];done)) ?_
  conv=>whnf
  rw [rK];refine Dj (x:=au.cells [(hG (ix row nL).1),(hG (ix row nL).2)]) (by first | exact qs.h | rfl | (simp [List.getElem?_append,I.settle];done)) ?_
  conv=>whnf
  obtain ⟨rZ,h⟩:=qD h;refine ⟨⟨rZ.1,rZ.2.1⟩,?_⟩;replace rZ:0≤(ix row nL).1∧(ix row nL).1<(qk.length:Int):=⟨rZ.1,by have:=rZ.2;omega⟩;conv=>whnf
  refine JP hG qk ((ix row nL).1) rZ ?_;conv=>whnf
  refine bs h (fun r0 h=>?_) fun r0 h=>?_
  ·rw [r0];(conv=>whnf);exact qj h lj rfl rfl
  ·rw [r0];(conv=>whnf);refine Dj (x:=au.cells [(hG (ix row nL).1),(hG (ix row nL).2)]) (by first | exact qs.h | rfl | (simp [List.getElem?_append,I.settle];done)) ?_
   (conv=>whnf);obtain ⟨si,h⟩:=qD h;refine ⟨⟨si.1,si.2.1⟩,?_⟩;replace si:0≤(ix row nL).1∧(ix row nL).1<(qk.length:Int):=⟨si.1,by have:=si.2;omega⟩;(conv=>whnf);refine JT hG qk ((ix row nL).1) (1:Int) si ?_;(conv=>whnf);exact ⟨m,Nat.lt_succ_self m,(w (nL+(1:Int))),(qk.set ((ix row nL).1).toNat (1:Int)),_,rfl,rfl,h⟩
 ·rw [r8];conv=>whnf
  exact GL _ _ _ h ⟨rfl,rfl⟩
theorem aiV {row:qe} {bP:qn} {q5:Int→Option (Int×Int×Int)} {qc:Int} {qw:Int} {qH:(Int×Int)} {v:(Int×Int×Int)} {Q:ra} {bC:au} {hY:au} {qO:List au} (lj:qE [.tmp 4,.tmp 5,.tmp 6] Q (fun v=>(.tuple [(hG v.1),(hG v.2.1),(hG v.2.2)])) v) (Hn:∀ (xt:Int) (qO:List au) (p_:List I),q5 xt=some v→qV 82 [(13,(hG qH.1)),(15,(hG xt))] p_→Q (.exit 3) p_ (bC::hY::qO)) {T:List I} (bW:eL (DX false [7,1,5,1,1,1,47,3,16]) T=F2 82 [(7,(.bT [(hG bP.1),(qf bP.2 .shared)])),(13,(hG qH.1)),(15,(hG qc)),(63,(qf row .shared)),(64,(hG (row.length:Int))),(65,(hG qw))]) (h:KK row bP q5 p' qc qw=some v) :
  dB Tryz.prog Mn 18 0 none PC T (bC::hY::qO) Q:=by
 unfold PC;refine wp_loop bW ?_;refine .intro (fun m T H=>∃ (qc qw:Int) (TQ:List au),T=F2 82 [(7,(.bT [(hG bP.1),(qf bP.2 .shared)])),(13,(hG qH.1)),(15,(hG qc)),(63,(qf row .shared)),(64,(hG (row.length:Int))),(65,(hG qw))]∧H=(bC::hY::TQ)∧KK row bP q5 m qc qw=some v) p' ⟨qc,qw,qO,rfl,rfl,h⟩ ?_;clear h bW;rintro m T H ⟨qc,qw,TQ,rfl,rfl,h⟩;cases m
 ·exact q3 h
 rename_i m;rw [KK.eq_2] at h;conv=>whnf
 refine bs h (fun GI h=>?_) fun GI h=>?_
 ·rw [GI];conv=>whnf
  refine qy h id fun GQ h=>?_;rw [qQ p6 2 qz row qw GQ];conv=>whnf
  refine Dj (x:=au.cells [(hG (0:Int)),(hG (0:Int))]) (by first | exact qs.h | rfl | (simp [List.getElem?_append,I.settle];done)) ?_
  conv=>whnf
  rw [rK];refine Dj (x:=au.cells [(hG (ix row qw).1),(hG (ix row qw).2)]) (by first | exact qs.h | rfl | (simp [List.getElem?_append,I.settle];done)) ?_
  conv=>whnf
  obtain ⟨q6,H5,h⟩:=qi h;refine ⟨qm.pl,_,I3 H5,?_⟩;conv=>whnf
  refine bs h (fun G3 h=>?_) fun G3 h=>?_
  ·rw [G3];(conv=>whnf);exact qj h lj rfl rfl
  ·rw [G3];(conv=>whnf);exact ⟨m,Nat.lt_succ_self m,q6.2,(w (qw+(1:Int))),_,rfl,rfl,h⟩
 ·rw [GI];conv=>whnf
  exact Hn _ _ _ h ⟨rfl,rfl⟩
theorem aiW {b:qn} {row:qe} {v:(Int×Int×Int)} (h:LY b row=some v):qC 18 [(.agg [(hG b.1),(.ax (b.2.flatMap p6) b.2.length .shared)]),(.ax (row.flatMap p6) row.length .shared)] (.tuple [(hG v.1),(hG v.2.1),(hG v.2.2)]):=by
 refine qN dD aeG rfl (HX (p5 rfl (p5 rfl (p5 rfl rfl)))) fun Q bz=>?_;have lj:qE [.tmp 4,.tmp 5,.tmp 6] Q (fun v=>(.tuple [(hG v.1),(hG v.2.1),(hG v.2.2)])) v:=fun T H bJ=>bz _ T H bJ;unfold LY at h;unfold ZR;obtain ⟨Gi,qF⟩:∃ c,Ma=c:=⟨_,rfl⟩;rw [qF];obtain ⟨IG,rR⟩:∃ c,PC=c:=⟨_,rfl⟩;rw [rR];conv=>whnf
 obtain ⟨aR,eQ,h⟩:=qi h;rcases aR with ⟨_ | bP,aW⟩
 ·refine ⟨qm.pl,_,J1 eQ,?_⟩;conv=>whnf
  refine bs h (fun fi h=>?_) fun fi h=>?_
  ·rw [fi];(conv=>whnf);exact qj h lj rfl rfl
  ·rw [fi];(conv=>whnf);refine bs h (fun qu h=>?_) fun qu h=>?_
   ·rw [qu];(conv=>whnf);exact qj h lj rfl rfl
   ·rw [qu];(conv=>whnf);obtain ⟨r2,qA,h⟩:=qi h;refine ⟨_,_,Hv (cs:=[(qf row .shared),(.func 65 [] [(.bT [(hG b.1),(qf b.2 .shared)])])]) (bs:=[(qf row .shared),(.func 65 [] [(.bT [(hG b.1),(qf b.2 .shared)])])]) (rp rfl (rp (I0 rT (rp (HF (cs:=[(hG b.1),(qf b.2 .shared)]) (by first | exact qs.h | rfl | (simp [List.getElem?_append,I.settle];done)) rfl) rT)) rT)) (by rfl) (by exact (p5 (q4 (fun _=>(p5 rfl (p5 rfl rfl))) _ _ _) (p5 (Ip rfl (p5 (q' (p5 rfl (p5 (q4 (fun _=>(p5 rfl (p5 rfl rfl))) _ _ _) rfl))) rfl)) rfl))) (Zh ⟨(p5 (q' (p5 rfl (p5 (q4 (fun _=>(p5 rfl (p5 rfl rfl))) _ _ _) rfl))) rfl),by simp⟩ (fun _ _ aZ=>Zg aZ) qA) rfl,?_⟩
    (conv=>whnf);cases r2
    ·(conv=>whnf);replace h:=r5 rfl h;refine ⟨_,_,fun C=>Wn rfl (e:=3) (len:=10) (by kernel_rfl) (by kernel_rfl) (by decide),?_⟩;(conv=>whnf);obtain ⟨qG,h⟩:=qD h;refine ⟨_,_,fun C=>(M1 rfl).trans (UY (e:=3) (l:=(List.replicate 10 (0:Int))) (by kernel_rfl) (by kernel_rfl) (by kernel_rfl) (Nat.zero_le _) (by first | exact qs.h | rfl | (simp [List.getElem?_append,I.settle];done)) qG),?_⟩
     (conv=>whnf);subst qF;refine aiT ?_ ?_ (by exact rfl) h
     ·exact fun T H bJ=>lj T H bJ
     ·intro bO qO p_ h qt;obtain ⟨qT,rfl⟩:=qt.ex;(conv=>whnf);refine qy h id fun q8 h=>?_;rw [qQ p6 2 qz row (0:Int) q8];(conv=>whnf);exact q3 h
    ·(conv=>whnf);replace h:=r4 rfl h;exact qj h lj rfl rfl
 ·refine ⟨qm.pl,_,J1 eQ,?_⟩;conv=>whnf
  refine bs h (fun rr h=>?_) fun rr h=>?_
  ·rw [rr];(conv=>whnf);exact qj h lj rfl rfl
  ·rw [rr];(conv=>whnf);refine bs h (fun ry h=>?_) fun ry h=>?_
   ·rw [ry];(conv=>whnf);exact qj h lj rfl rfl
   ·rw [ry];(conv=>whnf);obtain ⟨ew,r1,h⟩:=qi h;refine ⟨_,_,Hv (cs:=[(qf row .shared),(.func 65 [] [(.bT [(hG b.1),(qf b.2 .shared)])])]) (bs:=[(qf row .shared),(.func 65 [] [(.bT [(hG b.1),(qf b.2 .shared)])])]) (rp rfl (rp (I0 rT (rp (HF (cs:=[(hG b.1),(qf b.2 .shared)]) (by first | exact qs.h | rfl | (simp [List.getElem?_append,I.settle];done)) rfl) rT)) rT)) (by rfl) (by exact (p5 (q4 (fun _=>(p5 rfl (p5 rfl rfl))) _ _ _) (p5 (Ip rfl (p5 (q' (p5 rfl (p5 (q4 (fun _=>(p5 rfl (p5 rfl rfl))) _ _ _) rfl))) rfl)) rfl))) (Zh ⟨(p5 (q' (p5 rfl (p5 (q4 (fun _=>(p5 rfl (p5 rfl rfl))) _ _ _) rfl))) rfl),by simp⟩ (fun _ _ aZ=>Zg aZ) r1) rfl,?_⟩
    (conv=>whnf);cases ew
    ·(conv=>whnf);replace h:=r5 rfl h;refine ⟨_,_,fun C=>Wn rfl (e:=3) (len:=10) (by kernel_rfl) (by kernel_rfl) (by decide),?_⟩;(conv=>whnf);obtain ⟨se,h⟩:=qD h;refine ⟨_,_,fun C=>(M1 rfl).trans (UY (e:=3) (l:=(List.replicate 10 (0:Int))) (by kernel_rfl) (by kernel_rfl) (by kernel_rfl) (Nat.zero_le _) (by first | exact qs.h | rfl | (simp [List.getElem?_append,I.settle];done)) se),?_⟩
     (conv=>whnf);subst qF;refine aiU ?_ ?_ (by exact rfl) h
     ·exact fun T H bJ=>lj T H bJ
     ·intro hY qO p_ h qt;obtain ⟨qT,rfl⟩:=qt.ex;(conv=>whnf);refine qy h id fun sj h=>?_;rw [qQ p6 2 qz row (0:Int) sj];(conv=>whnf);obtain ⟨qH,GH,h⟩:=qi h;refine ⟨qm.pl,_,I3 GH,?_⟩;(conv=>whnf);subst rR;refine aiV ?_ ?_ (by exact rfl) h
      ·exact fun T H bJ=>lj T H bJ
      ·intro xt qO p_ h qt;obtain ⟨qT,rfl⟩:=qt.ex;(conv=>whnf);exact qj h lj rfl rfl
    ·(conv=>whnf);replace h:=r4 rfl h;exact qj h lj rfl rfl

noncomputable def PG:eM :=
 .loop (some (DX false [1,1,1,1,49])) (.seq (FY [FN 19 3,gO 20 [.sl 1] (.ov 1),FL 21 20,FK 22 21,Fo 23 19 22 .lss] (.cond (.sl 23) .skip (.exit 0))) (.seq (.block 1 (FY [gO 26 [.sl 1] (.ov 1),FL 27 26,FN 28 3,FH 29 27 28 2,gO 30 [.hD 29] (.px (.str 2)),gO 4 [] (.alloc [.int .i64 0,.int .i64 0]),⟨none,[.sl 4,.hA 30],none,none,.st 2⟩] (FY [gO 31 [.sl 4] (.ov 0),FL 32 31,Fm 33 32 0 .lss,FO 34 33,dZ 35 [.sl 4] 34 false (.ov 0),dZ 36 [.hD 35] 34 false (.px .one),dZ 37 [.sl 1] 34 false (.ov 0),dZ 38 [.hD 37] 34 false (.px .one),dZ 39 [.hD 36,.hD 38] 34 false (.bin .geq),gO 40 [.hD 34,.ij (.bool true),.hD 39] .pick,FO 41 40,dZ 42 [.sl 4] 41 false (.ov 1),dZ 43 [.hD 42] 41 false (.px .one),dZ 44 [.hD 43,.ij (.int .i64 0)] 41 false (.bin .lss),gO 45 [.hD 41,.ij (.bool true),.hD 44] .pick,FO 46 45,dZ 47 [.hD 4] 46 false (.ov 1),dZ 48 [.hD 47] 46 false (.px .one),dZ 49 [.sl 1] 46 false (.ov 0),dZ 50 [.hD 49] 46 false (.px .one),dZ 51 [.hD 48,.hD 50] 46 false (.bin .geq),gO 52 [.hD 46,.ij (.bool true),.hD 51] .pick] (.cond (.sl 52) (FY [FM 2 3] .ret) .skip)))) (FR [FO 24 3,Fk 25 24 1,FO 3 25])))
noncomputable def ZU:eM :=
 FY [gO 1 [.hA 0] .box,FM 2 0] (.seq (FY [gO 5 [.sl 1] (.ov 0),FL 6 5,Fm 7 6 1 .lss,FO 8 7,dZ 9 [.sl 1] 8 false (.ov 0),dZ 10 [.hD 9] 8 false (.px .one),dZ 11 [.hD 10,.ij (.int .i64 6)] 8 false (.bin .gtr),gO 12 [.hD 8,.ij (.bool true),.hD 11] .pick,FO 13 12,dZ 14 [.sl 1] 13 false (.ov 1),dZ 15 [.hD 14] 13 false (.px .one),dZ 16 [.hA 15] 13 false .pz,dZ 17 [.hD 16,.ij (.int .i64 10)] 13 false (.bin .gtr),gO 18 [.hD 13,.ij (.bool true),.hD 17] .pick] (.cond (.sl 18) (FY [FM 2 6] .ret) .skip)) (.seq (FY [FM 3 0] (.block 0 PG)) (FY [FM 2 0] .ret)))
theorem aeJ:yQ Tryz.prog Qg 21=some (ZU,53,[.tmp 2]):=by kernel_rfl
def KP (b:qn) (qh:Unit→Option Int):Nat→Int→Option Int
 | 0,_=>none
 | m+1,s1 =>
   if (decide (s1<(b.2.length:Int)))=true then
    qd (0≤s1∧s1<(b.2.length:Int)) <|
    if (decide ((ix b.2 s1).1<(0:Int)))=true then
     some (3:Int)
    else
     if (decide (b.1≤(ix b.2 s1).1))=true then
      some (3:Int)
     else
      if (decide ((ix b.2 s1).2<(0:Int)))=true then
       some (3:Int)
      else
       if (decide (b.1≤(ix b.2 s1).2))=true then
        some (3:Int)
       else
        KP b qh m (w (s1+(1:Int)))
   else
    qh ()
def Hq (b:qn):Option Int :=
 if (decide (b.1<(1:Int)))=true then
  some (6:Int)
 else
  if (decide ((6:Int)<b.1))=true then
   some (6:Int)
  else
   if (decide ((10:Int)<(b.2.length:Int)))=true then
    some (6:Int)
   else
    KP b (fun _ =>
      some (0:Int)) p' (0:Int)
theorem ai1 {b:qn} {qh:Unit→Option Int} {s1:Int} {v:Int} {Q:ra}   (lj:qE [.tmp 2] Q (fun v=>(hG v)) v) (rf:∀ (bC:au) (qO:List au) (p_:List I),qh ()=some v→qV 53 [] p_→Q (.exit 0) p_ (bC::qO)) {T:List I} (bW:eL (DX false [1,1,1,1,49]) T=F2 53 [(1,(.ptr 0 0)),(3,(hG s1))]) (h:KP b qh p' s1=some v) :
  dB Tryz.prog Qg 21 0 none PG T [qv b] Q:=by
 unfold PG;refine wp_loop bW ?_;refine .intro (fun m T H=>∃ (s1:Int) (TR:List au),T=F2 53 [(1,(.ptr 0 0)),(3,(hG s1))]∧H=(qv b::TR)∧KP b qh m s1=some v) p' ⟨s1,[],rfl,rfl,h⟩ ?_;clear h bW;rintro m T H ⟨s1,TR,rfl,rfl,h⟩;cases m
 ·exact q3 h
 rename_i m;rw [KP.eq_2] at h;conv=>whnf
 refine bs h (fun qA h=>?_) fun qA h=>?_
 ·rw [qA];conv=>whnf
  refine qy h id fun qG h=>?_;rw [qQ p6 2 qz b.2 s1 qG];conv=>whnf
  refine Dj (x:=au.cells [(hG (0:Int)),(hG (0:Int))]) (by first | exact qs.h | rfl | (simp [List.getElem?_append,I.settle];done)) ?_
  conv=>whnf
  rw [rK];refine Dj (x:=au.cells [(hG (ix b.2 s1).1),(hG (ix b.2 s1).2)]) (by first | exact qs.h | rfl | (simp [List.getElem?_append,I.settle];done)) ?_
  conv=>whnf
  refine bs h (fun q7 h=>?_) fun q7 h=>?_
  ·rw [q7];(conv=>whnf);exact qj h lj rfl rfl
  ·rw [q7];(conv=>whnf);refine Dj (x:=au.cells [(hG (ix b.2 s1).1),(hG (ix b.2 s1).2)]) (by first | exact qs.h | rfl | (simp [List.getElem?_append,I.settle];done)) ?_
   (conv=>whnf);refine bs h (fun qM h=>?_) fun qM h=>?_
   ·rw [qM];(conv=>whnf);exact qj h lj rfl rfl
   ·rw [qM];(conv=>whnf);refine Dj (x:=au.cells [(hG (ix b.2 s1).1),(hG (ix b.2 s1).2)]) (by first | exact qs.h | rfl | (simp [List.getElem?_append,I.settle];done)) ?_
    (conv=>whnf);refine bs h (fun qI h=>?_) fun qI h=>?_
    ·rw [qI];(conv=>whnf);exact qj h lj rfl rfl
    ·rw [qI];(conv=>whnf);refine Dj (x:=au.cells [(hG (ix b.2 s1).1),(hG (ix b.2 s1).2)]) (by first | exact qs.h | rfl | (simp [List.getElem?_append,I.settle];done)) ?_
     (conv=>whnf);refine bs h (fun rh h=>?_) fun rh h=>?_
     ·rw [rh];(conv=>whnf);exact qj h lj rfl rfl
     ·rw [rh];(conv=>whnf);exact ⟨m,Nat.lt_succ_self m,(w (s1+(1:Int))),_,rfl,rfl,h⟩
 ·rw [qA];conv=>whnf
  exact rf _ _ _ h ⟨rfl,rfl⟩
theorem I1 {b:qn} {v:Int} (h:Hq b=some v):qC 21 [(.agg [(hG b.1),(.ax (b.2.flatMap p6) b.2.length .shared)])] (hG v):=by
 refine qN dD aeJ rfl rfl fun Q bz=>?_;have lj:qE [.tmp 2] Q (fun v=>(hG v)) v:=fun T H bJ=>bz _ T H bJ;unfold Hq at h;unfold ZU;obtain ⟨Gi,qF⟩:∃ c,PG=c:=⟨_,rfl⟩;rw [qF];conv=>whnf
 refine bs h (fun eQ h=>?_) fun eQ h=>?_
 ·rw [eQ];conv=>whnf
  exact qj h lj rfl rfl
 ·rw [eQ];conv=>whnf
  refine bs h (fun fi h=>?_) fun fi h=>?_
  ·rw [fi];(conv=>whnf);exact qj h lj rfl rfl
  ·rw [fi];(conv=>whnf);refine bs h (fun qu h=>?_) fun qu h=>?_
   ·rw [qu];(conv=>whnf);exact qj h lj rfl rfl
   ·rw [qu];(conv=>whnf);subst qF;refine ai1 ?_ ?_ (by exact rfl) h
    ·exact fun T H bJ=>lj T H bJ
    ·intro bC qO p_ h qt;obtain ⟨qT,rfl⟩:=qt.ex;(conv=>whnf);exact qj h lj rfl rfl

noncomputable def aad:eM :=
 FY [gO 2 [.hA 0] .box,gO 3 [.hA 1] .box,FM 4 0] (.seq (FY [gO 5 [.sl 3] (.ov 1),FL 6 5,Fm 7 6 1 .eql] (.cond (.sl 7) (FY [Fu 8 2 1,FL 9 8,Fu 10 3 0,FL 11 10,FH 12 9 11 2,Fu 13 12 1,FL 14 13,FO 4 14] .ret) .skip)) (FY [Fu 15 2 1,FL 16 15,Fu 17 3 0,FL 18 17,FH 19 16 18 2,Fu 20 19 0,FL 21 20,FO 4 21] .ret))
theorem ae2:yQ Tryz.prog Un 57=some (aad,22,[.tmp 4]):=by kernel_rfl
def K1 (b:qn) (p:(Int×Int)):Option Int :=
 if (decide (p.2=(1:Int)))=true then
  qd (0≤p.1∧p.1<(b.2.length:Int)) <|
  some ((ix b.2 p.1).2)
 else
  qd (0≤p.1∧p.1<(b.2.length:Int)) <|
  some ((ix b.2 p.1).1)
theorem JZ {b:qn} {p:(Int×Int)} {v:Int} (h:K1 b p=some v):qC 57 [(.agg [(hG b.1),(.ax (b.2.flatMap p6) b.2.length .shared)]),(.agg [(hG p.1),(hG p.2)])] (hG v):=by
 refine qN dD ae2 rfl rfl fun Q bz=>?_;have lj:qE [.tmp 4] Q (fun v=>(hG v)) v:=fun T H bJ=>bz _ T H bJ;unfold K1 at h;unfold aad;conv=>whnf
 refine bs h (fun eQ h=>?_) fun eQ h=>?_
 ·rw [eQ];conv=>whnf
  refine qy h id fun fi h=>?_;rw [qQ p6 2 qz b.2 p.1 fi];conv=>whnf
  exact qj h lj rfl rfl
 ·rw [eQ];conv=>whnf
  refine qy h id fun qu h=>?_;rw [qQ p6 2 qz b.2 p.1 qu];conv=>whnf
  exact qj h lj rfl rfl

noncomputable def PU:eM :=
 .loop (some (DX false [0,2,3,1,13])) (.seq (FY [FN 6 5,FN 7 0,FK 8 7,Fo 9 6 8 .lss] (.cond (.sl 9) .skip (.exit 0))) (.seq (.block 1 (FY [FN 12 0,FN 13 5,FH 14 12 13 2,Fu 15 14 0,FL 16 15,FN 17 1,Fo 18 16 17 .eql] (.cond (.sl 18) (FY [gO 4 [.ij (.bool true)] .iH] .ret) .skip))) (FR [FO 10 5,Fk 11 10 1,FO 5 11])))
noncomputable def aaj:eM :=
 FY [gO 4 [.ij (.bool false)] .iH] (.seq (FY [FM 5 0] (.block 0 PU)) (FY [gO 4 [.ij (.bool false)] .iH] .ret))
theorem ae8:yQ Tryz.prog Qn 69=some (aaj,19,[.tmp 4]):=by kernel_rfl
def K2 (row:qe) (sk:Int) (qh:Unit→Option Bool):Nat→Int→Option Bool
 | 0,_=>none
 | m+1,s1 =>
   if (decide (s1<(row.length:Int)))=true then
    qd (0≤s1∧s1<(row.length:Int)) <|
    if (decide ((ix row s1).1=sk))=true then
     some true
    else
     K2 row sk qh m (w (s1+(1:Int)))
   else
    qh ()
def L9 (row:qe) (sk:Int):Option Bool :=
 K2 row sk (fun _ =>
   some false) p' (0:Int)
theorem ajJ {row:qe} {sk:Int} {qh:Unit→Option Bool} {s1:Int} {v:Bool} {Q:ra}   (lj:qE [.tmp 4] Q (fun v=>(B v)) v) (rf:∀ (p_:List I),qh ()=some v→qV 19 [] p_→Q (.exit 0) p_ []) {T:List I} (bW:eL (DX false [0,2,3,1,13]) T=F2 19 [(0,(qf row .shared)),(1,(hG sk)),(5,(hG s1))]) (h:K2 row sk qh p' s1=some v) :
  dB Tryz.prog Qn 69 0 none PU T [] Q:=by
 unfold PU;refine wp_loop bW ?_;refine .intro (fun m T H=>∃ (s1:Int),T=F2 19 [(0,(qf row .shared)),(1,(hG sk)),(5,(hG s1))]∧H=[]∧K2 row sk qh m s1=some v) p' ⟨s1,rfl,rfl,h⟩ ?_;clear h bW;rintro m T H ⟨s1,rfl,rfl,h⟩;cases m
 ·exact q3 h
 rename_i m;rw [K2.eq_2] at h;conv=>whnf
 refine bs h (fun eQ h=>?_) fun eQ h=>?_
 ·rw [eQ];conv=>whnf
  refine qy h id fun fi h=>?_;rw [qQ p6 2 qz row s1 fi];conv=>whnf
  refine bs h (fun qu h=>?_) fun qu h=>?_
  ·rw [qu];(conv=>whnf);exact qj h lj rfl rfl
  ·rw [qu];(conv=>whnf);exact ⟨m,Nat.lt_succ_self m,(w (s1+(1:Int))),rfl,rfl,h⟩
 ·rw [eQ];conv=>whnf
  exact rf  _ h ⟨rfl,rfl⟩
theorem Tp {row:qe} {sk:Int} {v:Bool} (h:L9 row sk=some v):qC 69 [(.ax (row.flatMap p6) row.length .shared),(hG sk)] (B v):=by
 refine qN dD ae8 rfl rfl fun Q bz=>?_;have lj:qE [.tmp 4] Q (fun v=>(B v)) v:=fun T H bJ=>bz _ T H bJ;unfold L9 at h;unfold aaj;obtain ⟨Gi,qF⟩:∃ c,PU=c:=⟨_,rfl⟩;rw [qF];conv=>whnf
 subst qF;refine ajJ ?_ ?_ (by exact rfl) h
 ·exact fun T H bJ=>lj T H bJ
 ·intro  p_ h qt;obtain ⟨qT,rfl⟩:=qt.ex;conv=>whnf
  exact qj h lj rfl rfl

noncomputable def aak:eM :=
 FY [gO 2 [.hA 0] .box,gO 3 [.hA 1] .box,FM 4 0] (.seq (FY [gO 5 [.sl 3] (.ov 1),FL 6 5,Fm 7 6 1 .eql] (.cond (.sl 7) (FY [Fu 8 2 1,FL 9 8,Fu 10 3 0,FL 11 10,FH 12 9 11 2,Fu 13 12 0,FL 14 13,FO 4 14] .ret) .skip)) (FY [Fu 15 2 1,FL 16 15,Fu 17 3 0,FL 18 17,FH 19 16 18 2,Fu 20 19 1,FL 21 20,FO 4 21] .ret))
theorem ae9:yQ Tryz.prog Ut 70=some (aak,22,[.tmp 4]):=by kernel_rfl
def Jq (b:qn) (p:(Int×Int)):Option Int :=
 if (decide (p.2=(1:Int)))=true then
  qd (0≤p.1∧p.1<(b.2.length:Int)) <|
  some ((ix b.2 p.1).1)
 else
  qd (0≤p.1∧p.1<(b.2.length:Int)) <|
  some ((ix b.2 p.1).2)
theorem GU {b:qn} {p:(Int×Int)} {v:Int} (h:Jq b p=some v):qC 70 [(.agg [(hG b.1),(.ax (b.2.flatMap p6) b.2.length .shared)]),(.agg [(hG p.1),(hG p.2)])] (hG v):=by
 refine qN dD ae9 rfl rfl fun Q bz=>?_;have lj:qE [.tmp 4] Q (fun v=>(hG v)) v:=fun T H bJ=>bz _ T H bJ;unfold Jq at h;unfold aak;conv=>whnf
 refine bs h (fun eQ h=>?_) fun eQ h=>?_
 ·rw [eQ];conv=>whnf
  refine qy h id fun fi h=>?_;rw [qQ p6 2 qz b.2 p.1 fi];conv=>whnf
  exact qj h lj rfl rfl
 ·rw [eQ];conv=>whnf
  refine qy h id fun qu h=>?_;rw [qQ p6 2 qz b.2 p.1 qu];conv=>whnf
  exact qj h lj rfl rfl

noncomputable def PD:eM :=
 .loop (some (DX false [1,2,4,2,94])) (.seq (FY [FN 20 8,FN 21 7,Fo 22 20 21 .lss] (.cond (.sl 22) .skip (.exit 0))) (.seq (.block 1 (.seq (FT [FN 25 1,FN 26 8,FH 27 25 26 2,Fu 28 27 0,FL 29 28,Fm 30 29 0 .lss,FO 31 30,dZ 32 [.sl 1] 31 false .iH,dZ 33 [.sl 8] 31 false .iH,dZ 34 [.hD 32,.hD 33] 31 false (.pq 2),dZ 35 [.hD 34] 31 false (.ov 0),dZ 36 [.hD 35] 31 false (.px .one),dZ 37 [.sl 2] 31 false (.ov 1),dZ 38 [.hD 37] 31 false (.px .one),dZ 39 [.hA 38] 31 false .pz,dZ 40 [.hD 36,.hD 39] 31 false (.bin .geq),gO 41 [.sl 31,.ij (.bool true),.hD 40] .pick,FO 42 41,dZ 43 [.sl 1] 42 false .iH,dZ 44 [.sl 8] 42 false .iH,dZ 45 [.hD 43,.hD 44] 42 false (.pq 2),dZ 46 [.hD 45] 42 false (.ov 1),dZ 47 [.hD 46] 42 false (.px .one),dZ 48 [.hD 47,.ij (.int .i64 0)] 42 false (.bin .lss),gO 49 [.sl 42,.ij (.bool true),.hD 48] .pick,FO 50 49,dZ 51 [.sl 1] 50 false .iH,dZ 52 [.sl 8] 50 false .iH,dZ 53 [.hD 51,.hD 52] 50 false (.pq 2),dZ 54 [.hD 53] 50 false (.ov 1),dZ 55 [.hD 54] 50 false (.px .one),dZ 56 [.hD 55,.ij (.int .i64 1)] 50 false (.bin .gtr),gO 57 [.sl 50,.ij (.bool true),.hD 56] .pick]) (.cond (.sl 57) (FY [FM 4 0,FM 5 0,FM 6 3] .ret) .skip))) (FR [FO 23 8,Fk 24 23 1,FO 8 24])))
noncomputable def PE:eM :=
 .loop (some (DX false [1,2,4,1,1,1,93])) (.seq (FY [FN 58 9,FN 59 7,Fo 60 58 59 .lss] (.cond (.sl 60) .skip (.exit 2))) (.seq (.block 3 (.seq (FT [FN 63 1,FN 64 9,gO 65 [.hA 63,.hA 64] (.Ap 2 false true false),FN 66 1,FN 67 9,FH 68 66 67 2,Fu 69 68 0,FL 70 69,gO 71 [.ij (.func 69 [] []),.sl 65,.sl 70] (.call 3)]) (.cond (.sl 71) (FY [FM 4 0,FM 5 0,FM 6 11] .ret) .skip))) (FR [FO 61 9,Fk 62 61 1,FO 9 62])))
noncomputable def PF:eM :=
 .loop (some (DX false [1,2,4,1,2,1,92])) (.seq (FY [FN 72 10,FN 73 7,Fo 74 72 73 .lss] (.cond (.sl 74) .skip (.exit 4))) (.seq (.block 5 (.seq (FT [gO 77 [.sl 2] (.px (.str 2)),FN 78 1,FN 79 10,Fm 80 79 1 .sub,FH 81 78 80 2,gO 82 [.hD 81] (.px (.str 2)),gO 83 [.ij (.func 70 [] []),.sl 77,.sl 82] (.call 3),gO 84 [.sl 2] (.px (.str 2)),FN 85 1,FN 86 10,FH 87 85 86 2,gO 88 [.hD 87] (.px (.str 2)),gO 89 [.ij (.func 57 [] []),.sl 84,.sl 88] (.call 3),Fo 90 83 89 .neq]) (.cond (.sl 90) (FY [FM 4 0,FM 5 0,FM 6 27] .ret) .skip))) (FR [FO 75 10,Fk 76 75 1,FO 10 76])))
noncomputable def ZS:eM :=
 FY [gO 2 [.hA 0] .box,FM 4 0,FM 5 0,FM 6 0] (.seq (FY [gO 11 [.sl 2] (.px (.str 2)),gO 12 [.ij (.func 21 [] []),.sl 11] (.call 3),Fm 13 12 0 .neq] (.cond (.sl 13) (FY [gO 14 [.hD 2] (.px (.str 2)),gO 15 [.ij (.func 21 [] []),.sl 14] (.call 3),FM 4 0,FM 5 0,FO 6 15] .ret) .skip)) (FY [FN 16 1,FK 17 16,FO 7 17] (.seq (FY [FN 18 7,Fm 19 18 0 .eql] (.cond (.sl 19) (FY [FM 4 0,FM 5 0,FM 6 6] .ret) .skip)) (.seq (FY [FM 8 0] (.block 0 PD)) (.seq (FY [FM 9 0] (.block 2 PE)) (.seq (FY [FM 10 1] (.block 4 PF)) (.seq (FT [gO 91 [.sl 2] (.px (.str 2)),FN 92 1,gO 93 [.hD 92,.ij (.int .i64 0)] (.pq 2),gO 94 [.hD 93] (.px (.str 2)),gO 95 [.ij (.func 57 [] []),.sl 91,.sl 94] (.call 3),gO 96 [.sl 2] (.px (.str 2)),FN 97 1,FO 98 7,Fm 99 98 1 .sub,FH 100 97 99 2,gO 101 [.hD 100] (.px (.str 2)),gO 102 [.ij (.func 70 [] []),.sl 96,.sl 101] (.call 3),FO 4 95,FO 5 102,FM 6 0]) .ret)))))))
theorem aeH:yQ Tryz.prog Mo 19=some (ZS,103,[.tmp 4,.tmp 5,.tmp 6]):=by kernel_rfl
def KM (b:qn) (row:qe) (qh:Unit→Option (Int×Int×Int)):Nat→Int→Option (Int×Int×Int)
 | 0,_=>none
 | m+1,s1 =>
   if (decide (s1<(row.length:Int)))=true then
    qd (0≤s1∧s1<(row.length:Int)) <|
    if (decide ((ix row s1).1<(0:Int)))=true then
     some ((0:Int),(0:Int),(3:Int))
    else
     qd (0≤s1∧s1<(row.length:Int)) <|
     if (decide ((b.2.length:Int)≤(ix row s1).1))=true then
      some ((0:Int),(0:Int),(3:Int))
     else
      qd (0≤s1∧s1<(row.length:Int)) <|
      if (decide ((ix row s1).2<(0:Int)))=true then
       some ((0:Int),(0:Int),(3:Int))
      else
       qd (0≤s1∧s1<(row.length:Int)) <|
       if (decide ((1:Int)<(ix row s1).2))=true then
        some ((0:Int),(0:Int),(3:Int))
       else
        KM b row qh m (w (s1+(1:Int)))
   else
    qh ()
def KN (row:qe) (qK:Unit→Option (Int×Int×Int)):Nat→Int→Option (Int×Int×Int)
 | 0,_=>none
 | m+1,s2 =>
   if (decide (s2<(row.length:Int)))=true then
    qd (0≤s2∧s2≤(row.length:Int)) <|
    qd (0≤s2∧s2<(row.length:Int)) <|
    (L9 (row.take s2.toNat) ((ix row s2).1)).bind fun ew =>
    if ew=true then
     some ((0:Int),(0:Int),(11:Int))
    else
     KN row qK m (w (s2+(1:Int)))
   else
    qK ()
def KO (b:qn) (row:qe) (q5:Unit→Option (Int×Int×Int)):Nat→Int→Option (Int×Int×Int)
 | 0,_=>none
 | m+1,nL =>
   if (decide (nL<(row.length:Int)))=true then
    qd (0≤(w (nL-(1:Int)))∧(w (nL-(1:Int)))<(row.length:Int)) <|
    (Jq b (ix row (w (nL-(1:Int))))).bind fun qH =>
    qd (0≤nL∧nL<(row.length:Int)) <|
    (K1 b (ix row nL)).bind fun q6 =>
    if (decide (qH≠q6))=true then
     some ((0:Int),(0:Int),(27:Int))
    else
     KO b row q5 m (w (nL+(1:Int)))
   else
    q5 ()
def KL (b:qn) (row:qe):Option (Int×Int×Int) :=
 (Hq b).bind fun aR =>
 if (decide (aR≠(0:Int)))=true then
  (Hq b).bind fun r2 =>
  some ((0:Int),(0:Int),r2)
 else
  if (decide ((row.length:Int)=(0:Int)))=true then
   some ((0:Int),(0:Int),(6:Int))
  else
   KM b row (fun _ =>
     KN row (fun _ =>
       KO b row (fun _ =>
         qd (0≤(0:Int)∧(0:Int)<(row.length:Int)) <|
         (K1 b (ix row (0:Int))).bind fun Gp =>
         qd (0≤(w ((row.length:Int)-(1:Int)))∧(w ((row.length:Int)-(1:Int)))<(row.length:Int)) <|
         (Jq b (ix row (w ((row.length:Int)-(1:Int))))).bind fun GF =>
         some (Gp,GF,(0:Int))) p' (1:Int)) p' (0:Int)) p' (0:Int)
theorem aiX {b:qn} {row:qe} {qh:Unit→Option (Int×Int×Int)} {s1:Int} {v:(Int×Int×Int)} {Q:ra}   (lj:qE [.tmp 4,.tmp 5,.tmp 6] Q (fun v=>(.tuple [(hG v.1),(hG v.2.1),(hG v.2.2)])) v) (rf:∀ (p_:List I),qh ()=some v→qV 103 [(1,(qf row .shared)),(2,(.ptr 0 0)),(7,(hG (row.length:Int)))] p_→Q (.exit 0) p_ [qv b]) {T:List I} (bW:eL (DX false [1,2,4,2,94]) T=F2 103 [(1,(qf row .shared)),(2,(.ptr 0 0)),(7,(hG (row.length:Int))),(8,(hG s1))]) (h:KM b row qh p' s1=some v) :
  dB Tryz.prog Mo 19 0 none PD T [qv b] Q:=by
 unfold PD;refine wp_loop bW ?_;refine .intro (fun m T H=>∃ (s1:Int),T=F2 103 [(1,(qf row .shared)),(2,(.ptr 0 0)),(7,(hG (row.length:Int))),(8,(hG s1))]∧H=[qv b]∧KM b row qh m s1=some v) p' ⟨s1,rfl,rfl,h⟩ ?_;clear h bW;rintro m T H ⟨s1,rfl,rfl,h⟩;cases m
 ·exact q3 h
 rename_i m;rw [KM.eq_2] at h;conv=>whnf
 refine bs h (fun qG h=>?_) fun qG h=>?_
 ·rw [qG];conv=>whnf
  refine qy h id fun q7 h=>?_;rw [qQ p6 2 qz row s1 q7];conv=>whnf
  refine bs h (fun qM h=>?_) fun qM h=>?_
  ·rw [qM];(conv=>whnf);exact qj h lj rfl rfl
  ·rw [qM];(conv=>whnf);refine qy h id fun qI h=>?_;rw [qQ p6 2 qz row s1 qI];(conv=>whnf);refine bs h (fun rh h=>?_) fun rh h=>?_
   ·rw [rh];(conv=>whnf);exact qj h lj rfl rfl
   ·rw [rh];(conv=>whnf);refine qy h id fun qS h=>?_;rw [qQ p6 2 qz row s1 qS];(conv=>whnf);refine bs h (fun q8 h=>?_) fun q8 h=>?_
    ·rw [q8];(conv=>whnf);exact qj h lj rfl rfl
    ·rw [q8];(conv=>whnf);refine qy h id fun rr h=>?_;rw [qQ p6 2 qz row s1 rr];(conv=>whnf);refine bs h (fun ry h=>?_) fun ry h=>?_
     ·rw [ry];(conv=>whnf);exact qj h lj rfl rfl
     ·rw [ry];(conv=>whnf);exact ⟨m,Nat.lt_succ_self m,(w (s1+(1:Int))),rfl,rfl,h⟩
 ·rw [qG];conv=>whnf
  exact rf  _ h ⟨rfl,rfl⟩
theorem aiY {row:qe} {qK:Unit→Option (Int×Int×Int)} {s2:Int} {b:qn} {v:(Int×Int×Int)} {Q:ra}   (lj:qE [.tmp 4,.tmp 5,.tmp 6] Q (fun v=>(.tuple [(hG v.1),(hG v.2.1),(hG v.2.2)])) v) (GL:∀ (p_:List I),qK ()=some v→qV 103 [(1,(qf row .shared)),(2,(.ptr 0 0)),(7,(hG (row.length:Int)))] p_→Q (.exit 2) p_ [qv b]) {T:List I} (bW:eL (DX false [1,2,4,1,1,1,93]) T=F2 103 [(1,(qf row .shared)),(2,(.ptr 0 0)),(7,(hG (row.length:Int))),(9,(hG s2))]) (h:KN row qK p' s2=some v) :
  dB Tryz.prog Mo 19 0 none PE T [qv b] Q:=by
 unfold PE;refine wp_loop bW ?_;refine .intro (fun m T H=>∃ (s2:Int),T=F2 103 [(1,(qf row .shared)),(2,(.ptr 0 0)),(7,(hG (row.length:Int))),(9,(hG s2))]∧H=[qv b]∧KN row qK m s2=some v) p' ⟨s2,rfl,rfl,h⟩ ?_;clear h bW;rintro m T H ⟨s2,rfl,rfl,h⟩;cases m
 ·exact q3 h
 rename_i m;rw [KN.eq_2] at h;conv=>whnf
 refine bs h (fun r1 h=>?_) fun r1 h=>?_
 ·rw [r1];conv=>whnf
  refine qy h id fun se h=>?_;erw [LM p6 2 qz row s2 se];conv=>whnf
  refine qy h id fun r8 h=>?_;rw [qQ p6 2 qz row s2 r8];conv=>whnf
  obtain ⟨ew,rI,h⟩:=qi h;refine ⟨qm.pl,_,Tp rI,F7,?_⟩;conv=>whnf
  cases ew
  ·(conv=>whnf);replace h:=r5 rfl h;exact ⟨m,Nat.lt_succ_self m,(w (s2+(1:Int))),rfl,rfl,h⟩
  ·(conv=>whnf);replace h:=r4 rfl h;exact qj h lj rfl rfl
 ·rw [r1];conv=>whnf
  exact GL  _ h ⟨rfl,rfl⟩
theorem aiZ {b:qn} {row:qe} {q5:Unit→Option (Int×Int×Int)} {nL:Int} {v:(Int×Int×Int)} {Q:ra}   (lj:qE [.tmp 4,.tmp 5,.tmp 6] Q (fun v=>(.tuple [(hG v.1),(hG v.2.1),(hG v.2.2)])) v) (Hn:∀ (p_:List I),q5 ()=some v→qV 103 [(1,(qf row .shared)),(2,(.ptr 0 0)),(7,(hG (row.length:Int)))] p_→Q (.exit 4) p_ [qv b]) {T:List I} (bW:eL (DX false [1,2,4,1,2,1,92]) T=F2 103 [(1,(qf row .shared)),(2,(.ptr 0 0)),(7,(hG (row.length:Int))),(10,(hG nL))]) (h:KO b row q5 p' nL=some v) :
  dB Tryz.prog Mo 19 0 none PF T [qv b] Q:=by
 unfold PF;refine wp_loop bW ?_;refine .intro (fun m T H=>∃ (nL:Int),T=F2 103 [(1,(qf row .shared)),(2,(.ptr 0 0)),(7,(hG (row.length:Int))),(10,(hG nL))]∧H=[qv b]∧KO b row q5 m nL=some v) p' ⟨nL,rfl,rfl,h⟩ ?_;clear h bW;rintro m T H ⟨nL,rfl,rfl,h⟩;cases m
 ·exact q3 h
 rename_i m;rw [KO.eq_2] at h;conv=>whnf
 refine bs h (fun rZ h=>?_) fun rZ h=>?_
 ·rw [rZ];conv=>whnf
  refine qy h id fun r0 h=>?_;rw [qQ p6 2 qz row (w (nL-(1:Int))) r0];conv=>whnf
  obtain ⟨qH,si,h⟩:=qi h;refine ⟨qm.pl,_,GU si,F7,?_⟩;conv=>whnf
  refine qy h id fun sj h=>?_;rw [qQ p6 2 qz row nL sj];conv=>whnf
  obtain ⟨q6,GH,h⟩:=qi h;refine ⟨qm.pl,_,JZ GH,rH rfl,?_⟩;conv=>whnf
  refine bs h (fun GI h=>?_) fun GI h=>?_
  ·rw [GI];(conv=>whnf);exact qj h lj rfl rfl
  ·rw [GI];(conv=>whnf);exact ⟨m,Nat.lt_succ_self m,(w (nL+(1:Int))),rfl,rfl,h⟩
 ·rw [rZ];conv=>whnf
  exact Hn  _ h ⟨rfl,rfl⟩
theorem YQ {b:qn} {row:qe} {v:(Int×Int×Int)} (h:KL b row=some v):qC 19 [(.agg [(hG b.1),(.ax (b.2.flatMap p6) b.2.length .shared)]),(.ax (row.flatMap p6) row.length .shared)] (.tuple [(hG v.1),(hG v.2.1),(hG v.2.2)]):=by
 refine qN dD aeH rfl (HX (p5 rfl (p5 rfl (p5 rfl rfl)))) fun Q bz=>?_;have lj:qE [.tmp 4,.tmp 5,.tmp 6] Q (fun v=>(.tuple [(hG v.1),(hG v.2.1),(hG v.2.2)])) v:=fun T H bJ=>bz _ T H bJ;unfold KL at h;unfold ZS;obtain ⟨Gi,qF⟩:∃ c,PD=c:=⟨_,rfl⟩;rw [qF];obtain ⟨IG,rR⟩:∃ c,PE=c:=⟨_,rfl⟩;rw [rR];obtain ⟨Qy,H4⟩:∃ c,PF=c:=⟨_,rfl⟩;rw [H4];conv=>whnf
 obtain ⟨aR,eQ,h⟩:=qi h;refine ⟨qm.pl,_,I1 eQ,?_⟩;conv=>whnf
 refine bs h (fun fi h=>?_) fun fi h=>?_
 ·rw [fi];conv=>whnf
  obtain ⟨r2,qu,h⟩:=qi h;refine ⟨qm.pl,_,I1 qu,?_⟩;conv=>whnf
  exact qj h lj rfl rfl
 ·rw [fi];conv=>whnf
  refine bs h (fun qA h=>?_) fun qA h=>?_
  ·rw [qA];(conv=>whnf);exact qj h lj rfl rfl
  ·rw [qA];(conv=>whnf);subst qF;refine aiX ?_ ?_ (by exact rfl) h
   ·exact fun T H bJ=>lj T H bJ
   ·intro  p_ h qt;obtain ⟨qT,rfl⟩:=qt.ex;(conv=>whnf);subst rR;refine aiY ?_ ?_ (by exact rfl) h
    ·exact fun T H bJ=>lj T H bJ
    ·intro  p_ h qt;obtain ⟨qT,rfl⟩:=qt.ex;(conv=>whnf);subst H4;refine aiZ ?_ ?_ (by exact rfl) h
     ·exact fun T H bJ=>lj T H bJ
     ·intro  p_ h qt;obtain ⟨qT,rfl⟩:=qt.ex;(conv=>whnf);refine qy h id fun GQ h=>?_;rw [qQ p6 2 qz row (0:Int) GQ];(conv=>whnf);obtain ⟨Gp,H5,h⟩:=qi h;refine ⟨qm.pl,_,JZ H5,F7,?_⟩;(conv=>whnf);refine qy h id fun G3 h=>?_;rw [qQ p6 2 qz row (w ((row.length:Int)-(1:Int))) G3];(conv=>whnf);obtain ⟨GF,H6,h⟩:=qi h;refine ⟨qm.pl,_,GU H6,rH rfl,?_⟩;(conv=>whnf);exact qj h lj rfl rfl

noncomputable def ZV:eM :=
 FY [gO 2 [.hA 0] .box,FM 4 0] (FY [gO 9 [.sl 2] (.px (.str 2)),FN 10 1,gO 11 [.ij (.func 18 [] []),.sl 9,.sl 10] (.call 3),FO 8 11,F5 12 8 0,F5 13 8 1,gO 14 [.hD 8] (.ext 2),FO 5 12,FO 6 13,FO 7 14] (.seq (.block 0 (FY [FN 16 7,Fm 17 16 0 .neq,FO 15 17] (.cond (.sl 15) (FY [FO 18 7,FO 4 18] .ret) (FY [FO 20 1,FK 21 20,Fu 22 2 1,FL 23 22,FK 24 23,Fo 25 21 24 .lss,FO 19 25] (.cond (.sl 19) (FY [FM 4 15] .ret) (FY [FO 27 5,FO 28 6,Fo 29 27 28 .neq,FO 26 29] (.cond (.sl 26) (FY [FM 4 27] .ret) .skip))))))) (FY [FM 4 0] .ret)))
theorem aeK:yQ Tryz.prog Ud 22=some (ZV,30,[.tmp 4]):=by kernel_rfl
def L0 (b:qn) (row:qe):Option Int :=
 (LY b row).bind fun aR =>
 if (decide (aR.2.2≠(0:Int)))=true then
  some aR.2.2
 else
  if (decide ((row.length:Int)<(b.2.length:Int)))=true then
   some (15:Int)
  else
   if (decide (aR.1≠aR.2.1))=true then
    some (27:Int)
   else
    some (0:Int)
theorem ai3 {b:qn} {row:qe} {v:Int} (h:L0 b row=some v):qC 22 [(.agg [(hG b.1),(.ax (b.2.flatMap p6) b.2.length .shared)]),(.ax (row.flatMap p6) row.length .shared)] (hG v):=by
 refine qN dD aeK rfl rfl fun Q bz=>?_;have lj:qE [.tmp 4] Q (fun v=>(hG v)) v:=fun T H bJ=>bz _ T H bJ;unfold L0 at h;unfold ZV;conv=>whnf
 obtain ⟨aR,eQ,h⟩:=qi h;refine ⟨qm.pl,_,aiW eQ,?_⟩;conv=>whnf
 refine bs h (fun fi h=>?_) fun fi h=>?_
 ·rw [fi];conv=>whnf
  exact qj h lj rfl rfl
 ·rw [fi];conv=>whnf
  refine bs h (fun qu h=>?_) fun qu h=>?_
  ·rw [qu];(conv=>whnf);exact qj h lj rfl rfl
  ·rw [qu];(conv=>whnf);refine bs h (fun qA h=>?_) fun qA h=>?_
   ·rw [qA];(conv=>whnf);exact qj h lj rfl rfl
   ·rw [qA];(conv=>whnf);exact qj h lj rfl rfl

noncomputable def ZW:eM :=
 FY [gO 2 [.hA 0] .box,FM 4 0] (FY [gO 9 [.sl 2] (.px (.str 2)),FN 10 1,gO 11 [.ij (.func 19 [] []),.sl 9,.sl 10] (.call 3),FO 8 11,F5 12 8 0,F5 13 8 1,gO 14 [.hD 8] (.ext 2),FO 5 12,FO 6 13,FO 7 14] (.seq (FY [FN 15 7,Fm 16 15 0 .neq] (.cond (.sl 16) (FY [FO 17 7,FO 4 17] .ret) .skip)) (.seq (FY [FO 18 1,FK 19 18,Fu 20 2 1,FL 21 20,FK 22 21,Fo 23 19 22 .neq] (.cond (.sl 23) (FY [FM 4 15] .ret) .skip)) (.seq (FY [FO 24 5,FO 25 6,Fo 26 24 25 .neq] (.cond (.sl 26) (FY [FM 4 27] .ret) .skip)) (FY [FM 4 0] .ret)))))
theorem aeL:yQ Tryz.prog Ue 23=some (ZW,27,[.tmp 4]):=by kernel_rfl
def KQ (b:qn) (row:qe):Option Int :=
 (KL b row).bind fun aR =>
 if (decide (aR.2.2≠(0:Int)))=true then
  some aR.2.2
 else
  if (decide ((row.length:Int)≠(b.2.length:Int)))=true then
   some (15:Int)
  else
   if (decide (aR.1≠aR.2.1))=true then
    some (27:Int)
   else
    some (0:Int)
theorem YS {b:qn} {row:qe} {v:Int} (h:KQ b row=some v):qC 23 [(.agg [(hG b.1),(.ax (b.2.flatMap p6) b.2.length .shared)]),(.ax (row.flatMap p6) row.length .shared)] (hG v):=by
 refine qN dD aeL rfl rfl fun Q bz=>?_;have lj:qE [.tmp 4] Q (fun v=>(hG v)) v:=fun T H bJ=>bz _ T H bJ;unfold KQ at h;unfold ZW;conv=>whnf
 obtain ⟨aR,eQ,h⟩:=qi h;refine ⟨qm.pl,_,YQ eQ,?_⟩;conv=>whnf
 refine bs h (fun fi h=>?_) fun fi h=>?_
 ·rw [fi];conv=>whnf
  exact qj h lj rfl rfl
 ·rw [fi];conv=>whnf
  refine bs h (fun qu h=>?_) fun qu h=>?_
  ·rw [qu];(conv=>whnf);exact qj h lj rfl rfl
  ·rw [qu];(conv=>whnf);refine bs h (fun qA h=>?_) fun qA h=>?_
   ·rw [qA];(conv=>whnf);exact qj h lj rfl rfl
   ·rw [qA];(conv=>whnf);exact qj h lj rfl rfl

def Fg (b:qn) (l:qe):Option Bool :=
 (Nz b).bind fun aR =>
 if aR=true then
  (KI).bind fun r2 =>
  some r2
 else
  if (decide ((14:Int)<(l.length:Int)))=true then
   (KI).bind fun ew =>
   some ew
  else
   (LY b l).bind fun qH =>
   (KL b l).bind fun q6 =>
   (LZ b).bind fun Gp =>
   (Hq b).bind fun GF =>
   if (decide (Gp=GF))=true then
    if (decide (qH.1=q6.1))=true then
     if (decide (qH.2.1=q6.2.1))=true then
      if (decide (qH.2.2=q6.2.2))=true then
       (L0 b l).bind fun Hd =>
       (KQ b l).bind fun sa =>
       if (decide (Hd=sa))=true then
        (KI).bind fun sm =>
        some sm
       else
        some false
      else
       some false
     else
      some false
    else
     some false
   else
    some false
end Go.Proofs.YtfakoboiahbhaaaGreat.Ab


namespace Go.Proofs.YtfakoboiahbhaaaGreat.Ab
open Go
def Hb (lo hi x:Int):Bool:=decide (x<lo) || decide (hi<x)
theorem Kx {lo hi x:Int}:Hb lo hi x=false↔lo≤x∧x≤hi:=by
 simp only [Hb,Bool.or_eq_false_iff,decide_eq_false_iff_not];omega
theorem M0 {lo hi x:Int}:Hb lo hi x=true↔x<lo∨hi<x:=by
 simp only [Hb,Bool.or_eq_true,decide_eq_true_eq]
def posOf {α:Type} (p:α→Bool):List α→Nat→Int
 | [],_ => -1
 | x::l,i=>if p x=true then (i:Int) else posOf p l (i+1)
theorem M5 {α:Type} (p:α→Bool):∀ (l:List α) (i:Nat),decide (0≤posOf p l i)=l.any p
 | [],_=>rfl
 | x::l,i=>by
   rw [posOf,List.any_cons];by_cases h:p x=true
   ·rw [if_pos h,h];simp
   ·rw [if_neg h,M5 p l (i+1)];simp [h]
theorem aj8 (n lo hi:Int):NR n lo hi=some (Hb lo hi n):=by
 unfold NR Hb;by_cases h:n<lo <;> simp [h]
theorem Tg {s:List Int} {f:Int→Option Bool} {p:Int→Bool} (aN:∀ x∈s,f x=some (p x)) (ai:s.length≤140737488355328):∀ (m i:Nat) (z:Int),z=i→i≤s.length→s.length-i<m→KG s f (fun _=>some (-1:Int)) m z=some (posOf p (s.drop i) i)
 | 0,i,_,_,_,h=>absurd h (by omega)
 | m+1,i,_,rfl,hi,hm=>by
   rw [KG];by_cases h:i<s.length
   ·rw [HT h,Gt h,rn h,aN _ (List.getElem_mem h),Option.bind_some,List.drop_eq_getElem_cons h,posOf];by_cases aD:p s[i]=true
    ·rw [if_pos aD,if_pos aD]
    ·rw [if_neg aD,if_neg aD,rq i (by omega),Tg aN ai m (i+1) _ rfl (by omega) (by omega)]
   ·rw [HS h,List.drop_eq_nil_of_le (by omega)];rfl
theorem TG {s:List (Int×Int)} {f:Int×Int→Option Bool} {p:Int×Int→Bool} (aN:∀ x∈s,f x=some (p x)) (ai:s.length≤140737488355328):∀ (m i:Nat) (z:Int),z=i→i≤s.length→s.length-i<m→Lb s f (fun _=>some (-1:Int)) m z=some (posOf p (s.drop i) i)
 | 0,i,_,_,_,h=>absurd h (by omega)
 | m+1,i,_,rfl,hi,hm=>by
   rw [Lb];by_cases h:i<s.length
   ·rw [HT h,Gt h,rn h,aN _ (List.getElem_mem h),Option.bind_some,List.drop_eq_getElem_cons h,posOf];by_cases aD:p s[i]=true
    ·rw [if_pos aD,if_pos aD]
    ·rw [if_neg aD,if_neg aD,rq i (by omega),TG aN ai m (i+1) _ rfl (by omega) (by omega)]
   ·rw [HS h,List.drop_eq_nil_of_le (by omega)];rfl
theorem Zy {s:List (Int×Int)} {f:Int×Int→Option Bool} {p:Int×Int→Bool} (aN:∀ x∈s,f x=some (p x)) (ai:s.length≤140737488355328):∀ (m i:Nat) (z:Int),z=i→i≤s.length→s.length-i<m→Lc s f (fun _=>some (-1:Int)) m z=some (posOf p (s.drop i) i)
 | 0,i,_,_,_,h=>absurd h (by omega)
 | m+1,i,_,rfl,hi,hm=>by
   rw [Lc];by_cases h:i<s.length
   ·rw [HT h,Gt h,rn h,aN _ (List.getElem_mem h),Option.bind_some,List.drop_eq_getElem_cons h,posOf];by_cases aD:p s[i]=true
    ·rw [if_pos aD,if_pos aD]
    ·rw [if_neg aD,if_neg aD,rq i (by omega),Zy aN ai m (i+1) _ rfl (by omega) (by omega)]
   ·rw [HS h,List.drop_eq_nil_of_le (by omega)];rfl
theorem TF {s:List Int} {f:Int→Option Bool} {p:Int→Bool} (aN:∀ x∈s,f x=some (p x)) (ai:s.length≤140737488355328):Js s f=some (s.any p):=by
 have:=Tg aN ai p' 0 0 rfl (Nat.zero_le _) (ru (by omega));rw [List.drop_zero] at this;rw [Js,LW,this,Option.bind_some,M5]
theorem ajI {s:List (Int×Int)} {f:Int×Int→Option Bool} {p:Int×Int→Bool} (aN:∀ x∈s,f x=some (p x)) (ai:s.length≤140737488355328):L8 s f=some (s.any p):=by
 have:=TG aN ai p' 0 0 rfl (Nat.zero_le _) (ru (by omega));rw [List.drop_zero] at this;rw [L8,J_,this,Option.bind_some,M5]
theorem ajL {s:List (Int×Int)} {f:Int×Int→Option Bool} {p:Int×Int→Bool} (aN:∀ x∈s,f x=some (p x)) (ai:s.length≤140737488355328):NN s f=some (s.any p):=by
 have:=Zy aN ai p' 0 0 rfl (Nat.zero_le _) (ru (by omega));rw [List.drop_zero] at this;rw [NN,Pv,this,Option.bind_some,M5]
theorem Pk (lo hi:Int) (l:List Int) (aq:l.length≤140737488355328):J2 lo hi l=some (!(l.any (Hb lo hi))):=by
 rw [J2,TF (p:=Hb lo hi) (fun x _=>aj8 x lo hi) aq,Option.bind_some]
def H9 (f:Int) (s:Int×Int):Bool:=Hb 0 (f-1) s.1 || Hb 0 (f-1) s.2
def q9 (b:qb):Int:=if b.1<1∨6<b.1∨(10:Int)<(b.2.length:Int) then 6 else if b.2.any (H9 b.1)=true then 3 else 0
structure qJ (b:qb):Prop where
 f1:1≤b.1
 f6:b.1≤6
 len:b.2.length≤10
 left:∀ s∈b.2,0≤s.1∧s.1<b.1
 right:∀ s∈b.2,0≤s.2∧s.2<b.1
theorem GM {b:qb}:q9 b=0↔qJ b:=by
 unfold q9;constructor
 ·intro h;split at h
  ·omega
  ·rename_i ad;split at h
   ·omega
   ·rename_i af;(have af:b.2.any (H9 b.1)=false:=by simpa using af);rw [List.any_eq_false] at af;have aH:∀ s∈b.2,Hb 0 (b.1-1) s.1=false∧Hb 0 (b.1-1) s.2=false:=fun s ai=>by
     have:=af s ai;unfold H9 at this;simpa using this
    exact ⟨by omega,by omega,by omega,fun s ai=>by have:=Kx.1 (aH s ai).1;omega,fun s ai=>by have:=Kx.1 (aH s ai).2;omega⟩
 ·intro h;obtain ⟨ad,af,aH,bh,bM⟩:=h;rw [if_neg (by omega),if_neg];rw [Bool.not_eq_true,List.any_eq_false];intro s ai;have a:=bh s ai;have c:=bM s ai;unfold H9;rw [Kx.2 (by omega),Kx.2 (by omega)];decide
theorem Tk (b:qb) (ag:b.2.length≤1000):LZ b=some (q9 b):=by
 rw [LZ,Pk _ _ _ (by simp),Option.bind_some];unfold q9;simp only [List.any_cons,List.any_nil,Bool.or_false];by_cases h:1≤b.1∧b.1≤6
 ·rw [Kx.2 h,if_pos (by decide)];by_cases af:(10:Int)<(b.2.length:Int)
  ·rw [if_pos (decide_eq_true af),if_pos (by omega)]
  ·rw [if_neg (by simpa using af),if_neg (by omega),ajL (p:=H9 b.1) (fun s _=>by
    rw [Pm,Ia (by omega),Pk _ _ _ (by simp),Option.bind_some]
    simp [H9]) (by omega),Option.bind_some]
   cases b.2.any (H9 b.1) <;> rfl
 ·have:Hb 1 6 b.1=true:=by rw [M0];omega
  rw [this,if_neg (by decide),if_pos (by omega)]
theorem YR {b:qb} (ag:b.2.length≤1000) (aN:1≤b.1):∀ (m i:Nat) (z:Int),z=i→i≤b.2.length→b.2.length-i<m→KP b (fun _=>some (0:Int)) m z=some (if (b.2.drop i).any (H9 b.1)=true then 3 else 0)
 | 0,i,_,_,_,h=>absurd h (by omega)
 | m+1,i,_,rfl,hi,hm=>by
   rw [KP];by_cases h:i<b.2.length
   ·rw [HT h,Gt h,rn h,List.drop_eq_getElem_cons h,List.any_cons];have e:H9 b.1 b.2[i]=true↔b.2[i].1<0∨b.1≤b.2[i].1∨b.2[i].2<0∨b.1≤b.2[i].2:=by
     unfold H9;rw [Bool.or_eq_true,M0,M0];omega
    by_cases ai:H9 b.1 b.2[i]=true
    ·have a4:=e.1 ai;rw [ai,Bool.true_or,if_pos rfl];by_cases aB:b.2[i].1<0
     ·rw [if_pos (decide_eq_true aB)]
     rw [if_neg (by simpa using aB)];by_cases aF:b.1≤b.2[i].1
     ·rw [if_pos (decide_eq_true aF)]
     rw [if_neg (by simpa using aF)];by_cases aS:b.2[i].2<0
     ·rw [if_pos (decide_eq_true aS)]
     rw [if_neg (by simpa using aS),if_pos (decide_eq_true (by omega))]
    ·have a4:=(not_congr e).1 ai;(have lK:H9 b.1 b.2[i]=false:=by simpa using ai);rw [lK,Bool.false_or,if_neg (by simp;omega),if_neg (by simp;omega),if_neg (by simp;omega),if_neg (by simp;omega),rq i (by omega),YR ag aN m (i+1) _ rfl (by omega) (by omega)]
   ·rw [HS h,List.drop_eq_nil_of_le (by omega)];rfl
theorem NB (b:qb) (ag:b.2.length≤1000):Hq b=some (q9 b):=by
 rw [Hq];unfold q9;by_cases ad:b.1<1
 ·rw [if_pos (decide_eq_true ad),if_pos (.inl ad)]
 rw [if_neg (by simpa using ad)];by_cases af:6<b.1
 ·rw [if_pos (decide_eq_true af),if_pos (.inr (.inl af))]
 rw [if_neg (by simpa using af)];by_cases aH:(10:Int)<(b.2.length:Int)
 ·rw [if_pos (decide_eq_true aH),if_pos (.inr (.inr aH))]
 rw [if_neg (by simpa using aH),if_neg (by omega),YR ag (by omega) p' 0 0 rfl (Nat.zero_le _) (ru (by omega)),List.drop_zero]
abbrev Row:=List (Int×Int)
def Ge (b:qb) (p:Int×Int):Bool:=Hb 0 ((b.2.length:Int)-1) p.1 || Hb 0 1 p.2
theorem KB {b:qb} {p:Int×Int}:Ge b p=false↔0≤p.1∧p.1<(b.2.length:Int)∧0≤p.2∧p.2≤1:=by
 unfold Ge;rw [Bool.or_eq_false_iff,Kx,Kx];omega
def Gv:Row→Row→Bool
 | _,[]=>false
 | pre,p::r=>if (pre.any fun q=>decide (q.1=p.1))=true then true else Gv (pre++[p]) r
def q1 (b:qb):Int→Row→Option Int
 | a,[]=>some a
 | a,p::r=>if qX b p=a then q1 b (fin b p) r else none
def sn (b:qb) (row:Row):Int×Int×Int :=
 if q9 b≠0 then (0,0,q9 b) else match row with
 | []=>(0,0,6)
 | p::r=>if (p::r).any (Ge b)=true then (0,0,3) else if Gv [] (p::r)=true then (0,0,11) else match q1 b (qX b p) (p::r) with
   | none=>(0,0,27)
   | some a=>(qX b p,a,0)
theorem ajH {b:qb} (ag:b.2.length≤1000) (p:Int×Int):L7 p b=some (Ge b p):=by
 rw [L7,Ia (by omega),Pk _ _ _ (by simp),Option.bind_some];unfold Ge;simp only [List.any_cons,List.any_nil,Bool.or_false];cases Hb 0 ((b.2.length:Int)-1) p.1 with
 | true=>rfl
 | false=>rw [if_pos (by decide),Pk _ _ _ (by simp),Option.bind_some];simp
theorem abO {α:Type} (f:α→Bool) (l:List α) (x:α):(l++[x]).any f=(l.any f || f x):=by simp
theorem Jo {α:Type} {l:List α} {i:Nat} (h:i<l.length):l.take (i+1)=l.take i++[l[i]]:=by
 rw [List.take_add_one,List.getElem?_eq_getElem h];rfl
theorem Ks {t:List Int} {c:Nat} {x:Int} (h:c<t.length):ix (t.set c x) (c:Int)=x:=by unfold ix;simp [List.getD_eq_getElem?_getD,h]
theorem Jg {t:List Int} {c j:Nat} {x:Int} (h:j≠c):ix (t.set c x) (j:Int)=ix t (j:Int):=by unfold ix;simp [List.getD_eq_getElem?_getD,List.getElem?_set_ne (Ne.symm h)]
theorem Rz {n:Nat} (j:Int):ix (List.replicate n (0:Int)) j=0:=by
 unfold ix;rw [List.getD_eq_getElem?_getD,List.getElem?_replicate];split <;> rfl
theorem YK {row:Row} {k:Unit→Option (Int×Int×Int)} (aj:row.length≤1000) (gY:∀ p∈row,0≤p.1∧p.1<10):∀ (m i:Nat) (z:Int) (t:List Int),z=i→i≤row.length→row.length-i<m→t.length=10 →
  (∀ j:Nat,j<10→(0<ix t (j:Int)↔((row.take i).any fun q=>decide (q.1=(j:Int)))=true))→KJ row k m z t=if Gv (row.take i) (row.drop i)=true then some (0,0,11) else k ()
 | 0,i,_,_,_,_,h,_,_=>absurd h (by omega)
 | m+1,i,_,t,rfl,hi,hm,aw,bW=>by
   rw [KJ];by_cases h:i<row.length
   ·have aD:=gY _ (List.getElem_mem h);obtain ⟨c,ak⟩:∃ c:Nat,row[i].1=(c:Int):=⟨row[i].1.toNat,by omega⟩;rw [HT h,Gt h,rn h,qp ⟨aD.1,aD.2,aw.symm⟩,List.drop_eq_getElem_cons h,Gv,ak];by_cases al:0<ix t (c:Int)
    ·rw [if_pos (decide_eq_true al),if_pos ((bW c (by omega)).1 al),if_pos rfl]
    ·rw [if_neg (by simpa using al),if_neg (fun e=>al ((bW c (by omega)).2 e)),qp ⟨by omega,by omega,aw.symm⟩,rq i (by omega),
      YK aj gY m (i+1) _ _ rfl (by omega) (by omega) (by simpa using aw) (fun j az=>?_),Jo h]
     rw [Jo h,abO,ak];by_cases o1:j=c
     ·subst o1;rw [Int.toNat_natCast,Ks (by omega)];simp
     ·rw [Int.toNat_natCast,Jg o1,bW j az];simp [show ¬ (c:Int)=(j:Int) by omega]
   ·rw [HS h,List.drop_eq_nil_of_le (by omega)];simp [Gv]
theorem YL {b:qb} {row:Row} {k:Int→Option (Int×Int×Int)} (aj:row.length≤1000) (gY:∀ p∈row,0≤p.1∧p.1<(b.2.length:Int)):∀ (m i:Nat) (z a:Int),z=i→i≤row.length→row.length-i<m →
  KK row b k m a z=match q1 b a (row.drop i) with | none=>some (0,0,27) | some aO=>k aO
 | 0,i,_,_,_,_,h=>absurd h (by omega)
 | m+1,i,_,a,rfl,hi,hm=>by
   rw [KK];by_cases h:i<row.length
   ·rw [HT h,Gt h,rn h,Ix (gY _ (List.getElem_mem h)),Option.bind_some,List.drop_eq_getElem_cons h,q1];by_cases ag:qX b row[i]=a
    ·rw [if_pos ag,if_neg (by simp [ag]),rq i (by omega),YL aj gY m (i+1) _ _ rfl (by omega) (by omega)]
    ·rw [if_neg ag,if_pos (decide_eq_true ag)]
   ·rw [HS h,List.drop_eq_nil_of_le (by omega)];rfl
theorem aiS (b:qb) (row:Row) (ag:b.2.length≤1000) (aj:row.length≤1000):LY b row=some (sn b row):=by
 rw [LY,Iw,Tk b ag,Option.bind_some];unfold sn;by_cases aT:q9 b≠0
 ·rw [if_pos (decide_eq_true aT),Option.bind_some];dsimp only;rw [if_pos (decide_eq_true aT),if_pos aT]
 have p8:=GM.1 (Decidable.not_not.1 aT);rw [if_neg (by simpa using aT),Option.bind_some,if_neg aT];dsimp only;rw [if_neg (by decide)];cases row with
 | nil=>rfl
 | cons p r =>
   rw [if_neg (by simp;omega),ajI (p:=Ge b) (fun q _=>ajH ag q) (by omega),Option.bind_some];dsimp only;by_cases ad:(p::r).any (Ge b)=true
   ·rw [if_pos ad,if_pos ad]
   rw [if_neg ad,if_neg ad,qp (by simp)];(have G1:(p::r).any (Ge b)=false:=by simpa using ad);rw [List.any_eq_false] at G1;have gY:∀ q∈p::r,0≤q.1∧q.1<(b.2.length:Int):=fun q bl=>by
    have:=KB.1 (by simpa using G1 q bl);exact ⟨this.1,this.2.1⟩
   have hlen:=p8.len;rw [YK aj (fun q bl=>by have:=gY q bl;omega) p' 0 0 _ rfl (Nat.zero_le _) (ru (by omega)) (by simp) (fun j az=>by rw [Rz];simp),List.take_zero,List.drop_zero];by_cases af:Gv [] (p::r)=true
   ·rw [if_pos af,if_pos af]
   rw [if_neg af,if_neg af,qp (by simp),show ix (p::r) (0:Int)=p from rfl,Ix (gY p (by simp)),Option.bind_some,YL aj gY p' 0 0 _ rfl (Nat.zero_le _) (ru (by omega)),List.drop_zero];cases q1 b (qX b p) (p::r) <;> rfl
theorem Zj {row:Row} {s:Int} (aj:row.length≤1000):∀ (m i:Nat) (z:Int),z=i→i≤row.length→row.length-i<m→K2 row s (fun _=>some false) m z=some ((row.drop i).any fun q=>decide (q.1=s))
 | 0,i,_,_,_,h=>absurd h (by omega)
 | m+1,i,_,rfl,hi,hm=>by
   rw [K2];by_cases h:i<row.length
   ·rw [HT h,Gt h,rn h,List.drop_eq_getElem_cons h,List.any_cons];by_cases aD:row[i].1=s
    ·rw [if_pos (decide_eq_true aD)];simp [aD]
    ·rw [if_neg (by simpa using aD),rq i (by omega),Zj aj m (i+1) _ rfl (by omega) (by omega)];simp [aD]
   ·rw [HS h,List.drop_eq_nil_of_le (by omega)];rfl
theorem Zi (row:Row) (s:Int) (aj:row.length≤1000):L9 row s=some (row.any fun q=>decide (q.1=s)):=by
 rw [L9,Zj aj p' 0 0 rfl (Nat.zero_le _) (ru (by omega)),List.drop_zero]
theorem Tm {b:qb} {p:Int×Int} (h:Ge b p=false):K1 b p=some (qX b p):=by
 have h:=KB.1 h;rw [K1];unfold qX;by_cases ad:p.2=1
 ·rw [if_pos (decide_eq_true ad),if_pos (by omega),qp ⟨by omega,by omega⟩]
 ·rw [if_neg (by simpa using ad),if_neg (by omega),qp ⟨by omega,by omega⟩]
theorem NM {b:qb} {p:Int×Int} (h:Ge b p=false):Jq b p=some (fin b p):=by
 have h:=KB.1 h;rw [Jq];unfold fin;by_cases ad:p.2=1
 ·rw [if_pos (decide_eq_true ad),if_pos (by omega),qp ⟨by omega,by omega⟩]
 ·rw [if_neg (by simpa using ad),if_neg (by omega),qp ⟨by omega,by omega⟩]
theorem YN {b:qb} {row:Row} {k:Unit→Option (Int×Int×Int)} (aj:row.length≤1000):∀ (m i:Nat) (z:Int),z=i→i≤row.length→row.length-i<m →
  KM b row k m z=if (row.drop i).any (Ge b)=true then some (0,0,3) else k ()
 | 0,i,_,_,_,h=>absurd h (by omega)
 | m+1,i,_,rfl,hi,hm=>by
   rw [KM];by_cases h:i<row.length
   ·rw [HT h,Gt h,rn h,List.drop_eq_getElem_cons h,List.any_cons];have e:Ge b row[i]=true↔row[i].1<0∨(b.2.length:Int)≤row[i].1∨row[i].2<0∨1<row[i].2:=by
     unfold Ge;rw [Bool.or_eq_true,M0,M0];omega
    by_cases ai:Ge b row[i]=true
    ·have a4:=e.1 ai;rw [ai,Bool.true_or,if_pos rfl];by_cases aB:row[i].1<0
     ·rw [if_pos (decide_eq_true aB)]
     rw [if_neg (by simpa using aB),Gt h];by_cases aF:(b.2.length:Int)≤row[i].1
     ·rw [if_pos (decide_eq_true aF)]
     rw [if_neg (by simpa using aF),Gt h];by_cases aS:row[i].2<0
     ·rw [if_pos (decide_eq_true aS)]
     rw [if_neg (by simpa using aS),Gt h,if_pos (decide_eq_true (by omega))]
    ·have a4:=(not_congr e).1 ai;(have lK:Ge b row[i]=false:=by simpa using ai);rw [lK,Bool.false_or,if_neg (by simp;omega),Gt h,if_neg (by simp;omega),Gt h,if_neg (by simp;omega),Gt h,if_neg (by simp;omega),rq i (by omega),YN aj m (i+1) _ rfl (by omega) (by omega)]
   ·rw [HS h,List.drop_eq_nil_of_le (by omega)];rfl
theorem YO {row:Row} {k:Unit→Option (Int×Int×Int)} (aj:row.length≤1000):∀ (m i:Nat) (z:Int),z=i→i≤row.length→row.length-i<m →
  KN row k m z=if Gv (row.take i) (row.drop i)=true then some (0,0,11) else k ()
 | 0,i,_,_,_,h=>absurd h (by omega)
 | m+1,i,_,rfl,hi,hm=>by
   rw [KN];by_cases h:i<row.length
   ·rw [HT h,qp ⟨by omega,by omega⟩,Gt h,rn h,Int.toNat_natCast,Zi _ _ (by simp;omega),Option.bind_some,List.drop_eq_getElem_cons h,Gv];by_cases al:((row.take i).any fun q=>decide (q.1=row[i].1))=true
    ·rw [if_pos al,if_pos al,if_pos rfl]
    ·rw [if_neg al,if_neg al,rq i (by omega),YO aj m (i+1) _ rfl (by omega) (by omega),Jo h]
   ·rw [HS h,List.drop_eq_nil_of_le (by omega)];simp [Gv]
theorem YP {b:qb} {row:Row} {k:Unit→Option (Int×Int×Int)} (aj:row.length≤1000) (gY:∀ p∈row,Ge b p=false):∀ (m i:Nat) (z:Int),z=((i+1:Nat):Int)→(hi:i<row.length)→row.length-i<m →
  KO b row k m z=match q1 b (fin b row[i]) (row.drop (i+1)) with | none=>some (0,0,27) | some _=>k ()
 | 0,i,_,_,_,h=>absurd h (by omega)
 | m+1,i,_,rfl,hi,hm=>by
   rw [KO];by_cases h:i+1<row.length
   ·rw [HT h,show w (((i+1:Nat):Int)-1)=((i:Nat):Int) by rw [Ia (by omega)];omega,Gt hi,rn hi,NM (gY _ (List.getElem_mem hi)),Option.bind_some,Gt h,rn h,Tm (gY _ (List.getElem_mem h)),Option.bind_some,List.drop_eq_getElem_cons h,q1];by_cases ag:qX b row[i+1]=fin b row[i]
    ·rw [if_pos ag,if_neg (by simp [ag]),rq (i+1) (by omega),YP aj gY m (i+1) _ rfl h (by omega)]
    ·rw [if_neg ag,if_pos (decide_eq_true (Ne.symm ag))]
   ·rw [HS h,List.drop_eq_nil_of_le (by omega)];rfl
theorem Xj {b:qb}:∀ (l:Row) (a aO:Int) (h:l≠[]),q1 b a l=some aO→aO=fin b (l.getLast h)
 | [],_,_,h,_=>absurd rfl h
 | [p],a,aO,_,h=>by
   rw [q1] at h;split at h
   ·rw [q1] at h;cases h;rfl
   ·cases h
 | p::q::r,a,aO,_,h=>by
   rw [q1] at h;split at h
   ·rw [List.getLast_cons (by simp)];exact Xj (q::r) _ aO (by simp) h
   ·cases h
theorem YM (b:qb) (row:Row) (ag:b.2.length≤1000) (aj:row.length≤1000):KL b row=some (sn b row):=by
 rw [KL,NB b ag,Option.bind_some];unfold sn;by_cases aT:q9 b≠0
 ·rw [if_pos (decide_eq_true aT),Option.bind_some,if_pos aT]
 rw [if_neg (by simpa using aT),if_neg aT];cases row with
 | nil=>rfl
 | cons p r =>
   rw [if_neg (by simp;omega),YN aj p' 0 0 rfl (Nat.zero_le _) (ru (by omega)),List.drop_zero];dsimp only;by_cases ad:(p::r).any (Ge b)=true
   ·rw [if_pos ad,if_pos ad]
   rw [if_neg ad,if_neg ad];(have G1:(p::r).any (Ge b)=false:=by simpa using ad);rw [List.any_eq_false] at G1;(have gY:∀ q∈p::r,Ge b q=false:=fun q bl=>by simpa using G1 q bl);rw [YO aj p' 0 0 rfl (Nat.zero_le _) (ru (by omega)),List.take_zero,List.drop_zero];by_cases af:Gv [] (p::r)=true
   ·rw [if_pos af,if_pos af]
   rw [if_neg af,if_neg af,YP aj gY p' 0 1 rfl (by simp) (ru (by omega))];rw [show q1 b (qX b p) (p::r)=q1 b (fin b p) r by rw [q1,if_pos rfl]];show (match q1 b (fin b p) r with | none=>_ | some _=>_)=_;cases aK:q1 b (fin b p) r with
   | none=>rfl
   | some a =>
     have aq:(r.length+1:Nat)=(p::r).length:=rfl;dsimp only
     rw [qp (by simp),show ix (p::r) (0:Int)=p from rfl,Tm (gY p (by simp)),Option.bind_some,
      show w (((p::r).length:Int)-1)=((r.length:Nat):Int) by rw [Ia (by omega)];omega,Gt (by simp),rn (by simp),NM (gY _ (List.getElem_mem _)),Option.bind_some]
     have:=Xj (p::r) (qX b p) a (by simp) (by rw [q1,if_pos rfl];exact aK);rw [this,List.getLast_eq_getElem];rfl
def IX (b:qb) (row:Row):Int:=let r:=sn b row;if r.2.2≠0 then r.2.2 else if row.length<b.2.length then 15 else if r.1≠r.2.1 then 27 else 0
theorem QD:∀ (r pre:Row),Gv pre r=false→(pre.map (·.1)).Nodup→((pre++r).map (·.1)).Nodup
 | [],pre,_,h=>by simpa using h
 | p::r,pre,h,aP=>by
   rw [Gv] at h;split at h
   ·cases h
   ·rename_i al
    have:=QD r (pre++[p]) h (by
     rw [List.map_append,List.nodup_append];refine ⟨aP,by simp,fun a cu c ak=>?_⟩;simp only [List.map_cons,List.map_nil,List.mem_singleton] at ak;subst ak;intro e;apply al;rw [List.any_eq_true];obtain ⟨q,bl,rfl⟩:=List.mem_map.1 cu
     exact ⟨q,bl,by simp [e]⟩)
    simpa using this
theorem Xw:∀ (a b:List Nat),a.Nodup→(∀ x∈a,x∈b)→a.length≤b.length
 | [],_,_,_=>Nat.zero_le _
 | x::a,b,aP,h=>by
   obtain ⟨ad,af⟩:=List.nodup_cons.1 aP;have al:=h x (by simp);have:=Xw a (b.erase x) af fun y aZ=>by
    have bY:y≠x:=fun e=>ad (e ▸ aZ);exact (List.mem_erase_of_ne bY).2 (h y (by simp [aZ]))
   rw [List.length_erase_of_mem al] at this;have:=List.length_pos_of_mem al;simp only [List.length_cons];omega
theorem MZ {l:List Int} {n:Nat} (h:l.Nodup) (ag:∀ x∈l,0≤x∧x<(n:Int)):l.length≤n:=by
 have ad:(l.map Int.toNat).Nodup:=by
  rw [List.Nodup,List.pairwise_map];refine h.imp_of_mem fun {a c} cu ak bY e=>bY ?_;have:=ag a cu;have:=ag c ak;omega
 have af:∀ x∈l.map Int.toNat,x∈List.range n:=fun x al=>by
  obtain ⟨y,aZ,rfl⟩:=List.mem_map.1 al;have:=ag y aZ;exact List.mem_range.2 (by omega)
 have:=Xw _ _ ad af;simpa using this
theorem ab_ {b:qb} {row:Row} (h:(sn b row).2.2=0):qJ b∧row≠[]∧(∀ p∈row,Ge b p=false)∧(row.map (·.1)).Nodup∧q1 b (sn b row).1 row=some (sn b row).2.1:=by
 unfold sn at h ⊢;by_cases aT:q9 b≠0
 ·rw [if_pos aT] at h;exact absurd h aT
 have p8:=GM.1 (Decidable.not_not.1 aT);rw [if_neg aT] at h ⊢;cases row with
 | nil=>simp at h
 | cons p r =>
   dsimp only at h ⊢;by_cases ad:(p::r).any (Ge b)=true
   ·rw [if_pos ad] at h;simp at h
   rw [if_neg ad] at h ⊢;(have G1:(p::r).any (Ge b)=false:=by simpa using ad);rw [List.any_eq_false] at G1;(have gY:∀ q∈p::r,Ge b q=false:=fun q bl=>by simpa using G1 q bl);by_cases af:Gv [] (p::r)=true
   ·rw [if_pos af] at h;simp at h
   rw [if_neg af] at h ⊢;(have Fy:Gv [] (p::r)=false:=by simpa using af);have a2:=QD (p::r) [] Fy (by simp);rw [List.nil_append] at a2;cases aK:q1 b (qX b p) (p::r) with
   | none=>rw [aK] at h;simp at h
   | some a=>exact ⟨p8,by simp,gY,a2,aK⟩
theorem ai2 (b:qb) (row:Row) (ag:b.2.length≤1000) (aj:row.length≤1000):L0 b row=some (IX b row):=by
 rw [L0,aiS b row ag aj,Option.bind_some];unfold IX;dsimp only;by_cases h:(sn b row).2.2=0
 ·rw [if_neg (c:=decide ((sn b row).2.2≠0)=true) (by simp [h]),if_neg (c:=(sn b row).2.2≠0) (by simp [h])];by_cases ad:row.length<b.2.length
  ·rw [if_pos (decide_eq_true (by omega)),if_pos ad]
  ·rw [if_neg (by simp;omega),if_neg ad];by_cases af:(sn b row).1≠(sn b row).2.1
   ·rw [if_pos (decide_eq_true af),if_pos af]
   ·rw [if_neg (by simpa using af),if_neg af]
 ·rw [if_pos (decide_eq_true h),if_pos h]
theorem ai4 (b:qb) (row:Row) (ag:b.2.length≤1000) (aj:row.length≤1000):KQ b row=some (IX b row):=by
 rw [KQ,YM b row ag aj,Option.bind_some];unfold IX;dsimp only;by_cases h:(sn b row).2.2=0
 ·rw [if_neg (c:=decide ((sn b row).2.2≠0)=true) (by simp [h]),if_neg (c:=(sn b row).2.2≠0) (by simp [h])];obtain ⟨_,_,aH,bh,_⟩:=ab_ h;have bM:row.length≤b.2.length:=by
   have:=MZ (n:=b.2.length) bh (fun x al=>by
    obtain ⟨p,aD,rfl⟩:=List.mem_map.1 al
    have:=KB.1 (aH p aD);omega)
   simpa using this
  by_cases ad:row.length<b.2.length
  ·rw [if_pos (decide_eq_true (by omega)),if_pos ad]
  ·rw [if_neg (by simp;omega),if_neg ad];by_cases af:(sn b row).1≠(sn b row).2.1
   ·rw [if_pos (decide_eq_true af),if_pos af]
   ·rw [if_neg (by simpa using af),if_neg af]
 ·rw [if_pos (decide_eq_true h),if_pos h]
end Go.Proofs.YtfakoboiahbhaaaGreat.Ab


namespace Go.Proofs.YtfakoboiahbhaaaGreat.Ab
open Go
set_option maxRecDepth 20000
set_option maxHeartbeats 4000000
noncomputable def aav:eM :=
 FY [gO 2 [.hA 0] .box,gO 3 [.hA 1] .box,gO 4 [.ij .junk] .iH] (FY [gO 5 [.hD 2,.hD 3] (.y6 113 0 2),FO 4 5] .ret)
theorem afj:yQ Tryz.prog UA 89=some (aav,6,[.tmp 4]):=by kernel_rfl
def Ps (t:qn) (figure:Int):Option Unit :=
 some ()
theorem aj7 {t:qn} {figure:Int} {v:Unit} (h:Ps t figure=some v):qC 89 [(.bT [(hG t.1),(.ax (t.2.flatMap p6) t.2.length .shared)]),(hG figure)] (.func 113 [] [(.bT [(.bT [(hG t.1),(.ax (t.2.flatMap p6) t.2.length .shared)])]),(.bT [(hG figure)])]):=by
 refine qN dD afj rfl (Ip rfl (p5 (q' (p5 (q' (p5 rfl (p5 (q4 (fun _=>(p5 rfl (p5 rfl rfl))) _ _ _) rfl))) rfl)) (p5 (q' (p5 rfl rfl)) rfl))) fun Q bz=>?_;have lj:∀ T H,HZ [.tmp 4] (.func 113 [] [(.bT [(.bT [(hG t.1),(qf t.2 .shared)])]),(.bT [(hG figure)])]) .ret T H→Q .ret T H:=fun T H bJ=>bz _ T H bJ;unfold Ps at h;unfold aav;conv=>whnf
 exact lj _ _ ⟨.inr rfl,_,rfl,_,(acH Wa (V' (Vj (l:=[(.bT [(hG t.1),(qf t.2 .shared)])]) (by first | exact qs.h | rfl | (simp [List.getElem?_append,I.settle];done)) (p5 (q' (p5 rfl (p5 (q4 (fun _=>(p5 rfl (p5 rfl rfl))) _ _ _) rfl))) rfl)) (V' (Vj (l:=[(hG figure)]) (by first | exact qs.h | rfl | (simp [List.getElem?_append,I.settle];done)) (p5 rfl rfl)) Wa))),rfl⟩

def Po (qh:qa→Option qa):Nat→Int→qa→Option qa
 | 0,_,_=>none
 | m+1,s1,s2 =>
   if (decide (s1<(6:Int)))=true then
    qd (0≤s1∧s1<(6:Int)∧6=s2.length) <|
    Po qh m (w (s1+(1:Int))) (s2.set s1.toNat (-1:Int))
   else
    qh s2
def NQ (t:qn) (LU:Int) (qk:qa) (ahl:qa×qa) (e1:(Int×Int)):Option (qa×qa) :=
 match ahl with
 | (t1,t2) =>
   (J3 t e1).bind fun r2 =>
   if (decide (e1.1≠LU))=true then
    qd (0≤r2.2∧r2.2<(6:Int)∧6=t2.length) <|
    if (decide ((ix t2 r2.2)<(0:Int)))=true then
     qd (0≤(ix qk (0:Int))∧(ix qk (0:Int))<(6:Int)∧6=t2.length) <|
     qd (0≤r2.2∧r2.2<(6:Int)∧6=t2.length) <|
     qd ((t1.length+1)*8≤140737488355328) <|
     some ((t1++[r2.2]),(t2.set r2.2.toNat (w ((ix t2 (ix qk (0:Int)))+(1:Int)))))
    else
     some (t1,t2)
   else
    some (t1,t2)
def Pp (t:qn) (LU:Int) (qK:qa→Option qa):Nat→qa→qa→Option qa
 | 0,_,_=>none
 | m+1,nL,qk =>
   if (decide ((0:Int)<(qk.length:Int)))=true then
    qd (0≤(0:Int)∧(0:Int)<(qk.length:Int)) <|
    qd (0≤(1:Int)∧(1:Int)≤(qk.length:Int)) <|
    (Ps t (ix qk (0:Int))).bind fun aR =>
    (JR t (ix qk (0:Int))).bind fun dA =>
    (Hk (NQ t LU qk) dA ((qk.drop (1:Int).toNat),nL)).bind fun ew =>
    Pp t LU qK m ew.2 ew.1
   else
    qK nL
def Zq (t:qn) (to LU:Int):Option qa :=
 Po (fun xt =>
   qd (0≤to∧to<(6:Int)∧6=xt.length) <|
   Pp t LU (fun n0 =>
     qd (n0.length=6) <|
     qd (n0.length=6∧(List.replicate 6 (0:Int)).length=6) <|
     qd (n0.length=6) <|
     some n0) p' (xt.set to.toNat (0:Int)) [to]) p' (0:Int) (List.replicate 6 (0:Int))
end Go.Proofs.YtfakoboiahbhaaaGreat.Ab


namespace Go.Proofs.YtfakoboiahbhaaaGreat.Ab
open Go
def GB (b:qb) (wo f g:Int):Prop:=∃ p∈Ga b f,p.1≠wo∧fin b p=g
def Gh (b:qb) (wo:Int):Nat→Int→Int→Prop
 | 0,a,g=>a=g
 | n+1,a,g=>∃ f,Gh b wo n a f∧GB b wo f g
def Pa (b:qb) (wo f:Int) (s:List Int×List Int) (p:Int×Int):List Int×List Int :=
 if p.1≠wo∧ix s.2 (fin b p)<0 then (s.1++[fin b p],s.2.set (fin b p).toNat (ix s.2 f+1)) else s
theorem afP {n r:Nat} (h:r<2*n):0≤(rv r).1∧(rv r).1<(n:Int)∧0≤(rv r).2∧(rv r).2≤1:=by
 unfold rv;simp only;omega
theorem RK {b:qb} {f:Int} {p:Int×Int} (h:p∈Ga b f):0≤p.1∧p.1<(b.2.length:Int)∧0≤p.2∧p.2≤1∧qX b p=f:=by
 unfold Ga at h;obtain ⟨r,aj,rfl⟩:=List.mem_map.1 h;obtain ⟨ad,af⟩:=List.mem_filter.1 aj;have:=afP (List.mem_range.1 ad);exact ⟨this.1,this.2.1,this.2.2.1,this.2.2.2,by simpa [rY] using af⟩
theorem MV {l:List (Int×Int)} {i:Int} (h:0≤i∧i<(l.length:Int)):ix l i∈l:=by
 obtain ⟨k,rfl⟩:∃ k:Nat,i=(k:Int):=⟨i.toNat,by omega⟩;rw [rn (by omega)];exact List.getElem_mem _
theorem N_ {b:qb} (p8:qJ b) {f:Int} {p:Int×Int} (h:p∈Ga b f):0≤fin b p∧fin b p<b.1:=by
 have h:=RK h;have hm:=MV (l:=b.2) ⟨h.1,h.2.1⟩;unfold fin;split
 ·exact p8.left _ hm
 ·exact p8.right _ hm
def HN (D:List Int):Nat:=D.countP fun x=>decide (x<0)
theorem QM:∀ (D:List Int) (j:Nat) (x:Int) (h:j<D.length),D[j]<0→0≤x→HN (D.set j x)+1=HN D
 | a::D,0,x,_,ad,af=>by
   have ad:a<0:=ad;simp [HN,List.countP_cons,ad,show ¬ x<0 by omega]
 | a::D,j+1,x,h,ad,af=>by
   have:=QM D j x (by simpa using h) ad af;simp only [HN,List.set_cons_succ,List.countP_cons] at this ⊢;omega
theorem ajX {b:qb} (p8:qJ b) {wo f:Int} {Q0:List Int} (aN:ix Q0 (0:Int)=f∧0≤f∧f<b.1) {s:List Int×List Int} {p:Int×Int} (aD:p∈Ga b f) (aq:s.2.length=6) (aj:s.1.length+HN s.2≤1000) (a2:-1≤ix s.2 f∧ix s.2 f≤100) :
  NQ b wo Q0 s p=some (Pa b wo f s p):=by
 obtain ⟨t1,t2⟩:=s;have hT:=RK aD;have BM:=N_ p8 aD;have bU:=p8.f6;simp only at aq aj a2;rw [NQ];simp only [Ix ⟨hT.1,hT.2.1⟩,Option.bind_some,aN.1];unfold Pa;by_cases ad:p.1≠wo
 ·rw [if_pos (decide_eq_true ad),qp ⟨by omega,by omega,aq.symm⟩];by_cases af:ix t2 (fin b p)<0
  ·rw [if_pos (decide_eq_true af),qp ⟨by omega,by omega,aq.symm⟩,qp ⟨by omega,by omega,aq.symm⟩,qp (by omega),Ia (by omega),if_pos ⟨ad,af⟩]
  ·rw [if_neg (by simpa using af),if_neg (by simp [af])]
 ·rw [if_neg (by simpa using ad),if_neg (by simp [ad])]
structure Lg (b:qb) (wo f:Int) (Q0 D0:List Int) (GK:List (Int×Int)) (s:List Int×List Int):Prop where
 len:s.2.length=6
 U0:s.1.length+HN s.2=Q0.length+HN D0
 fH:∀ g:Nat,g<6→0≤ix D0 (g:Int)→ix s.2 (g:Int)=ix D0 (g:Int)
 new:∀ g:Nat,g<6→ix D0 (g:Int)<0→ix s.2 (g:Int)=ix D0 (g:Int)∨(ix s.2 (g:Int)=ix D0 f+1∧GB b wo f (g:Int)∧(g:Int)∈s.1)
 akP:∃ N,s.1=Q0++N∧∀ g∈N,0≤g∧g<b.1∧ix s.2 g=ix D0 f+1
 GK:∀ p∈GK,p.1≠wo→0≤ix s.2 (fin b p)
theorem Lg.step {b:qb} (p8:qJ b) {wo f:Int} {Q0 D0:List Int} (aN:0≤f∧f<b.1) (a2:0≤ix D0 f) {GK:List (Int×Int)} {s:List Int×List Int} (h:Lg b wo f Q0 D0 GK s) {p:Int×Int} (aD:p∈Ga b f):Lg b wo f Q0 D0 (GK++[p]) (Pa b wo f s p):=by
 obtain ⟨Q,D⟩:=s;obtain ⟨ad,af,aH,bh,⟨N,bM,bU⟩,cM⟩:=h;simp only at ad af aH bh bM bU cM;have BM:=N_ p8 aD;have ME:=p8.f6;obtain ⟨a,cu⟩:∃ a:Nat,fin b p=(a:Int):=⟨(fin b p).toNat,by omega⟩;obtain ⟨c,ak⟩:∃ c:Nat,f=(c:Int):=⟨f.toNat,by omega⟩;have Vu:ix D f=ix D0 f:=by rw [ak];exact aH c (by omega) (by rw [←ak];exact a2)
 unfold Pa;by_cases al:p.1≠wo∧ix D (fin b p)<0
 ·rw [if_pos al,cu,Int.toNat_natCast,Vu];have Rw:ix D (a:Int)<0:=by rw [←cu];exact al.2
  have MF:ix D0 (a:Int)<0:=by
   refine Classical.byContradiction fun bJ=>?_;have:=aH a (by omega) (by omega);omega
  have acV:D[a]'(by omega)<0:=by rw [rn (by omega)] at Rw;exact Rw
  have G5:ix (D.set a (ix D0 f+1)) (a:Int)=ix D0 f+1:=Ks (by omega);refine ⟨by simpa using ad,?_,fun g aK ya=>?_,fun g aK ya=>?_,⟨N++[(a:Int)],by simp [bM],fun g aK=>?_⟩,fun q bl Oz=>?_⟩
  ·have:=QM D a (ix D0 f+1) (by omega) acV (by omega);simp only [List.length_append,List.length_singleton];omega
  ·(have bY:g≠a:=fun e=>by subst e;omega);simp only;rw [Jg bY];exact aH g aK ya
  ·by_cases MN:g=a
   ·subst MN;exact .inr ⟨G5,⟨p,aD,al.1,cu⟩,by simp⟩
   ·simp only;rw [Jg MN];rcases bh g aK ya with e | ⟨e,cd,dw⟩
    ·exact .inl e
    ·exact .inr ⟨e,cd,by simp [dw]⟩
  ·rcases List.mem_append.1 aK with aK | aK
   ·obtain ⟨aL,aQ,ch⟩:=bU g aK;obtain ⟨Fw,rfl⟩:∃ Fw:Nat,g=(Fw:Int):=⟨g.toNat,by omega⟩;refine ⟨aL,aQ,?_⟩;by_cases MN:Fw=a
    ·subst MN;exact G5
    ·simp only;rw [Jg MN];exact ch
   ·simp only [List.mem_singleton] at aK;subst aK;exact ⟨by omega,by omega,G5⟩
  ·have key:0≤ix D (fin b q)∨fin b q=(a:Int):=by
    rcases List.mem_append.1 bl with bl | bl
    ·exact .inl (cM q bl Oz)
    ·simp only [List.mem_singleton] at bl;subst bl;exact .inr cu
   rcases key with key | key
   ·rcases Classical.em (fin b q=(a:Int)) with e | e
    ·simp only;rw [e,G5];omega
    ·have:ix (D.set a (ix D0 f+1)) (fin b q)=ix D (fin b q):=by
      unfold ix;rcases Int.lt_or_le (fin b q) 0 with aP | aP
      ·(have fP:(fin b q).toNat=0:=by omega);rw [fP];rw [List.getD_eq_getElem?_getD];by_cases VA:a=0
       ·subst VA;exfalso;have k:=key;unfold ix at k;rw [fP,List.getD_eq_getElem?_getD] at k;rw [rn (by omega)] at Rw;rw [List.getElem?_eq_getElem (by omega)] at k;simp at k;omega
       ·rw [List.getElem?_set_ne VA];rfl
      ·rw [List.getD_eq_getElem?_getD,List.getElem?_set_ne (by omega)];rfl
     simp only;rw [this];exact key
   ·simp only;rw [key,G5];omega
 ·rw [if_neg al];refine ⟨ad,af,aH,bh,⟨N,bM,bU⟩,fun q bl Oz=>?_⟩;rcases List.mem_append.1 bl with bl | bl
  ·exact cM q bl Oz
  ·simp only [List.mem_singleton] at bl;subst bl
   have:¬ ix D (fin b q)<0:=fun e=>al ⟨Oz,e⟩
   simp only;omega
theorem Vh {b:qb} (p8:qJ b) {wo f:Int} {Q0 D0:List Int} (aN:0≤f∧f<b.1) (a2:0≤ix D0 f) (adn:ix D0 f≤50) {Qh:List Int} (bl:ix Qh (0:Int)=f) (eh:Q0.length+HN D0≤100):∀ (l GK:List (Int×Int)) (s:List Int×List Int),(∀ p∈l,p∈Ga b f)→Lg b wo f Q0 D0 GK s →
  ∃ aI,Hk (NQ b wo Qh) l s=some aI∧Lg b wo f Q0 D0 (GK++l) aI
 | [],GK,s,_,h=>⟨s,rfl,by simpa using h⟩
 | p::l,GK,s,aq,h=>by
   have aD:=aq p (by simp);have ME:=p8.f6;obtain ⟨c,ak⟩:∃ c:Nat,f=(c:Int):=⟨f.toNat,by omega⟩;(have Vu:ix s.2 f=ix D0 f:=by rw [ak];exact h.fH c (by omega) (by rw [←ak];exact a2));obtain ⟨aI,e1,cd⟩:=Vh p8 aN a2 adn bl eh l (GK++[p]) _ (fun q bl=>aq q (by simp [bl])) (h.step p8 aN a2 aD);have hO:=h.U0;refine ⟨aI,?_,by simpa using cd⟩;rw [Hk,ajX p8 ⟨bl,aN⟩ aD h.len (by omega) (by omega),Option.bind_some];exact e1
structure IE (b:qb) (wo to:Int) (Q D:List Int):Prop where
 len:D.length=6
 q:∀ f∈Q,0≤f∧f<b.1∧0≤ix D f
 room:Q.length+HN D≤6
 small:∀ g:Nat,g<6→0≤ix D (g:Int)→ix D (g:Int)+HN D≤5
 walk:∀ g:Nat,g<6→0≤ix D (g:Int)→Gh b wo (ix D (g:Int)).toNat to (g:Int)
 sort:Q.Pairwise fun x y=>ix D x≤ix D y
 top:∀ f r,Q=f::r→∀ g:Nat,g<6→ix D (g:Int)≤ix D f+1
 proc:∀ g:Nat,g<6→0≤ix D (g:Int)→(g:Int) ∉ Q→∀ h,GB b wo (g:Int) h→0≤ix D h∧ix D h≤ix D (g:Int)+1
 zero:0≤to∧to<6∧ix D to=0
theorem GB.in {b:qb} (p8:qJ b) {wo f g:Int} (h:GB b wo f g):0≤g∧g<b.1:=by
 obtain ⟨p,ad,_,rfl⟩:=h;exact N_ p8 ad
theorem IE.next {b:qb} (p8:qJ b) {wo to f:Int} {r D:List Int} (h:IE b wo to (f::r) D) {s:List Int×List Int} (ai:Lg b wo f r D (Ga b f) s):IE b wo to s.1 s.2:=by
 obtain ⟨cD,I5⟩:=s;obtain ⟨aL,aQ,ch,lW,⟨N,CH,Kt⟩,VY⟩:=ai;simp only at aL aQ ch lW CH Kt VY;subst CH;have ME:=p8.f6;have VH:=h.q f (by simp);obtain ⟨c,ak⟩:∃ c:Nat,f=(c:Int):=⟨f.toNat,by omega⟩;have yj:∀ g:Int,0≤g→g<6→∃ n:Nat,g=(n:Int)∧n<6:=fun g ad af=>⟨g.toNat,by omega,by omega⟩;have hold:∀ g:Int,0≤g→g<6→0≤ix D g→ix I5 g=ix D g:=fun g ad af aH=>by
  obtain ⟨n,rfl,aP⟩:=yj g ad af;exact ch n aP aH
 have hle:∀ g:Nat,g<6→ix I5 (g:Int)≤ix D f+1:=fun g aK=>by
  rcases Int.lt_or_le (ix D (g:Int)) 0 with aT | aT
  ·rcases lW g aK aT with e | e
   ·omega
   ·omega
  ·rw [ch g aK aT];exact h.top f r rfl g aK
 have aj:∀ x∈r,0≤x∧x<b.1∧0≤ix D x∧ix I5 x=ix D x:=fun x al=>by
  have:=h.q x (by simp [al]);exact ⟨this.1,this.2.1,this.2.2,hold x this.1 (by omega) this.2.2⟩
 have Cy:=List.pairwise_cons.1 h.sort;have eh:=h.room;simp only [List.length_cons] at eh;refine ⟨aL,fun g aK=>?_,by simp only;omega,fun g aK aT=>?_,fun g aK aT=>?_,?_,fun Mw r' he g aK=>?_,fun g aK aT Rq a4 he=>?_,⟨h.zero.1,h.zero.2.1,by simp only;rw [hold to h.zero.1 h.zero.2.1 (by have:=h.zero.2.2;omega)];exact h.zero.2.2⟩⟩
 ·rcases List.mem_append.1 aK with aK | aK
  ·have:=aj g aK;exact ⟨this.1,this.2.1,by simp only;omega⟩
  ·have:=Kt g aK;exact ⟨this.1,this.2.1,by simp only;omega⟩
 ·have BP:=h.small c (by omega) (by rw [←ak];omega);rw [←ak] at BP;simp only [List.length_append] at aQ;rcases Int.lt_or_le (ix D (g:Int)) 0 with ad | ad
  ·rcases lW g aK ad with e | e
   ·simp only at aT;omega
   ·have Ha:1≤N.length:=by
     rcases List.mem_append.1 e.2.2 with dw | dw
     ·have:=(aj _ dw).2.2.1;omega
     ·exact List.length_pos_of_mem dw
    simp only;omega
  ·have:=h.small g aK ad;simp only;rw [ch g aK ad];omega
 ·rcases Int.lt_or_le (ix D (g:Int)) 0 with ad | ad
  ·rcases lW g aK ad with e | ⟨e,cd,_⟩
   ·simp only at aT;omega
   ·simp only;rw [e,show (ix D f+1).toNat=(ix D f).toNat+1 by omega];exact ⟨f,by have:=h.walk c (by omega) (by rw [←ak];omega);rw [ak];rw [←ak] at this ⊢;exact this,cd⟩
  ·simp only;rw [ch g aK ad];exact h.walk g aK ad
 ·simp only;rw [List.pairwise_append];refine ⟨Cy.2.imp_of_mem fun {x y} al aZ GD=>by rw [(aj x al).2.2.2,(aj y aZ).2.2.2];exact GD,?_,fun x al y aZ=>?_⟩
  ·exact List.Pairwise.imp_of_mem (R:=fun _ _=>True) (fun {x y} al aZ _=>by rw [(Kt x al).2.2,(Kt y aZ).2.2];omega) (List.pairwise_of_forall fun _ _=>trivial)
  ·obtain ⟨n,rfl,aP⟩:=yj x (aj x al).1 (by have:=(aj x al).2.1;omega);rw [(Kt y aZ).2.2];exact hle n aP
 ·simp only at he ⊢;have Ot:ix D f≤ix I5 Mw:=by
   (have hm:Mw∈r++N:=by rw [he];simp);rcases List.mem_append.1 hm with hm | hm
   ·rw [(aj Mw hm).2.2.2];exact Cy.1 Mw hm
   ·rw [(Kt Mw hm).2.2];omega
  have:=hle g aK;omega
 ·simp only at aT Rq ⊢;have bJ:=GB.in p8 he;rcases Classical.em ((g:Int)=f) with e | e
  ·rw [e] at he ⊢;obtain ⟨n,rfl,aP⟩:=yj a4 bJ.1 (by omega);rw [hold f VH.1 (by omega) VH.2.2];obtain ⟨p,bP,b4,ev⟩:=he;exact ⟨by rw [←ev];exact VY p bP b4,hle n aP⟩
  ·rcases Int.lt_or_le (ix D (g:Int)) 0 with ad | ad
   ·rcases lW g aK ad with cd | ⟨_,_,dw⟩
    ·omega
    ·exact absurd dw Rq
   ·have:=h.proc g aK ad (fun hm=>by
     rcases List.mem_cons.1 hm with cd | cd
     ·exact e cd
     ·exact Rq (List.mem_append_left _ cd)) a4 he
    rw [ch g aK ad,hold a4 bJ.1 (by omega) this.1];exact this
theorem Zs {b:qb} (p8:qJ b) {wo to:Int} {k:List Int→Option (List Int)}:∀ (m:Nat) (Q D:List Int),IE b wo to Q D→Q.length+HN D<m→∃ I5,IE b wo to [] I5∧Pp b wo k m D Q=k I5
 | 0,_,_,_,h=>absurd h (by omega)
 | m+1,Q,D,cg,hm=>by
   rw [Pp];have ME:=p8.f6;have aq:=p8.len;cases Q with
   | nil=>rw [if_neg (by simp)];exact ⟨D,cg,rfl⟩
   | cons f r =>
     have aN:=cg.q f (by simp);obtain ⟨c,ak⟩:∃ c:Nat,f=(c:Int):=⟨f.toNat,by omega⟩;have adV:=cg.small c (by omega) (by rw [←ak];omega);rw [←ak] at adV;have eh:=cg.room;simp only [List.length_cons] at eh hm;obtain ⟨aI,e1,cd⟩:=Vh p8 ⟨aN.1,aN.2.1⟩ aN.2.2 (by omega) (Qh:=f::r) rfl (by omega) (Q0:=r) (D0:=D) (wo:=wo) (Ga b f) [] (r,D) (fun p h=>h) ⟨cg.len,rfl,fun _ _ _=>rfl,fun _ _ _=>.inl rfl,⟨[],by simp,by simp⟩,by simp⟩;rw [List.nil_append] at cd;have hO:=cd.U0;obtain ⟨I5,d1,d2⟩:=Zs p8 m aI.1 aI.2 (IE.next p8 cg cd) (by omega);refine ⟨I5,d1,?_⟩;rw [if_pos (decide_eq_true (by simp)),qp (by simp),qp ⟨by omega,by simp only [List.length_cons];omega⟩,show ix (f::r) (0:Int)=f from rfl,Ps,Option.bind_some,JR,if_pos (by omega),Option.bind_some];show ((Hk (NQ b wo (f::r)) (Ga b f) (r,D)).bind _)=_;rw [e1,Option.bind_some];exact d2
structure Mg (b:qb) (wo to:Int) (D:List Int):Prop where
 len:D.length=6
 walk:∀ g:Nat,g<6→0≤ix D (g:Int)→Gh b wo (ix D (g:Int)).toNat to (g:Int)
 least:∀ (n:Nat) (g:Int),Gh b wo n to g→0≤g∧g<6∧0≤ix D g∧ix D g≤n
 small:∀ g:Nat,g<6→ix D (g:Int)≤5
theorem IE.acx {b:qb} (p8:qJ b) {wo to:Int} {D:List Int} (h:IE b wo to [] D):Mg b wo to D:=by
 have ME:=p8.f6;refine ⟨h.len,h.walk,fun n=>?_,fun g aK=>?_⟩
 ·induction n with
  | zero =>
    intro g aK;have aK:to=g:=aK;subst aK;have:=h.zero;exact ⟨this.1,this.2.1,by omega,by omega⟩
  | succ n a9 =>
    rintro g ⟨f,ad,af⟩;obtain ⟨i1,i2,i3,i4⟩:=a9 f ad;obtain ⟨c,rfl⟩:∃ c:Nat,f=(c:Int):=⟨f.toNat,by omega⟩;have aD:=h.proc c (by omega) i3 (by simp) g af;have hi:=GB.in p8 af;exact ⟨hi.1,by omega,aD.1,by omega⟩
 ·rcases Int.lt_or_le (ix D (g:Int)) 0 with ad | ad
  ·omega
  ·have:=h.small g aK ad;omega
theorem Zr {k:List Int→Option (List Int)}:∀ (m i:Nat) (z:Int) (D:List Int),z=i→i≤6→6-i<m→D.length=6→(∀ j:Nat,j<i→ix D (j:Int)=-1)→Po k m z D=k (List.replicate 6 (-1))
 | 0,i,_,_,_,_,h,_,_=>absurd h (by omega)
 | m+1,i,_,D,rfl,hi,hm,aq,rJ=>by
   rw [Po];by_cases h:i<6
   ·rw [if_pos (decide_eq_true (by omega)),qp ⟨by omega,by omega,aq.symm⟩,rq i (by omega),Int.toNat_natCast];refine Zr m (i+1) _ _ rfl (by omega) (by omega) (by simpa using aq) fun j az=>?_;by_cases ly:j=i
    ·subst ly;exact Ks (by omega)
    ·rw [Jg ly];exact rJ j (by omega)
   ·rw [if_neg (by simp;omega)];congr 1;refine List.ext_getElem (by simp [aq]) fun j ad af=>?_;have:=rJ j (by omega);rw [rn ad] at this;rw [this,List.getElem_replicate]
theorem ajW {b:qb} (p8:qJ b) {wo to:Int} (aw:0≤to∧to<b.1):∃ D,Zq b to wo=some D∧Mg b wo to D:=by
 have ME:=p8.f6;obtain ⟨c,ak⟩:∃ c:Nat,to=(c:Int):=⟨to.toNat,by omega⟩;subst ak;have G5:ix ((List.replicate 6 (-1:Int)).set c 0) (c:Int)=0:=Ks (by simp;omega);have Oy:∀ g:Nat,g<6→g≠c→ix ((List.replicate 6 (-1:Int)).set c 0) (g:Int)=-1:=fun g aK bY=>by
  rw [Jg bY,rn (by rw [List.length_replicate];omega),List.getElem_replicate]
 have Rj:HN ((List.replicate 6 (-1:Int)).set c 0)=5:=by
  have:=QM (List.replicate 6 (-1:Int)) c 0 (by rw [List.length_replicate];omega) (by rw [List.getElem_replicate];omega) (by omega);have e:HN (List.replicate 6 (-1:Int))=6:=by decide
  omega
 have cg:IE b wo (c:Int) [(c:Int)] ((List.replicate 6 (-1:Int)).set c 0):=by
  refine ⟨by simp,fun f aN=>?_,by rw [Rj];simp,fun g aK aT=>?_,fun g aK aT=>?_,by simp,fun f r he g aK=>?_,fun g aK aT aP h he=>?_,⟨by omega,by omega,G5⟩⟩
  ·simp only [List.mem_singleton] at aN;subst aN;exact ⟨aw.1,aw.2,by rw [G5];omega⟩
  ·by_cases e:g=c
   ·subst e;rw [G5,Rj];omega
   ·rw [Oy g aK e] at aT;omega
  ·by_cases e:g=c
   ·subst e;rw [G5];exact rfl
   ·rw [Oy g aK e] at aT;omega
  ·simp only [List.cons.injEq] at he;obtain ⟨rfl,_⟩:=he;rw [G5];by_cases e:g=c
   ·subst e;rw [G5];omega
   ·rw [Oy g aK e];omega
  ·by_cases e:g=c
   ·subst e;simp at aP
   ·rw [Oy g aK e] at aT;omega
 obtain ⟨D,d1,d2⟩:=Zs p8 (k:=fun n0 =>
         qd (n0.length=6) <|
         qd (n0.length=6∧(List.replicate 6 (0:Int)).length=6) <|
         qd (n0.length=6) <|
         some n0) p' _ _ cg (ru (by rw [Rj];simp))
 refine ⟨D,?_,IE.acx p8 d1⟩;rw [Zq,Zr p' 0 0 _ rfl (by omega) (ru (by omega)) (by simp) (fun j az=>absurd az (by omega)),qp ⟨by omega,by omega,by simp⟩,Int.toNat_natCast,d2];have:=d1.len;rw [qp this,qp ⟨this,by simp⟩,qp this]
end Go.Proofs.YtfakoboiahbhaaaGreat.Ab


namespace Go.Proofs.YtfakoboiahbhaaaGreat.Ab
open Go
set_option maxRecDepth 20000
set_option maxHeartbeats 4000000
end Go.Proofs.YtfakoboiahbhaaaGreat.Ab


namespace Go.Proofs.YtfakoboiahbhaaaGreat.Ab
open Go
theorem JL {b:qb} {f:Int} {p:Int×Int}:p∈Ga b f↔0≤p.1∧p.1<(b.2.length:Int)∧0≤p.2∧p.2≤1∧qX b p=f:=by
 refine ⟨RK,fun ⟨ad,af,aH,bh,bM⟩=>?_⟩;have e:rv (2*p.1.toNat+p.2.toNat)=p:=by
  rw [OM (n:=b.2.length) (by omega) (by omega)];exact Prod.ext (by simp only;omega) (by simp only;omega)
 refine List.mem_map.2 ⟨2*p.1.toNat+p.2.toNat,List.mem_filter.2 ⟨List.mem_range.2 (by omega),?_⟩,e⟩;rw [rY,e];exact decide_eq_true bM
def Ke (p:Int×Int):Int×Int:=(p.1,1-p.2)
theorem abT {b:qb} {p:Int×Int} (h:0≤p.2∧p.2≤1):qX b (Ke p)=fin b p:=by
 unfold qX fin Ke;simp only;by_cases ad:0<p.2
 ·rw [if_neg (by omega),if_pos ad]
 ·rw [if_pos (by omega),if_neg ad]
theorem acC {b:qb} {p:Int×Int} (h:0≤p.2∧p.2≤1):fin b (Ke p)=qX b p:=by
 unfold qX fin Ke;simp only;by_cases ad:0<p.2
 ·rw [if_neg (by omega),if_pos ad]
 ·rw [if_pos (by omega),if_neg ad]
theorem GB.symm {b:qb} {wo f g:Int} (h:GB b wo f g):GB b wo g f:=by
 obtain ⟨p,ad,af,aH⟩:=h;have aD:=JL.1 ad;exact ⟨Ke p,JL.2 ⟨aD.1,aD.2.1,by simp only [Ke];omega,by simp only [Ke];omega,by rw [abT ⟨aD.2.2.1,aD.2.2.2.1⟩,aH]⟩,af,by rw [acC ⟨aD.2.2.1,aD.2.2.2.1⟩,aD.2.2.2.2]⟩
theorem Gh.cons {b:qb} {wo:Int}:∀ {n:Nat} {a c g:Int},GB b wo a c→Gh b wo n c g→Gh b wo (n+1) a g
 | 0,a,c,g,h,(k:c=g)=>⟨a,rfl,k ▸ h⟩
 | n+1,a,c,g,h,⟨f,aL,aQ⟩=>⟨f,Gh.cons h aL,aQ⟩
theorem Gh.symm {b:qb} {wo:Int}:∀ {n:Nat} {a g:Int},Gh b wo n a g→Gh b wo n g a
 | 0,_,_,(h:_=_)=>h.symm
 | _+1,_,_,⟨_,ad,af⟩=>Gh.cons af.symm ad.symm
theorem Gh.gN {b:qb} {wo:Int} {n:Nat} {a g:Int} (h:Gh b wo (n+1) a g):∃ c,GB b wo a c∧Gh b wo n c g:=by
 obtain ⟨f,ad,af⟩:=h.symm;exact ⟨f,af.symm,ad.symm⟩
theorem aft {b:qb} (p8:qJ b) {wo to f:Int} {D:List Int} (rJ:Mg b wo to D) {n:Nat} (aN:0≤f∧f<6) (aP:ix D f=((n+1:Nat):Int)):∃ p∈Ga b f,p.1≠wo∧ix D (fin b p)=(n:Int):=by
 obtain ⟨c,rfl⟩:∃ c:Nat,f=(c:Int):=⟨f.toNat,by omega⟩;have hw:=rJ.walk c (by omega) (by omega);rw [aP] at hw;obtain ⟨e,he,hw⟩:=hw.symm.gN;have aq:=rJ.least n e hw.symm;have o4:(n:Int)≤ix D e:=by
  refine Classical.byContradiction fun bJ=>?_;have af:=rJ.walk e.toNat (by omega) (by rw [Int.toNat_of_nonneg aq.1];exact aq.2.2.1);rw [Int.toNat_of_nonneg aq.1] at af;have:=(rJ.least ((ix D e).toNat+1) (c:Int) ⟨e,af,he.symm⟩).2.2.2;omega
 obtain ⟨p,ad,af,aH⟩:=he;exact ⟨p,ad,af,by rw [aH];omega⟩
end Go.Proofs.YtfakoboiahbhaaaGreat.Ab


namespace Go.Proofs.YtfakoboiahbhaaaGreat.Ab
open Go
set_option maxRecDepth 20000
set_option maxHeartbeats 4000000

end Go.Proofs.YtfakoboiahbhaaaGreat.Ab


namespace Go.Proofs.YtfakoboiahbhaaaGreat.Ab
open Go
set_option maxRecDepth 20000
set_option maxHeartbeats 4000000
noncomputable def PM:eM :=
 .loop (some (DX false [0, 2, 3, 1, 20])) (.seq (FY [FN 11 5, FN 12 0, FK 13 12, Fo 14 11 13 .lss] (.cond (.sl 14) .skip (.exit 0))) (.seq (.block 1 (.seq (FT [FN 17 0, FN 18 5, FH 19 17 18 2, gO 20 [.hD 19] (.px (.str 2)), FN 21 1, FN 22 5, FH 23 21 22 2, gO 24 [.hD 23] (.px (.str 2)), gO 25 [.hD 20, .hD 24] (.other (Oper.mk (some 25) (Op.binOp .neq 65 (Operand.tmp 20) (Operand.tmp 24) 65) 4 "law.go:88" (Array.mk [Edge.mk 3 Ground.data, Edge.mk 7 Ground.data]) none) 0)]) (.cond (.sl 25) (FY [gO 4 [.ij (.bool false)] .iH] .ret) .skip))) (FR [FO 15 5, Fk 16 15 1, FO 5 16])))
noncomputable def Z7:eM :=
 FY [gO 4 [.ij (.bool false)] .iH] (.seq (FY [FN 6 0,FK 7 6,FN 8 1,FK 9 8,Fo 10 7 9 .neq] (.cond (.sl 10) (FY [gO 4 [.ij (.bool false)] .iH] .ret) .skip)) (.seq (FY [FM 5 0] (.block 0 PM)) (FY [gO 4 [.ij (.bool true)] .iH] .ret)))
theorem aeW:yQ Tryz.prog Qj 43=some (Z7,26,[.tmp 4]):=by kernel_rfl
def KX (a b:qe) (qh:Unit→Option Bool):Nat→Int→Option Bool
 | 0,_=>none
 | m+1,s1 =>
   if (decide (s1<(a.length:Int)))=true then
    qd (0≤s1∧s1<(a.length:Int)) <|
    qd (0≤s1∧s1<(b.length:Int)) <|
    if (decide ((ix a s1)=(ix b s1)))=true then
     KX a b qh m (w (s1+(1:Int)))
    else
     some false
   else
    qh ()
def NK (a b:qe):Option Bool :=
 if (decide ((a.length:Int)≠(b.length:Int)))=true then
  some false
 else
  KX a b (fun _ =>
    some true) p' (0:Int)
theorem aju {a:qe} {b:qe} {qh:Unit→Option Bool} {s1:Int} {v:Bool} {Q:ra}   (lj:qE [.tmp 4] Q (fun v=>(B v)) v) (rf:∀ (p_:List I),qh ()=some v→qV 26 [] p_→Q (.exit 0) p_ []) {T:List I} (bW:eL (DX false [0,2,3,1,20]) T=F2 26 [(0,(qf a .shared)),(1,(qf b .shared)),(5,(hG s1))]) (h:KX a b qh p' s1=some v) :
  dB Tryz.prog Qj 43 0 none PM T [] Q:=by
 unfold PM;refine wp_loop bW ?_;refine .intro (fun m T H=>∃ (s1:Int),T=F2 26 [(0,(qf a .shared)),(1,(qf b .shared)),(5,(hG s1))]∧H=[]∧KX a b qh m s1=some v) p' ⟨s1,rfl,rfl,h⟩ ?_;clear h bW;rintro m T H ⟨s1,rfl,rfl,h⟩;cases m
 ·exact q3 h
 rename_i m;rw [KX.eq_2] at h;conv=>whnf
 refine bs h (fun fi h=>?_) fun fi h=>?_
 ·rw [fi];conv=>whnf
  refine qy h id fun qu h=>?_;rw [qQ p6 2 qz a s1 qu];conv=>whnf
  refine qy h id fun qA h=>?_;rw [qQ p6 2 qz b s1 qA];conv=>whnf
  refine ⟨_,_,fun C=>Wm rfl rfl (aaJ (fs:=acM Tryz.prog 65) (by kernel_rfl) (by kernel_rfl) (by kernel_rfl) (by kernel_rfl) (by kernel_rfl) _ _ _ _ (.inr rfl)),?_⟩;conv=>whnf
  refine bs h (fun qG h=>?_) fun qG h=>?_
  ·rw [qG];(conv=>whnf);exact ⟨m,Nat.lt_succ_self m,(w (s1+(1:Int))),rfl,rfl,h⟩
  ·rw [qG];(conv=>whnf);exact qj h lj rfl rfl
 ·rw [fi];conv=>whnf
  exact rf  _ h ⟨rfl,rfl⟩
theorem ajv {a:qe} {b:qe} {v:Bool} (h:NK a b=some v):qC 43 [(.ax (a.flatMap p6) a.length .shared),(.ax (b.flatMap p6) b.length .shared)] (B v):=by
 refine qN dD aeW rfl rfl fun Q bz=>?_;have lj:qE [.tmp 4] Q (fun v=>(B v)) v:=fun T H bJ=>bz _ T H bJ;unfold NK at h;unfold Z7;obtain ⟨Gi,qF⟩:∃ c,PM=c:=⟨_,rfl⟩;rw [qF];conv=>whnf
 refine bs h (fun eQ h=>?_) fun eQ h=>?_
 ·rw [eQ];conv=>whnf
  exact qj h lj rfl rfl
 ·rw [eQ];conv=>whnf
  subst qF;refine aju ?_ ?_ (by exact rfl) h
  ·exact fun T H bJ=>lj T H bJ
  ·intro  p_ h qt;obtain ⟨qT,rfl⟩:=qt.ex;(conv=>whnf);exact qj h lj rfl rfl

end Go.Proofs.YtfakoboiahbhaaaGreat.Ab


namespace Go.Proofs.YtfakoboiahbhaaaGreat.Ab
open Go
def akQ (r:Row) (s:Int):Bool:=r.any fun q=>decide (q.1=s)
theorem U8 {b:qb} (p8:qJ b) {wo to:Int} {D:List Int} (rJ:Mg b wo to D):∀ (n:Nat) (f:Int),0≤f→f<b.1→ix D f=(n:Int)→∃ l:List Int,l.Nodup∧l.length=n+1∧∀ x∈l,0≤x∧x<b.1∧ix D x≤(n:Int)
 | 0,f,ad,af,h=>⟨[f],by simp,rfl,fun x al=>by simp only [List.mem_singleton] at al;subst al;exact ⟨ad,af,by omega⟩⟩
 | n+1,f,ad,af,h=>by
   have bU:=p8.f6;obtain ⟨p,bP,_,b4⟩:=aft p8 rJ ⟨ad,by omega⟩ h;have aN:=N_ p8 bP;obtain ⟨l,dA,kq,LC⟩:=U8 p8 rJ n _ aN.1 aN.2 b4;refine ⟨f::l,List.nodup_cons.2 ⟨fun hm=>?_,dA⟩,by simp [kq],fun x al=>?_⟩
   ·have:=(LC f hm).2.2;omega
   ·rcases List.mem_cons.1 al with e | e
    ·subst e;exact ⟨ad,af,by omega⟩
    ·have:=LC x e;exact ⟨this.1,this.2.1,by omega⟩
theorem acy {b:qb} (p8:qJ b) {wo to f:Int} {D:List Int} (rJ:Mg b wo to D) (ad:0≤f) (af:f<b.1):ix D f<b.1:=by
 rcases Int.lt_or_le (ix D f) 0 with h | h
 ·omega
 ·obtain ⟨l,dA,kq,LC⟩:=U8 p8 rJ (ix D f).toNat f ad af (by omega);have:=MZ (n:=b.1.toNat) dA fun x al=>by have:=LC x al;omega
  omega
theorem Y7 {a:Row} (cu:a.length≤1000):∀ (m i:Nat) (z:Int),z=i→i≤a.length→a.length-i<m→KX a a (fun _=>some true) m z=some true
 | 0,i,_,_,_,h=>absurd h (by omega)
 | m+1,i,_,rfl,hi,hm=>by
   rw [KX];by_cases h:i<a.length
   ·rw [HT h,Gt h,Gt h,if_pos (decide_eq_true rfl),rq i (by omega)];exact Y7 cu m (i+1) _ rfl (by omega) (by omega)
   ·rw [HS h]
theorem ajw {a:Row} (cu:a.length≤1000):NK a a=some true:=by
 rw [NK,if_neg (by simp),Y7 cu p' 0 0 rfl (Nat.zero_le _) (ru (by omega))]
end Go.Proofs.YtfakoboiahbhaaaGreat.Ab


namespace Go.Proofs.YtfakoboiahbhaaaGreat.Ab
open Go
set_option maxRecDepth 20000
set_option maxHeartbeats 4000000
def N0:c':={ ops:=[[{ cx:=[true] }],[],[],[{},{},{ cx:=[true] },{ cx:=[true,true] }],[{ cx:=[true] },{ cx:=[true] },{ cx:=[true] }],[{ cx:=[true] },{},{ cx:=[true] },{ cx:=[true,true],mode:=1 },{ cx:=[true] }],[],[{},{},{ cx:=[true] },{ cx:=[true,true] }],[{ cx:=[true] },{ cx:=[true] },{ cx:=[true] }],[],[{},{},{ cx:=[true] },{ cx:=[true] },{ cx:=[true,true] }],[{ cx:=[true] },{ cx:=[true] },{ cx:=[true] }],[{},{ cx:=[true] },{},{ cx:=[true,true] },{ cx:=[true] },{ cx:=[true] },{},{ cx:=[true] },{},{ cx:=[true,true] },{ cx:=[true] },{ cx:=[true] },{ cx:=[true] },{ cx:=[true] }],[{},{},{ cx:=[true,true] }],[{},{},{ cx:=[true,true] },{ cx:=[true] },{},{},{ cx:=[true,true] },{ cx:=[true] },{ cx:=[true,true] },{ cx:=[true] }],[{},{ cx:=[true] },{},{ cx:=[true,true] },{ cx:=[true,true] }],[{},{ cx:=[true] },{ cx:=[true] },{ cx:=[true,true] },{ cx:=[true,true] }],[{ cx:=[true],mode:=2 },{ cx:=[true] }]],hW:=[(0,(DX false [1,2,2,2,61])),(2,(DX false [1,2,2,1,1,1,60])),(4,(DX false [1,2,2,1,1,2,59]))] }
noncomputable def PQ:eM :=
 .loop (some (DX false [1,2,2,2,61])) (.seq (FY [FN 12 6,gO 13 [.sl 2] (.ov 0),FL 14 13,Fo 15 12 14 .lss] (.cond (.sl 15) .skip (.exit 0))) (.seq (.block 1 (FR [FO 18 5,FN 19 6,gO 20 [.hD 19] (.xG 1 1 [.int .i64 0] [0]),gO 21 [.hA 18,.hA 20] (.xx 1 8),FO 5 21])) (FR [FO 16 6,Fk 17 16 1,FO 6 17])))
noncomputable def PR:eM :=
 .loop (some (DX false [1,2,2,1,1,2,59])) (.seq (FY [FN 28 8,gO 29 [.sl 2] (.ov 1),FL 30 29,FK 31 30,Fo 32 28 31 .lss] (.cond (.sl 32) .skip (.exit 4))) (.seq (.block 5 (.seq (FT [gO 35 [.sl 2] (.ov 1),FL 36 35,FN 37 8,FH 38 36 37 2,Fu 39 38 0,FL 40 39,gO 41 [.sl 2] (.ov 1),FL 42 41,FN 43 8,FH 44 42 43 2,Fu 45 44 1,FL 46 45,FO 9 40,FO 10 46]) (FY [FN 47 8,FN 48 1,Fo 49 47 48 .neq] (.cond (.sl 49) (.seq (FT [FN 50 5,FN 51 9,FH 52 50 51 1,FL 53 52,FN 54 5,FN 55 10,FH 56 54 55 1,FL 57 56,gO 58 [.hA 53,.hA 57] .min,FO 11 58]) (FY [FN 59 5,FO 60 9,FN 61 11,FH 62 59 60 1,⟨none,[.hA 62,.hA 61],none,none,.st 1⟩] (FR [FN 63 5,FO 64 10,FO 65 11,FH 66 63 64 1,⟨none,[.hA 66,.hA 65],none,none,.st 1⟩]))) .skip)))) (FR [FO 33 8,Fk 34 33 1,FO 8 34])))
noncomputable def PS:eM :=
 .loop (some (DX false [1,2,2,1,1,1,60])) (.seq (FY [FN 22 7,gO 23 [.sl 2] (.ov 0),FL 24 23,Fo 25 22 24 .lss] (.cond (.sl 25) .skip (.exit 2))) (.seq (.block 3 (FY [FM 8 0] (.block 4 PR))) (FR [FO 26 7,Fk 27 26 1,FO 7 27])))
noncomputable def aac:eM :=
 FY [gO 2 [.hA 0] .box, gO 4 [.ij (.ax [] 0 .full)] (.nil 1)] (FY [gO 5 [.ij (.ax [] 0 .full)] (.nil 1)] (.seq (FY [FM 6 0] (.block 0 PQ)) (.seq (FY [FM 7 0] (.block 2 PS)) (FY [⟨some 67, [.hA 5], none, some 5, .other (Oper.mk (some 67) (Op.move (Operand.tmp 5)) 38 "ref.go:158" (Array.mk []) none) 2⟩, FO 4 67] .ret))))
theorem ae1:yQ Tryz.prog N0 56=some (aac,68,[.tmp 4]):=by kernel_rfl
def K0 (b:qn) (qh:qa→Option qa):Nat→Int→qa→Option qa
 | 0,_,_=>none
 | m+1,s1,s2 =>
   if (decide (s1<b.1))=true then
    qd ((s2.length+1)*8≤140737488355328) <|
    K0 b qh m (w (s1+(1:Int))) (s2++[s1])
   else
    qh s2
def JY (b:qn) (Gb:Int) (q5:qa→Option qa):Nat→Int→qa→Option qa
 | 0,_,_=>none
 | m+1,qc,qw =>
   if (decide (qc<(b.2.length:Int)))=true then
    qd (0≤qc∧qc<(b.2.length:Int)) <|
    qd (0≤qc∧qc<(b.2.length:Int)) <|
    if (decide (qc≠Gb))=true then
     qd (0≤(ix b.2 qc).1∧(ix b.2 qc).1<(qw.length:Int)) <|
     qd (0≤(ix b.2 qc).2∧(ix b.2 qc).2<(qw.length:Int)) <|
     qd (0≤(ix b.2 qc).1∧(ix b.2 qc).1<(qw.length:Int)) <|
     qd (0≤(ix b.2 qc).2∧(ix b.2 qc).2<((qw.set ((ix b.2 qc).1).toNat (min (ix qw ((ix b.2 qc).1)) (ix qw ((ix b.2 qc).2)))).length:Int)) <|
     JY b Gb q5 m (w (qc+(1:Int))) ((qw.set ((ix b.2 qc).1).toNat (min (ix qw ((ix b.2 qc).1)) (ix qw ((ix b.2 qc).2)))).set ((ix b.2 qc).2).toNat (min (ix qw ((ix b.2 qc).1)) (ix qw ((ix b.2 qc).2))))
    else
     JY b Gb q5 m (w (qc+(1:Int))) qw
   else
    q5 qw
def Jp (b:qn) (Gb:Int) (qK:qa→Option qa):Nat→Int→qa→Option qa
 | 0,_,_=>none
 | m+1,nL,qk =>
   if (decide (nL<b.1))=true then
    JY b Gb (fun n0 =>
      Jp b Gb qK m (w (nL+(1:Int))) n0) p' (0:Int) qk
   else
    qK qk
def NL (b:qn) (Gb:Int):Option qa :=
 if (decide ((0:Int)<b.1))=true then
  K0 b (fun xt =>
    Jp b Gb (fun Fh =>
      some Fh) p' (0:Int) xt) p' (w ((0:Int)+(1:Int))) [(0:Int)]
 else
  none
theorem ajA {b:qn} {qh:qa→Option qa} {s1:Int} {s2:qa} {Gb:Int} {v:qa} {Q:ra}   (rf:∀ (xt:qa) (rO:List au) (p_:List I),qh xt=some v→qV 68 [(1,(hG Gb)),(2,(.ptr 0 0)),(5,(.cf (qv b::rO).length ((qv b::rO).length+1) xt.length 1))] p_→Q (.exit 0) p_ ((qv b::rO)++[au.grow (xt.map hG) ((qv b::rO).length+1) 1,au.dead])) {T:List I} (bW:T=F2 68 [(1,(hG Gb)),(2,(.ptr 0 0)),(5,(.cf ([qv b]).length (([qv b]).length+1) s2.length 1)),(6,(hG s1))]) (h:K0 b qh p' s1 s2=some v) :
  Qa Tryz.prog N0 56 0 none PQ T ((qv b::([]:List au))++[au.grow (s2.map hG) ((qv b::([]:List au)).length+1) 1,au.dead]) Q:=by
 subst bW;refine .mk _ _ rfl (fun m T H=>∃ (s1:Int) (s2:qa) (Li:List au),T=F2 68 [(1,(hG Gb)),(2,(.ptr 0 0)),(5,(.cf (qv b::Li).length ((qv b::Li).length+1) s2.length 1)),(6,(hG s1))]∧H=((qv b::Li)++[au.grow (s2.map hG) ((qv b::Li).length+1) 1,au.dead])∧K0 b qh m s1 s2=some v) p' (Nat.le_refl _) ⟨s1,s2,_,rfl,rfl,h⟩ ?_;clear h;rintro aaF m T H ⟨s1,s2,Li,rfl,rfl,h⟩ MG;cases m
 ·exact q3 h
 rename_i m;rw [K0.eq_2] at h;conv=>whnf
 refine bs h (fun fi h=>?_) fun fi h=>?_
 ·rw [fi];conv=>whnf
  obtain ⟨qu,h⟩:=qD h;refine ⟨⟨rfl,by decide⟩,?_⟩;conv=>whnf
  refine Dj (GO (qv b::Li) _) ?_;conv=>whnf
  refine .inl ⟨⟨rfl,rfl,rfl,by simp,by decide,qu⟩,?_⟩;rw [Is,UI];erw [UK hG s2 s1,UJ s2 s1];conv=>whnf
  exact MG m _ _ (Nat.lt_succ_self m) ⟨(w (s1+(1:Int))),(s2++[s1]),_,rfl,rfl,h⟩
 ·rw [fi];conv=>whnf
  exact rf _ _ _ h ⟨rfl,rfl⟩
theorem ajC {b:qn} {Gb:Int} {q5:qa→Option qa} {qc:Int} {qw:qa} {nL:Int} {v:qa} {Q:ra}  {rO:List au} (Hn:∀ (n0:qa) (p_:List I),q5 n0=some v→qV 68 [(1,(hG Gb)),(2,(.ptr 0 0)),(5,(.cf (qv b::rO).length ((qv b::rO).length+1) n0.length 1)),(7,(hG nL))] p_→Q (.exit 4) p_ ((qv b::rO)++[au.grow (n0.map hG) ((qv b::rO).length+1) 1,au.dead])) {T:List I} (bW:eL (DX false [1,2,2,1,1,2,59]) T=F2 68 [(1,(hG Gb)),(2,(.ptr 0 0)),(5,(.cf (qv b::rO).length ((qv b::rO).length+1) qw.length 1)),(7,(hG nL)),(8,(hG qc))]) (h:JY b Gb q5 p' qc qw=some v) :
  dB Tryz.prog N0 56 0 none PR T ((qv b::rO)++[au.grow (qw.map hG) ((qv b::rO).length+1) 1,au.dead]) Q:=by
 unfold PR;refine wp_loop bW ?_;refine .intro (fun m T H=>∃ (qc:Int) (qw:qa),T=F2 68 [(1,(hG Gb)),(2,(.ptr 0 0)),(5,(.cf (qv b::rO).length ((qv b::rO).length+1) qw.length 1)),(7,(hG nL)),(8,(hG qc))]∧H=((qv b::rO)++[au.grow (qw.map hG) ((qv b::rO).length+1) 1,au.dead])∧JY b Gb q5 m qc qw=some v) p' ⟨qc,qw,rfl,rfl,h⟩ ?_;clear h bW;rintro m T H ⟨qc,qw,rfl,rfl,h⟩;cases m
 ·exact q3 h
 rename_i m;rw [JY.eq_2] at h;conv=>whnf
 refine bs h (fun qG h=>?_) fun qG h=>?_
 ·rw [qG];conv=>whnf
  refine qy h id fun q7 h=>?_;rw [qQ p6 2 qz b.2 qc q7];conv=>whnf
  refine qy h id fun qM h=>?_;rw [qQ p6 2 qz b.2 qc qM];conv=>whnf
  refine bs h (fun qI h=>?_) fun qI h=>?_
  ·rw [qI];(conv=>whnf);obtain ⟨rh,h⟩:=qD h;refine ⟨rh,?_⟩;(conv=>whnf);refine Dj (GO (qv b::rO) _) ?_;(conv=>whnf);refine JP hG qw ((ix b.2 qc).1) rh ?_;(conv=>whnf);obtain ⟨qS,h⟩:=qD h;refine ⟨qS,?_⟩;(conv=>whnf);refine Dj (GO (qv b::rO) _) ?_;(conv=>whnf);refine JP hG qw ((ix b.2 qc).2) qS ?_;(conv=>whnf);obtain ⟨q8,h⟩:=qD h;refine ⟨q8,?_⟩;(conv=>whnf);refine Dj (GO (qv b::rO) _) ?_;(conv=>whnf);refine JT hG qw ((ix b.2 qc).1) (min (ix qw ((ix b.2 qc).1)) (ix qw ((ix b.2 qc).2))) q8 ?_;rw [Is,show qw.length=(qw.set ((ix b.2 qc).1).toNat (min (ix qw ((ix b.2 qc).1)) (ix qw ((ix b.2 qc).2)))).length from (List.length_set ..).symm];(conv=>whnf);obtain ⟨rr,h⟩:=qD h;refine ⟨rr,?_⟩;(conv=>whnf);refine Dj (GO (qv b::rO) _) ?_;(conv=>whnf);refine JT hG (qw.set ((ix b.2 qc).1).toNat (min (ix qw ((ix b.2 qc).1)) (ix qw ((ix b.2 qc).2)))) ((ix b.2 qc).2) (min (ix qw ((ix b.2 qc).1)) (ix qw ((ix b.2 qc).2))) rr ?_;rw [Is,show (qw.set ((ix b.2 qc).1).toNat (min (ix qw ((ix b.2 qc).1)) (ix qw ((ix b.2 qc).2)))).length=((qw.set ((ix b.2 qc).1).toNat (min (ix qw ((ix b.2 qc).1)) (ix qw ((ix b.2 qc).2)))).set ((ix b.2 qc).2).toNat (min (ix qw ((ix b.2 qc).1)) (ix qw ((ix b.2 qc).2)))).length from (List.length_set ..).symm];(conv=>whnf);exact ⟨m,Nat.lt_succ_self m,(w (qc+(1:Int))),((qw.set ((ix b.2 qc).1).toNat (min (ix qw ((ix b.2 qc).1)) (ix qw ((ix b.2 qc).2)))).set ((ix b.2 qc).2).toNat (min (ix qw ((ix b.2 qc).1)) (ix qw ((ix b.2 qc).2)))),rfl,rfl,h⟩
  ·rw [qI];(conv=>whnf);exact ⟨m,Nat.lt_succ_self m,(w (qc+(1:Int))),qw,rfl,rfl,h⟩
 ·rw [qG];conv=>whnf
  exact Hn _ _ h ⟨rfl,rfl⟩
theorem ajB {b:qn} {Gb:Int} {qK:qa→Option qa} {nL:Int} {qk:qa} {v:qa} {Q:ra}  {rO:List au} (GL:∀ (Fh:qa) (bC:au) (p_:List I),qK Fh=some v→qV 68 [(5,(.cf (bC::rO).length ((bC::rO).length+1) Fh.length 1))] p_→Q (.exit 2) p_ ((bC::rO)++[au.grow (Fh.map hG) ((bC::rO).length+1) 1,au.dead])) {T:List I} (bW:eL (DX false [1,2,2,1,1,1,60]) T=F2 68 [(1,(hG Gb)),(2,(.ptr 0 0)),(5,(.cf (qv b::rO).length ((qv b::rO).length+1) qk.length 1)),(7,(hG nL))]) (h:Jp b Gb qK p' nL qk=some v) :
  dB Tryz.prog N0 56 0 none PS T ((qv b::rO)++[au.grow (qk.map hG) ((qv b::rO).length+1) 1,au.dead]) Q:=by
 unfold PS;obtain ⟨IG,rR⟩:∃ c,PR=c:=⟨_,rfl⟩;rw [rR];refine wp_loop bW ?_;refine .intro (fun m T H=>∃ (nL:Int) (qk:qa),T=F2 68 [(1,(hG Gb)),(2,(.ptr 0 0)),(5,(.cf (qv b::rO).length ((qv b::rO).length+1) qk.length 1)),(7,(hG nL))]∧H=((qv b::rO)++[au.grow (qk.map hG) ((qv b::rO).length+1) 1,au.dead])∧Jp b Gb qK m nL qk=some v) p' ⟨nL,qk,rfl,rfl,h⟩ ?_;clear h bW;rintro m T H ⟨nL,qk,rfl,rfl,h⟩;cases m
 ·exact q3 h
 rename_i m;rw [Jp.eq_2] at h;conv=>whnf
 refine bs h (fun qA h=>?_) fun qA h=>?_
 ·rw [qA];conv=>whnf
  subst rR;refine ajC ?_ (by exact rfl) h;intro n0 p_ h qt;obtain ⟨qT,rfl⟩:=qt.ex;conv=>whnf
  exact ⟨m,Nat.lt_succ_self m,(w (nL+(1:Int))),n0,rfl,rfl,h⟩
 ·rw [qA];conv=>whnf
  exact GL _ _ _ h ⟨rfl,rfl⟩
theorem ajD {b:qn} {Gb:Int} {v:qa} (h:NL b Gb=some v):qC 56 [(.agg [(hG b.1),(.ax (b.2.flatMap p6) b.2.length .shared)]),(hG Gb)] (.ax (v.map hG) v.length .shared):=by
 refine qN dD ae1 rfl (rF (fun _=>rfl) _ _ _) fun Q bz=>?_;have lj:qE [.tmp 4] Q (fun v=>(qq v .shared)) v:=fun T H bJ=>bz _ T H bJ;unfold NL at h;unfold aac;obtain ⟨Gi,qF⟩:∃ c,PQ=c:=⟨_,rfl⟩;rw [qF];obtain ⟨Qy,H4⟩:∃ c,PS=c:=⟨_,rfl⟩;rw [H4];conv=>whnf
 subst qF;refine YA (rc:=PQ) rfl (by exact rfl) ?_;intro aaE Q2;conv=>whnf
 refine bs h (fun eQ h=>?_) fun eQ h=>?_
 ·rw [eQ];conv=>whnf
  refine ⟨⟨rfl,by decide⟩,?_⟩;conv=>whnf
  refine ⟨⟨rfl,by decide,by decide⟩,?_⟩;conv=>whnf
  refine Q2 _ _ ?_;refine ajA ?_ (by exact rfl) h;intro xt rO p_ h qt;obtain ⟨qT,rfl⟩:=qt.ex;conv=>whnf
  subst H4;refine ajB ?_ (by exact rfl) h;intro Fh bC p_ h qt;obtain ⟨qT,rfl⟩:=qt.ex;conv=>whnf
  refine ⟨_,_,fun C=>Oa rfl (Nat.zero_le _) (GO (bC::rO) _) (by simp),?_⟩;rw [S_ (fun _=>rfl),Is];conv=>whnf
  exact qj h lj rfl rfl
 ·rw [eQ];conv=>whnf
  exact q3 h
end Go.Proofs.YtfakoboiahbhaaaGreat.Ab


namespace Go.Proofs.YtfakoboiahbhaaaGreat.Ab
open Go
def Gg (b:qb) (wo f g:Int):Prop:=∃ n,Gh b wo n f g
theorem Gh.trans {b:qb} {wo:Int}:∀ {n m:Nat} {a c g:Int},Gh b wo n a c→Gh b wo m c g→Gh b wo (n+m) a g
 | n,0,a,c,g,h,(k:c=g)=>k ▸ h
 | n,m+1,a,c,g,h,⟨f,aL,aQ⟩=>⟨f,Gh.trans h aL,aQ⟩
theorem Gg.refl {b:qb} {wo:Int} (f:Int):Gg b wo f f:=⟨0,rfl⟩
theorem Gg.symm {b:qb} {wo f g:Int} (h:Gg b wo f g):Gg b wo g f:=h.elim fun n h=>⟨n,h.symm⟩
theorem Gg.trans {b:qb} {wo f g h:Int} (ad:Gg b wo f g) (af:Gg b wo g h):Gg b wo f h:=by
 obtain ⟨n,ad⟩:=ad;obtain ⟨m,af⟩:=af;exact ⟨n+m,ad.trans af⟩
theorem GB.Mq {b:qb} {wo f g:Int} (h:GB b wo f g):Gg b wo f g:=⟨1,f,rfl,h⟩
theorem GB.of {b:qb} {wo:Int} {i:Nat} (hi:i<b.2.length) (hw:(i:Int)≠wo):GB b wo (ix b.2 (i:Int)).1 (ix b.2 (i:Int)).2 :=
 ⟨((i:Int),0),JL.2 ⟨by simp only;omega,by simp only;omega,by simp only;omega,by simp only;omega,rfl⟩,hw,rfl⟩
theorem GB.sk {b:qb} {wo f g:Int} (h:GB b wo f g):∃ i:Nat,i<b.2.length∧(i:Int)≠wo∧(((ix b.2 (i:Int)).1=f∧(ix b.2 (i:Int)).2=g)∨((ix b.2 (i:Int)).2=f∧(ix b.2 (i:Int)).1=g)):=by
 obtain ⟨p,ad,af,aH⟩:=h;have aD:=JL.1 ad;refine ⟨p.1.toNat,by omega,by omega,?_⟩;rw [Int.toNat_of_nonneg aD.1];have bh:=aD.2.2.2.2;unfold qX at bh;unfold fin at aH;by_cases ak:0<p.2
 ·rw [if_pos ak] at bh aH;exact .inr ⟨bh,aH⟩
 ·rw [if_neg ak] at bh aH;exact .inl ⟨bh,aH⟩
theorem Gg.short {b:qb} (p8:qJ b) {wo f g:Int} (aK:0≤g∧g<b.1) (aN:0≤f∧f<b.1) (h:Gg b wo f g):∃ n:Nat,(n:Int)<b.1∧Gh b wo n f g:=by
 obtain ⟨D,_,rJ⟩:=ajW p8 (wo:=wo) aK;obtain ⟨n,h⟩:=h;have aq:=rJ.least n f h.symm;have bU:=p8.f6;have aY:=acy p8 rJ aN.1 aN.2;have hw:=rJ.walk f.toNat (by omega) (by rw [Int.toNat_of_nonneg aN.1];exact aq.2.2.1);rw [Int.toNat_of_nonneg aN.1] at hw;exact ⟨(ix D f).toNat,by omega,hw.symm⟩
theorem KA {b:qb} (p8:qJ b) {i:Nat} (hi:i<b.2.length):0≤(ix b.2 (i:Int)).1∧(ix b.2 (i:Int)).1<b.1∧0≤(ix b.2 (i:Int)).2∧(ix b.2 (i:Int)).2<b.1:=by
 have hm:=MV (l:=b.2) (i:=(i:Int)) ⟨by omega,by omega⟩;have ad:=p8.left _ hm;have af:=p8.right _ hm;exact ⟨ad.1,ad.2,af.1,af.2⟩
def upto (n:Nat):List Int:=(List.range n).map fun (j:Nat)=>(j:Int)
theorem r3 (n:Nat):(upto n).length=n:=by simp [upto]
theorem Ye {n j:Nat} (h:j<n):ix (upto n) (j:Int)=(j:Int):=by
 rw [rn (by rw [r3];exact h)];simp [upto]
theorem KC (n:Nat):upto (n+1)=upto n++[(n:Int)]:=by simp [upto,List.range_succ]
theorem Ze {b:qb} (bU:b.1≤6) {k:List Int→Option (List Int)}:∀ (m i:Nat) (z:Int),z=i→(i:Int)≤b.1→b.1.toNat-i<m→K0 b k m z (upto i)=k (upto b.1.toNat)
 | 0,i,_,_,_,h=>absurd h (by omega)
 | m+1,i,_,rfl,hi,hm=>by
   rw [K0];by_cases h:(i:Int)<b.1
   ·rw [if_pos (decide_eq_true h),qp (by rw [r3];omega),rq i (by omega),←KC];exact Ze bU m (i+1) _ rfl (by omega) (by omega)
   ·rw [if_neg (by simpa using h),show i=b.1.toNat by omega]
structure NI (b:qb) (wo:Int) (S:List Int):Prop where
 len:S.length=b.1.toNat
 HL:∀ f:Int,0≤f→f<b.1→Gg b wo f (ix S f)∧0≤ix S f∧ix S f<b.1
structure Mk (b:qb) (wo:Int) (S0:List Int) (i:Nat) (S:List Int):Prop extends NI b wo S where
 mono:∀ f:Int,0≤f→f<b.1→ix S f≤ix S0 f
 done:∀ j:Nat,j<i→(j:Int)≠wo→ix S (ix b.2 (j:Int)).1≤ix S0 (ix b.2 (j:Int)).2∧ix S (ix b.2 (j:Int)).2≤ix S0 (ix b.2 (j:Int)).1
theorem aeb {S:List Int} {x y f v:Int} (al:0≤x∧x<(S.length:Int)) (aZ:0≤y∧y<(S.length:Int)) (aN:0≤f∧f<(S.length:Int)):ix ((S.set x.toNat v).set y.toNat v) f=if f=x∨f=y then v else ix S f:=by
 obtain ⟨a,rfl⟩:∃ a:Nat,x=(a:Int):=⟨x.toNat,by omega⟩;obtain ⟨c,rfl⟩:∃ c:Nat,y=(c:Int):=⟨y.toNat,by omega⟩;obtain ⟨e,rfl⟩:∃ e:Nat,f=(e:Int):=⟨f.toNat,by omega⟩;rw [Int.toNat_natCast,Int.toNat_natCast];by_cases ad:e=c
 ·subst ad;rw [Ks (by simp;omega),if_pos (.inr rfl)]
 ·rw [Jg ad];by_cases af:e=a
  ·subst af;rw [Ks (by omega),if_pos (.inl rfl)]
  ·rw [Jg af,if_neg (by omega)]
theorem Mk.step {b:qb} (p8:qJ b) {wo:Int} {S0 S:List Int} {i:Nat} (h:Mk b wo S0 i S) (hi:i<b.2.length) (hw:(i:Int)≠wo) :
  Mk b wo S0 (i+1) ((S.set (ix b.2 (i:Int)).1.toNat (min (ix S (ix b.2 (i:Int)).1) (ix S (ix b.2 (i:Int)).2))).set (ix b.2 (i:Int)).2.toNat (min (ix S (ix b.2 (i:Int)).1) (ix S (ix b.2 (i:Int)).2))):=by
 have ai:=KA p8 hi;have he:=GB.of hi hw;obtain ⟨x,al⟩:∃ x,x=(ix b.2 (i:Int)).1:=⟨_,rfl⟩;obtain ⟨y,aZ⟩:∃ y,y=(ix b.2 (i:Int)).2:=⟨_,rfl⟩;rw [←al,←aZ] at ai he;rw [←al,←aZ];have aq:=h.len;have Ou:∀ f:Int,0≤f→f<b.1→_:=fun f ad af=>aeb (S:=S) (x:=x) (y:=y) (f:=f) (v:=min (ix S x) (ix S y)) ⟨ai.1,by omega⟩ ⟨ai.2.2.1,by omega⟩ ⟨ad,by omega⟩;have Rg:=h.HL x ai.1 ai.2.1;have Rh:=h.HL y ai.2.2.1 ai.2.2.2;have hle:∀ f:Int,0≤f→f<b.1→ix ((S.set x.toNat (min (ix S x) (ix S y))).set y.toNat (min (ix S x) (ix S y))) f≤ix S f:=fun f ad af=>by
  rw [Ou f ad af];split
  ·rename_i e;rcases e with rfl | rfl <;> omega
  ·exact Int.le_refl _
 refine ⟨⟨by simpa using aq,fun f ad af=>?_⟩,fun f ad af=>Int.le_trans (hle f ad af) (h.mono f ad af),fun j az Rm=>?_⟩
 ·rw [Ou f ad af];split
  ·rename_i e;rcases Int.le_total (ix S x) (ix S y) with hm | hm
   ·rw [Int.min_eq_left hm];refine ⟨?_,Rg.2⟩;rcases e with rfl | rfl
    ·exact Rg.1
    ·exact he.symm.Mq.trans Rg.1
   ·rw [Int.min_eq_right hm];refine ⟨?_,Rh.2⟩;rcases e with rfl | rfl
    ·exact he.Mq.trans Rh.1
    ·exact Rh.1
  ·exact h.HL f ad af
 ·have d':j<i∨j=i:=by omega
  rcases d' with d' | rfl
  ·have Lx:=KA p8 (i:=j) (by omega);obtain ⟨d1,d2⟩:=h.done j d' Rm;exact ⟨Int.le_trans (hle _ Lx.1 Lx.2.1) d1,Int.le_trans (hle _ Lx.2.2.1 Lx.2.2.2) d2⟩
  ·rw [←al,←aZ,Ou x ai.1 ai.2.1,Ou y ai.2.2.1 ai.2.2.2,if_pos (.inl rfl),if_pos (.inr rfl)];have c8:=h.mono x ai.1 ai.2.1;have c9:=h.mono y ai.2.2.1 ai.2.2.2;omega
theorem Tl {b:qb} (p8:qJ b) {wo:Int} {S0:List Int} {k:List Int→Option (List Int)}:∀ (m i:Nat) (z:Int) (S:List Int),z=i→i≤b.2.length→b.2.length-i<m→Mk b wo S0 i S →
  ∃ S',Mk b wo S0 b.2.length S'∧JY b wo k m z S=k S'
 | 0,i,_,_,_,_,h,_=>absurd h (by omega)
 | m+1,i,_,S,rfl,hi,hm,h=>by
   have aq:=p8.len;rw [JY];by_cases aY:i<b.2.length
   ·have ai:=KA p8 aY;have Cx:=h.len;rw [HT aY,Gt aY,Gt aY];by_cases hw:(i:Int)≠wo
    ·rw [if_pos (decide_eq_true hw),qp ⟨ai.1,by omega⟩,qp ⟨ai.2.2.1,by omega⟩,qp ⟨ai.1,by omega⟩,qp ⟨ai.2.2.1,by rw [List.length_set];omega⟩,rq i (by omega)];exact Tl p8 m (i+1) _ _ rfl (by omega) (by omega) (h.step p8 aY hw)
    ·rw [if_neg (by simpa using hw),rq i (by omega)];exact Tl p8 m (i+1) _ _ rfl (by omega) (by omega) ⟨h.toNI,h.mono,fun j az Rm=>h.done j (by omega) Rm⟩
   ·rw [HS aY];(obtain rfl:i=b.2.length:=by omega);exact ⟨S,h,rfl⟩
theorem Zf {b:qb} (p8:qJ b) {wo:Int} {k:List Int→Option (List Int)}:∀ (m r:Nat) (z:Int) (S:List Int),z=r→(r:Int)≤b.1→b.1.toNat-r<m→NI b wo S→(∀ (n:Nat) (f g:Int),n≤r→0≤f→f<b.1→Gh b wo n f g→ix S f≤g) →
  ∃ S',NI b wo S'∧(∀ (n:Nat) (f g:Int),(n:Int)≤b.1→0≤f→f<b.1→Gh b wo n f g→ix S' f≤g)∧Jp b wo k m z S=k S'
 | 0,i,_,_,_,_,h,_,_=>absurd h (by omega)
 | m+1,r,_,S,rfl,aj,hm,h,hw=>by
   have bU:=p8.f6;rw [Jp];by_cases aY:(r:Int)<b.1
   ·rw [if_pos (decide_eq_true aY)];obtain ⟨S',d1,d2⟩:=Tl p8 (wo:=wo) (S0:=S) (k:=fun n0=>Jp b wo k m (w ((r:Int)+(1:Int))) n0) p' 0 0 S rfl (Nat.zero_le _) (ru (by have:=p8.len;omega)) ⟨h,fun _ _ _=>Int.le_refl _,fun j az=>absurd az (by omega)⟩;rw [d2,rq r (by omega)];refine Zf p8 m (r+1) _ S' rfl (by omega) (by omega) d1.toNI fun n f g aP ad af JJ=>?_;cases n with
    | zero =>
      have e:f=g:=JJ;subst e;have:=hw 0 f f (by omega) ad af rfl;have:=d1.mono f ad af;omega
    | succ n =>
      obtain ⟨c,he,ak⟩:=JJ.gN;have VD:=GB.in p8 he;have:=hw n c g (by omega) VD.1 VD.2 ak;obtain ⟨i,i1,i2,i3⟩:=he.sk;obtain ⟨e1,cd⟩:=d1.done i i1 i2;rcases i3 with ⟨rfl,rfl⟩ | ⟨rfl,rfl⟩ <;> omega
   ·rw [if_neg (by simpa using aY)];exact ⟨S,h,fun n f g aP ad af JJ=>hw n f g (by omega) ad af JJ,rfl⟩
structure NV (b:qb) (wo:Int) (N:List Int):Prop extends NI b wo N where
 least:∀ f g:Int,0≤f→f<b.1→0≤g→g<b.1→Gg b wo f g→ix N f≤g
theorem ajz {b:qb} (p8:qJ b) (wo:Int):∃ N,NL b wo=some N∧NV b wo N:=by
 have bU:=p8.f6;have ad:=p8.f1
 have Ha:NI b wo (upto b.1.toNat):=⟨r3 _,fun f JH BL=>by
  obtain ⟨a,rfl⟩:∃ a:Nat,f=(a:Int):=⟨f.toNat,by omega⟩
  rw [Ye (by omega)];exact ⟨Gg.refl _,JH,BL⟩⟩
 obtain ⟨S',d1,d2,d3⟩:=Zf p8 (wo:=wo) (k:=fun Fh=>some Fh) p' 0 0 (upto b.1.toNat) rfl (by omega) (ru (by omega)) Ha (fun n f g aP JH BL JJ=>by
  obtain rfl:n=0:=by omega
  have e:f=g:=JJ;subst e;obtain ⟨a,rfl⟩:∃ a:Nat,f=(a:Int):=⟨f.toNat,by omega⟩
  rw [Ye (by omega)];exact Int.le_refl _)
 refine ⟨S',?_,d1,fun f g f1 f2 cn cp ak=>?_⟩
 ·rw [NL,if_pos (decide_eq_true (by omega))];have:=Ze bU (k:=fun xt=>Jp b wo (fun Fh=>some Fh) p' (0:Int) xt) p' 1 1 rfl (by omega) (ru (by omega));rw [show upto 1=[(0:Int)] from rfl] at this;rw [show w ((0:Int)+(1:Int))=1 from rfl,this,d3]
 ·obtain ⟨n,aP,JJ⟩:=ak.short p8 ⟨cn,cp⟩ ⟨f1,f2⟩;exact d2 n f g (by omega) f1 f2 JJ
theorem NV.iff {b:qb} {wo:Int} {N:List Int} (h:NV b wo N) {f g:Int} (aN:0≤f∧f<b.1) (aK:0≤g∧g<b.1):ix N f=ix N g↔Gg b wo f g:=by
 have a:=h.HL f aN.1 aN.2;have c:=h.HL g aK.1 aK.2;refine ⟨fun e=>a.1.trans (by rw [e];exact c.1.symm),fun e=>?_⟩;have dA:=h.least f (ix N g) aN.1 aN.2 c.2.1 c.2.2 (e.trans c.1);have kq:=h.least g (ix N f) aK.1 aK.2 a.2.1 a.2.2 (e.symm.trans a.1);omega
end Go.Proofs.YtfakoboiahbhaaaGreat.Ab


namespace Go.Proofs.YtfakoboiahbhaaaGreat.Ab
open Go
theorem SM:∀ {a b:List Int},a.Pairwise (·<·)→b.Pairwise (·<·)→(∀ x,x∈a↔x∈b)→a=b
 | [],[],_,_,_=>rfl
 | [],y::b,_,_,h=>by have:=(h y).2 (by simp);simp at this
 | x::a,[],_,_,h=>by have:=(h x).1 (by simp);simp at this
 | x::a,y::b,cu,ag,h=>by
   obtain ⟨aB,aF⟩:=List.pairwise_cons.1 cu;obtain ⟨br,cU⟩:=List.pairwise_cons.1 ag;have GD:x=y:=by
    rcases List.mem_cons.1 ((h x).1 (by simp)) with e | e
    ·exact e
    ·rcases List.mem_cons.1 ((h y).2 (by simp)) with cd | cd
     ·exact cd.symm
     ·have:=aB y cd;have:=br x e;omega
   subst GD;rw [SM aF cU fun z=>?_];constructor
   ·intro bn;rcases List.mem_cons.1 ((h z).1 (by simp [bn])) with e | e
    ·have:=aB z bn;omega
    ·exact e
   ·intro bn;rcases List.mem_cons.1 ((h z).2 (by simp [bn])) with e | e
    ·have:=br z bn;omega
    ·exact e
theorem O8 {α:Type} [Inhabited α] {lt:α→α→Bool} (ai:Sort.SWO lt) (l:List α):((Sort.insertionSort lt l.toArray 0 l.length).toList).Perm l∧((Sort.insertionSort lt l.toArray 0 l.length).toList).Pairwise (fun x y=>lt y x=false):=by
 obtain ⟨⟨ad,_,aH⟩,bh⟩:=Sort.insertionSort_holds (lt:=lt) ai l.toArray 0 l.length (Nat.zero_le _) (by simp);generalize Sort.insertionSort lt l.toArray 0 l.length=d at ad aH bh;have ad:d.size=l.length:=by simpa using ad
 have e1:(d.extract 0 l.length).toList=d.toList:=by rw [←ad];simp
 have cd:(l.toArray.extract 0 l.length).toList=l:=by simp
 rw [e1,cd] at aH;refine ⟨aH,List.pairwise_iff_getElem.2 fun i j hi az lx=>?_⟩;have hi':i<d.size:=by simpa using hi
 have d':j<d.size:=by simpa using az
 have:=bh i j (Nat.zero_le _) lx (by omega);rw [getElem!_pos d i hi',getElem!_pos d j d'] at this;simpa using this
theorem ahd (l:List Int):(GR l).Perm l:=(O8 Sort.swo_ltInt l).1
theorem ahe {l:List Int} (h:l.Nodup):(GR l).Pairwise (·<·):=by
 have aN:=O8 Sort.swo_ltInt l;have aP:(GR l).Nodup:=aN.1.nodup_iff.2 h;refine List.pairwise_iff_getElem.2 fun i j hi az lx=>?_;have ad:=List.pairwise_iff_getElem.1 aN.2 i j hi az lx;have af:=List.pairwise_iff_getElem.1 aP i j hi az lx;simp only [Sort.ltInt,decide_eq_false_iff_not] at ad;have ad:¬ (GR l)[j]<(GR l)[i]:=ad;omega
theorem Xx:Sort.SWO G6:=by
 constructor
 all_goals intros
 all_goals simp only [G6,decide_eq_true_eq,decide_eq_false_iff_not] at *
 all_goals omega
theorem ahi (l:List (List Int)):(HG l).Perm l:=(O8 Xx l).1
theorem ahj {l:List (List Int)} (h:l.Pairwise fun x y=>ix x 0≠ix y 0):(HG l).Pairwise fun x y=>ix x 0<ix y 0:=by
 have aN:=O8 Xx l;have aP:(HG l).Pairwise fun x y=>ix x 0≠ix y 0:=aN.1.symm.pairwise h fun {x y} GD=>Ne.symm GD;refine List.pairwise_iff_getElem.2 fun i j hi az lx=>?_;have ad:=List.pairwise_iff_getElem.1 aN.2 i j hi az lx;have af:=List.pairwise_iff_getElem.1 aP i j hi az lx;simp only [G6,decide_eq_false_iff_not] at ad;have ad:¬ ix (HG l)[j] 0<ix (HG l)[i] 0:=ad;omega
theorem Xe:∀ {P Q:List (List Int)},P.Pairwise (fun x y=>ix x 0<ix y 0)→Q.Pairwise (fun x y=>ix x 0<ix y 0)→(∀ r,r∈P↔r∈Q)→P=Q
 | [],[],_,_,_=>rfl
 | [],y::b,_,_,h=>by have:=(h y).2 (by simp);simp at this
 | x::a,[],_,_,h=>by have:=(h x).1 (by simp);simp at this
 | x::a,y::b,cu,ag,h=>by
   obtain ⟨aB,aF⟩:=List.pairwise_cons.1 cu;obtain ⟨br,cU⟩:=List.pairwise_cons.1 ag;have GD:x=y:=by
    rcases List.mem_cons.1 ((h x).1 (by simp)) with e | e
    ·exact e
    ·rcases List.mem_cons.1 ((h y).2 (by simp)) with cd | cd
     ·exact cd.symm
     ·have:=aB y cd;have:=br x e;omega
   subst GD;rw [Xe aF cU fun z=>?_];constructor
   ·intro bn;rcases List.mem_cons.1 ((h z).1 (by simp [bn])) with e | e
    ·subst e;have:=aB z bn;omega
    ·exact e
   ·intro bn;rcases List.mem_cons.1 ((h z).2 (by simp [bn])) with e | e
    ·subst e;have:=br z bn;omega
    ·exact e
end Go.Proofs.YtfakoboiahbhaaaGreat.Ab


namespace Go.Proofs.YtfakoboiahbhaaaGreat.Ab
open Go
def qW (b:qb) (i f:Int):Prop:=(ix b.2 i).1=f∨(ix b.2 i).2=f
inductive rB (b:qb) (S:List Int) (f:Int):Int→Prop
 | refl:rB b S f f
 | step {g h:Int} (i:Int):rB b S f g→i∈S→qW b i g→qW b i h→rB b S f h
theorem rB.trans {b:qb} {S:List Int} {f g h:Int} (ad:rB b S f g) (af:rB b S g h):rB b S f h:=by
 induction af with
 | refl=>exact ad
 | step i _ hi aB aF a9=>exact .step i a9 hi aB aF
theorem rB.one {b:qb} {S:List Int} {f g i:Int} (hi:i∈S) (ad:qW b i f) (af:qW b i g):rB b S f g:=.step i .refl hi ad af
theorem rB.symm {b:qb} {S:List Int} {f g:Int} (h:rB b S f g):rB b S g f:=by
 induction h with
 | refl=>exact .refl
 | step i _ hi aB aF a9=>exact (rB.one hi aF aB).trans a9
theorem rB.mono {b:qb} {S S':List Int} {f g:Int} (cg:∀ x∈S,x∈S') (h:rB b S f g):rB b S' f g:=by
 induction h with
 | refl=>exact .refl
 | step i _ hi aB aF a9=>exact .step i a9 (cg i hi) aB aF
def Pb (b:qb) (i k:Int):Bool:=H_ (ix b.2 i) (ix b.2 k)
theorem X2 {b:qb} {i k:Int}:Pb b i k=true↔∃ f,qW b i f∧qW b k f:=by
 unfold Pb H_ qW;simp only [Bool.or_eq_true,decide_eq_true_eq];constructor
 ·rintro (((h | h) | h) | h)
  ·exact ⟨_,.inl rfl,.inl h.symm⟩
  ·exact ⟨_,.inl rfl,.inr h.symm⟩
  ·exact ⟨_,.inr rfl,.inl h.symm⟩
  ·exact ⟨_,.inr rfl,.inr h.symm⟩
 ·rintro ⟨f,ad | ad,af | af⟩ <;> omega
def Hl (b:qb) (s:Int) (r:List Int):Bool:=r.any (Pb b s)
structure rC (b:qb) (S:List Int) (out:List (List Int)):Prop where
 ne:∀ r∈out,r≠[]
 Ho:∀ r∈out,r.Pairwise (·<·)
 mem:∀ x,x∈S↔∃ r∈out,x∈r
 rN:out.Pairwise fun r q=>∀ x∈r,x ∉ q
 HL:∀ r∈out,∀ x∈r,∀ y∈r,∀ f g,qW b x f→qW b y g→rB b S f g
 sep:∀ r∈out,∀ q∈out,∀ x∈r,∀ y∈q,∀ f,qW b x f→qW b y f→r=q
def own (b:qb) (out:List (List Int)) (s:Int):List Int:=s::(out.filter (Hl b s)).flatten
def zb (b:qb) (out:List (List Int)) (s:Int):List (List Int):=(out.filter fun r=>!Hl b s r)++[GR (own b out s)]
section
variable {b:qb} {S:List Int} {out:List (List Int)} {s:Int}
theorem rC.uniq (h:rC b S out) {r q:List Int} {x:Int} (aj:r∈out) (bl:q∈out) (ad:x∈r) (af:x∈q):r=q:=h.sep r aj q bl x ad x af _ (.inl rfl) (.inl rfl)
theorem Wd {x:Int}:x∈own b out s↔x=s∨∃ r∈out,Hl b s r=true∧x∈r:=by
 unfold own;simp only [List.mem_cons,List.mem_flatten,List.mem_filter,and_assoc]
theorem rC.Wp (h:rC b S out) (ai:s ∉ S):(own b out s).Nodup:=by
 unfold own;refine List.nodup_cons.2 ⟨fun hm=>?_,?_⟩
 ·obtain ⟨r,aj,al⟩:=List.mem_flatten.1 hm;exact ai ((h.mem s).2 ⟨r,(List.mem_filter.1 aj).1,al⟩)
 ·refine List.pairwise_flatten.2 ⟨fun r aj=>(h.Ho r (List.mem_filter.1 aj).1).imp fun GD e=>by omega,(h.rN.filter _).imp fun Kr x al y aZ e=>Kr x al (by rw [e];exact aZ)⟩
theorem rC.step (h:rC b S out) (ai:s ∉ S):rC b (S++[s]) (zb b out s):=by
 have lF:=h.Wp ai;have Lw:∀ x,x∈GR (own b out s)↔x=s∨∃ r∈out,Hl b s r=true∧x∈r:=fun x=>by rw [(ahd _).mem_iff];exact Wd
 have IQ:∀ r,r∈zb b out s↔(r∈out∧Hl b s r=false)∨r=GR (own b out s):=fun r=>by
  unfold zb;simp only [List.mem_append,List.mem_filter,List.mem_singleton,Bool.not_eq_true']
 have IU:∀ x∈S,x∈S++[s]:=fun x al=>by simp [al]
 have VQ:∀ x∈GR (own b out s),∀ f,qW b x f→rB b (S++[s]) (ix b.2 s).1 f:=fun x al f aN=>by
  rcases (Lw x).1 al with rfl | ⟨r,aj,bJ,Io⟩
  ·exact .one (by simp) (.inl rfl) aN
  ·obtain ⟨k,av,aw⟩:=List.any_eq_true.1 bJ;obtain ⟨g,cn,cp⟩:=X2.1 aw;exact (rB.one (i:=s) (by simp) (.inl rfl) cn).trans ((h.HL r aj k av x Io g f cp aN).mono IU)
 have fS:∀ r∈out,Hl b s r=false→∀ x∈r,∀ y∈GR (own b out s),∀ f,qW b x f→qW b y f→False:=fun r aj bJ x al y aZ f f1 f2=>by
  rcases (Lw y).1 aZ with rfl | ⟨q,bl,Cj,ad3⟩
  ·have:Hl b y r=true:=List.any_eq_true.2 ⟨x,al,X2.2 ⟨f,f2,f1⟩⟩
   rw [this] at bJ;cases bJ
  ·obtain rfl:=h.sep r aj q bl x al y ad3 f f1 f2;rw [Cj] at bJ;cases bJ
 refine ⟨fun r aj=>?_,fun r aj=>?_,fun x=>?_,?_,fun r aj x al y aZ f g aN aK=>?_,fun r aj q bl x al y aZ f aN aK=>?_⟩
 ·rcases (IQ r).1 aj with ⟨ad,_⟩ | rfl
  ·exact h.ne r ad
  ·intro e;have:=(Lw s).2 (.inl rfl);rw [e] at this;cases this
 ·rcases (IQ r).1 aj with ⟨ad,_⟩ | rfl
  ·exact h.Ho r ad
  ·exact ahe lF
 ·constructor
  ·intro al;rcases List.mem_append.1 al with al | al
   ·obtain ⟨r,aj,Io⟩:=(h.mem x).1 al;cases bJ:Hl b s r with
    | true=>exact ⟨_,(IQ _).2 (.inr rfl),(Lw x).2 (.inr ⟨r,aj,bJ,Io⟩)⟩
    | false=>exact ⟨r,(IQ r).2 (.inl ⟨aj,bJ⟩),Io⟩
   ·exact ⟨_,(IQ _).2 (.inr rfl),(Lw x).2 (.inl (by simpa using al))⟩
  ·rintro ⟨r,aj,Io⟩;rcases (IQ r).1 aj with ⟨ad,_⟩ | rfl
   ·exact IU x ((h.mem x).2 ⟨r,ad,Io⟩)
   ·rcases (Lw x).1 Io with rfl | ⟨q,bl,_,Lz⟩
    ·simp
    ·exact IU x ((h.mem x).2 ⟨q,bl,Lz⟩)
 ·unfold zb;refine List.pairwise_append.2 ⟨h.rN.filter _,by simp,fun r aj q bl x al Lz=>?_⟩;simp only [List.mem_singleton] at bl;subst bl;have aj:=List.mem_filter.1 aj;exact fS r aj.1 (by simpa using aj.2) x al x Lz _ (.inl rfl) (.inl rfl)
 ·rcases (IQ r).1 aj with ⟨ad,_⟩ | rfl
  ·exact (h.HL r ad x al y aZ f g aN aK).mono IU
  ·exact (VQ x al f aN).symm.trans (VQ y aZ g aK)
 ·rcases (IQ r).1 aj with ⟨ad,af⟩ | rfl
  ·rcases (IQ q).1 bl with ⟨aH,_⟩ | rfl
   ·exact h.sep r ad q aH x al y aZ f aN aK
   ·exact (fS r ad af x al y aZ f aN aK).elim
  ·rcases (IQ q).1 bl with ⟨aH,bh⟩ | rfl
   ·exact (fS q aH bh y aZ x al f aK aN).elim
   ·rfl
theorem rC.perm {so:List (List Int)} (h:rC b S out) (aD:so.Perm out):rC b S so:=by
 refine ⟨fun r aj=>h.ne r (aD.mem_iff.1 aj),fun r aj=>h.Ho r (aD.mem_iff.1 aj),fun x=>?_,aD.symm.pairwise h.rN fun {r q} Kr x al iD=>Kr x iD al,fun r aj=>h.HL r (aD.mem_iff.1 aj),fun r aj q bl=>h.sep r (aD.mem_iff.1 aj) q (aD.mem_iff.1 bl)⟩;rw [h.mem x];exact ⟨fun ⟨r,aj,al⟩=>⟨r,aD.mem_iff.2 aj,al⟩,fun ⟨r,aj,al⟩=>⟨r,aD.mem_iff.1 aj,al⟩⟩
theorem rC.closed (h:rC b S out) {q:List Int} (bl:q∈out) {x:Int} (al:x∈q) {f g:Int} (aN:qW b x f) (ak:rB b S f g):∀ z∈S,qW b z g→z∈q:=by
 induction ak with
 | refl =>
   intro z bn Ry;obtain ⟨r,aj,fF⟩:=(h.mem z).1 bn;rw [h.sep q bl r aj x al z fF f aN Ry];exact fF
 | step i _ hi aB aF a9 =>
   intro z bn Ry;have Km:=a9 i hi aB;obtain ⟨r,aj,fF⟩:=(h.mem z).1 bn;rw [h.sep q bl r aj i Km z fF _ aF Ry];exact fF
theorem rC.same {P Q:List (List Int)} (r_:rC b S P) (bz:rC b S Q) (ad:P.Pairwise fun x y=>ix x 0<ix y 0) (af:Q.Pairwise fun x y=>ix x 0<ix y 0):P=Q:=by
 have key:∀ {P Q:List (List Int)},rC b S P→rC b S Q→∀ r∈P,r∈Q:=fun {P Q} r_ bz r aj=>by
  obtain ⟨x,al⟩:=List.exists_mem_of_ne_nil r (r_.ne r aj);have ad1:=(r_.mem x).2 ⟨r,aj,al⟩;obtain ⟨q,bl,Lz⟩:=(bz.mem x).1 ad1;have e:r=q:=SM (r_.Ho r aj) (bz.Ho q bl) fun y=>by
   constructor
   ·intro aZ;exact bz.closed bl Lz (.inl rfl) (r_.HL r aj x al y aZ _ _ (.inl rfl) (.inl rfl)) y ((r_.mem y).2 ⟨r,aj,aZ⟩) (.inl rfl)
   ·intro aZ;exact r_.closed aj al (.inl rfl) (bz.HL q bl x Lz y aZ _ _ (.inl rfl) (.inl rfl)) y ((bz.mem y).2 ⟨q,bl,aZ⟩) (.inl rfl)
  rw [e];exact bl
 exact Xe ad af fun r=>⟨key r_ bz r,key bz r_ r⟩
end
end Go.Proofs.YtfakoboiahbhaaaGreat.Ab


namespace Go.Proofs.YtfakoboiahbhaaaGreat.Ab
open Go
def rm (b:qb) (l:List Int):Prop:=∀ x∈l,0≤x∧x<(b.2.length:Int)
section
variable {b:qb} {S:List Int} {out:List (List Int)} {s:Int}
theorem Zz {r:List Int} (ag:b.2.length≤1000) (aj:rm b r) (ai:0≤s∧s<(b.2.length:Int)) (aq:r.length≤1000):Ld r b s=some (Hl b s r):=by
 rw [Ld,TF (p:=Pb b s) (fun k av=>by
  rw [Pw,Tb,qp ai,qp (aj k av)];rfl) (by omega),Option.bind_some];rfl
theorem HV {l:List Int} (aP:l.Nodup) (aq:rm b l):l.length≤b.2.length:=MZ aP aq
theorem Q9 (ag:b.2.length≤1000) (ai:0≤s∧s<(b.2.length:Int)):∀ (out:List (List Int)) (acc:List Int),(∀ r∈out,rm b r∧r.length≤1000)→(acc++(out.filter (Hl b s)).flatten).length≤1000 →
  Hk (On b s) out acc=some (acc++(out.filter (Hl b s)).flatten)
 | [],acc,_,_=>by simp [Hk]
 | r::out,acc,h,aq=>by
   have aj:=h r (by simp);rw [Hk,On,Zz ag aj.1 ai aj.2,Option.bind_some];rw [List.filter_cons] at aq ⊢;cases bJ:Hl b s r with
   | true =>
     rw [bJ,if_pos rfl,List.flatten_cons,←List.append_assoc] at aq;have e7:acc.length+r.length≤1000:=by
      rw [List.length_append,List.length_append] at aq;omega
     rw [if_pos rfl,qp (by omega),Option.bind_some,Q9 ag ai out _ (fun q bl=>h q (by simp [bl])) aq,if_pos rfl,List.flatten_cons,List.append_assoc]
   | false =>
     rw [bJ] at aq;rw [if_neg (by decide),Option.bind_some,Q9 ag ai out _ (fun q bl=>h q (by simp [bl])) (by simpa using aq),if_neg (by decide)]
theorem U1 {f:List Int→Option Bool} {p:List Int→Bool}:∀ (l:List (List Int)),(∀ r∈l,f r=some (p r))→Kc f l=some (l.filter fun r=>!p r)
 | [],_=>rfl
 | r::l,h=>by
   rw [Kc,h r (by simp),Option.bind_some,U1 l fun q bl=>h q (by simp [bl]),Option.bind_some,List.filter_cons];cases p r <;> rfl
theorem Wy:∀ (l:List (List Int)),(∀ r∈l,r≠[])→l.length≤l.flatten.length
 | [],_=>Nat.le_refl _
 | r::l,h=>by
   have:=Wy l fun q bl=>h q (by simp [bl]);have:=List.length_pos_iff.2 (h r (by simp));simp only [List.flatten_cons,List.length_append,List.length_cons];omega
theorem rC.Ve (h:rC b S out):out.flatten.Nodup :=
 List.pairwise_flatten.2 ⟨fun r aj=>(h.Ho r aj).imp fun GD e=>by omega,h.rN.imp fun Kr x al y aZ e=>Kr x al (by rw [e];exact aZ)⟩
theorem rC.MU (h:rC b S out) (cg:rm b S):∀ r∈out,rm b r:=fun r aj x al=>cg x ((h.mem x).2 ⟨r,aj,al⟩)
theorem rC.I_ (h:rC b S out) (cg:rm b S):out.length≤b.2.length:=by
 refine Nat.le_trans (Wy out h.ne) (HV h.Ve fun x al=>?_);obtain ⟨r,aj,al⟩:=List.mem_flatten.1 al;exact h.MU cg r aj x al
theorem afI (ag:b.2.length≤10) (cg:rm b S) (h:rC b S out) (ai:s ∉ S) (dU:0≤s∧s<(b.2.length:Int)):M3 b out s=some (zb b out s):=by
 have gY:=h.MU cg;have Cq:∀ r∈out,r.length≤10:=fun r aj=>by
  have:=HV ((h.Ho r aj).imp fun GD e=>by omega:r.Nodup) (gY r aj);omega
 have fD:(own b out s).length≤10:=by
  have adP:rm b (own b out s):=fun x al=>by
   rcases Wd.1 al with e | ⟨r,aj,_,Io⟩
   ·rw [e];exact dU
   ·exact gY r aj x Io
  have:=HV (h.Wp ai) adP;omega
 have aN:=h.I_ cg;have VG:=Q9 (by omega) dU out [s] (fun r aj=>⟨gY r aj,by have:=Cq r aj;omega⟩) (by have:[s]++(out.filter (Hl b s)).flatten=own b out s:=rfl;rw [this];omega);rw [show [s]++(out.filter (Hl b s)).flatten=own b out s from rfl] at VG;rw [M3,VG,Option.bind_some,qp ⟨by omega,by unfold own;simp,by omega⟩,U1 (p:=Hl b s) out (fun r aj=>Zz (by omega) (gY r aj) dU (by have:=Cq r aj;omega)),Option.bind_some];rfl
theorem WA (ag:b.2.length≤10):∀ (R S:List Int) (out:List (List Int)),(S++R).Nodup→rm b (S++R)→rC b S out→∃ so,Hk (M3 b) R out=some so∧rC b (S++R) so
 | [],S,out,_,_,h=>⟨out,rfl,by simpa using h⟩
 | s::R,S,out,aP,gY,h=>by
   have ai:s ∉ S:=fun ai=>by
    have:=(List.nodup_append.1 aP).2.2 s ai s (by simp);exact this rfl
   (have e:S++s::R=(S++[s])++R:=by simp);obtain ⟨so,ad,af⟩:=WA ag R (S++[s]) (zb b out s) (by rw [←e];exact aP) (by rw [←e];exact gY) (h.step ai);refine ⟨so,?_,by rw [e];exact af⟩;rw [Hk,afI ag (fun x al=>gY x (by simp [al])) h ai (gY s (by simp)),Option.bind_some,ad]
theorem rC.nil:rC b [] []:=⟨fun r aj=>absurd aj (by simp),fun r aj=>absurd aj (by simp),fun x=>by simp,.nil,fun r aj=>absurd aj (by simp),fun r aj=>absurd aj (by simp)⟩
theorem head_mem {r:List Int} (h:r≠[]):ix r 0∈r:=by
 cases r with
 | nil=>exact absurd rfl h
 | cons a r=>simp [ix]
theorem Zn (ag:b.2.length≤10) (aP:S.Nodup) (gY:rm b S):∃ out,J5 b S=some out∧rC b S out∧out.Pairwise fun x y=>ix x 0<ix y 0:=by
 obtain ⟨out,ad,af⟩:=WA ag S [] [] (by simpa using aP) (by simpa using gY) rC.nil;rw [List.nil_append] at af;have aD:=af.perm (ahi out);have aq:=HV aP gY;refine ⟨HG out,?_,aD,ahj (af.rN.imp_of_mem fun {r q} aj bl Kr e=>Kr _ (head_mem (af.ne r aj)) (by rw [e];exact head_mem (af.ne q bl)))⟩;have aN:=af.I_ gY;have dJ:out.all LK=true:=List.all_eq_true.2 fun r aj=>by
  have hm:=head_mem (af.ne r aj);have hi:=af.MU gY r aj _ hm;have he:(!r.isEmpty)=true:=by
   cases r with
   | nil=>exact absurd rfl (af.ne [] aj)
   | cons a r=>rfl
  rw [LK,he,decide_eq_true hi.1,decide_eq_true (by omega)];rfl
 rw [J5,qp (by omega),ad,Option.bind_some,qp ⟨by omega,dJ⟩]
end
end Go.Proofs.YtfakoboiahbhaaaGreat.Ab


namespace Go.Proofs.YtfakoboiahbhaaaGreat.Ab
open Go
set_option maxRecDepth 20000
set_option maxHeartbeats 4000000
noncomputable def NS:eM :=
 .loop (some (DX false [3,1,6,2,8])) (FY [gO 12 [.sl 11,.sl 10] (.bin .lss)] (.seq (.cond (.sl 12) .skip (.exit 0)) (.seq (.block 1 (FY [FN 13 11,FO 4 13] (FR [FO 14 3,FO 15 4,gO 16 [.hD 15] (.xG 1 1 [.int .i64 0] [0]),gO 17 [.hA 14,.hA 16] (.app 1 8),FO 3 17]))) (FR [Fk 18 11 1,FO 11 18]))))
noncomputable def TH:eM :=
 FY [gO 2 [.ij (.ax [] 0 .full)] (.nil 1)] (FY [gO 3 [.ij (.ax [] 0 .full)] (.nil 1)] (.seq (FY [FO 5 0,gO 6 [.hD 5] .za,Fu 7 6 0,Fu 8 7 1,FL 9 8,FK 10 9,FM 11 0] (.block 0 NS)) (FY [FO 19 3,FO 2 19] .ret)))
theorem V_:yQ Tryz.prog Qo 77=some (TH,20,[.tmp 2]):=by kernel_rfl
def K5 (t:qn) (qh:qa→Option qa):Nat→qa→Int→Option qa
 | 0,_,_=>none
 | m+1,s1,s2 =>
   if (decide (s2<(t.2.length:Int)))=true then
    qd ((s1.length+1)*8≤140737488355328) <|
    K5 t qh m (s1++[s2]) (w (s2+(1:Int)))
   else
    qh s1
def Pn (t:qn):Option qa :=
 K5 t (fun xt =>
   some xt) p' ([]:List Int) (0:Int)
theorem ajQ {t:qn} {qh:qa→Option qa} {s1:qa} {s2:Int} {v:qa} {Q:ra}   (rf:∀ (xt:qa) (p_:List I),qh xt=some v→qV 20 [(3,(qq xt (.uniq 1)))] p_→Q (.exit 0) p_ []) {T:List I} (bW:eL (DX false [3,1,6,2,8]) T=F2 20 [(3,(qq s1 (.uniq 1))),(10,(hG (t.2.length:Int))),(11,(hG s2))]) (h:K5 t qh p' s1 s2=some v) :
  dB Tryz.prog Qo 77 0 none NS T [] Q:=by
 unfold NS;refine wp_loop bW ?_;refine .intro (fun m T H=>∃ (s1:qa) (s2:Int),T=F2 20 [(3,(qq s1 (.uniq 1))),(10,(hG (t.2.length:Int))),(11,(hG s2))]∧H=[]∧K5 t qh m s1 s2=some v) p' ⟨s1,s2,rfl,rfl,h⟩ ?_;clear h bW;rintro m T H ⟨s1,s2,rfl,rfl,h⟩;cases m
 ·exact q3 h
 rename_i m;rw [K5.eq_2] at h;conv=>whnf
 refine bs h (fun eQ h=>?_) fun eQ h=>?_
 ·rw [eQ];conv=>whnf
  obtain ⟨fi,h⟩:=qD h;refine ⟨by first | rfl | simp,by have:=fi;omega,rfl,fi,?_⟩
  erw [Ii hG s1 s2];conv=>whnf
  exact ⟨m,Nat.lt_succ_self m,(s1++[s2]),(w (s2+(1:Int))),rfl,rfl,h⟩
 ·rw [eQ];conv=>whnf
  exact rf _ _ h ⟨rfl,rfl⟩
theorem ajR {t:qn} {v:qa} (h:Pn t=some v):qC 77 [(.bT [(hG t.1),(.ax (t.2.flatMap p6) t.2.length .shared)])] (.ax (v.map hG) v.length .shared):=by
 refine qN dD V_ rfl (rF (fun _=>rfl) _ _ _) fun Q bz=>?_;have lj:qE [.tmp 2] Q (fun v=>(qq v .shared)) v:=fun T H bJ=>bz _ T H bJ;unfold Pn at h;unfold TH;obtain ⟨Gi,qF⟩:∃ c,NS=c:=⟨_,rfl⟩;rw [qF];conv=>whnf
 subst qF;refine ajQ ?_ (by exact rfl) h;intro xt p_ h qt;obtain ⟨qT,rfl⟩:=qt.ex;conv=>whnf
 exact qj h lj rfl rfl
end Go.Proofs.YtfakoboiahbhaaaGreat.Ab
