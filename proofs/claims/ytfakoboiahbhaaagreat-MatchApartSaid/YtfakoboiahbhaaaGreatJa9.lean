
import Derived.Test.YtfakoboiahbhaaaGreatJa6
import Derived.KernelRfl
import Derived.Test.YtfakoboiahbhaaaGreatJa7
import Derived.Test.YtfakoboiahbhaaaGreatJa8
import Derived.Test.YtfakoboiahbhaaaGreatJa5
set_option linter.unusedSimpArgs false
set_option linter.unusedVariables false
set_option linter.unusedSectionVars false

open Bool renaming false_or→vD,or_eq_true→tI
open Decidable renaming not_not→vl
open Int renaming le_refl→vd,le_trans→vr,lt_or_le→uJ,toNat_natCast→th,toNat_of_nonneg→tS
open List renaming any_cons→uX,any_eq_false→uI,any_eq_true→uY,append_assoc→sD,drop_eq_getElem_cons→sQ,drop_eq_nil_of_le→td,drop_zero→sV,filter_cons→tP,flatten_cons→ub,getD_eq_getElem?_getD→sE,getElem?_append→se,getElem?_eq_getElem→sm,getElem?_set_ne→sj,getElem_mem→sI,getElem_replicate→wk,length_append→sr,length_cons→sM,length_pos_of_mem→wj,map_cons→sG,map_map→tp,mem_append→sN,mem_cons→sq,mem_filter→sP,mem_flatten→uZ,mem_map→sk,mem_range→sK,mem_singleton→sO,nil_append→tN,nodup_append→tX,nodup_cons→uc,pairwise_append→uC,pairwise_cons→tB,pairwise_iff_getElem→ti,take_zero→tj
open Nat renaming lt_succ_self→su,zero_le→sC
open Option renaming bind_some→sc
namespace Go.Proofs.YtfakoboiahbhaaaGreat.Ab
open Go
def aJ:qu:=.pure 18 [.agg [.int .i64 4,.ax [.int .i64 0,.int .i64 1,.int .i64 1,.int .i64 2,.int .i64 2,.int .i64 0,.int .i64 2,.int .i64 3] 4 .shared],.ax [.int .i64 1,.int .i64 1,.int .i64 0,.int .i64 1,.int .i64 2,.int .i64 1,.int .i64 3,.int .i64 0] 4 .shared] (.tuple [.int .i64 2,.int .i64 3,.int .i64 0])
def aQ:qu:=.pure 22 [.agg [.int .i64 4,.ax [.int .i64 0,.int .i64 1,.int .i64 1,.int .i64 2,.int .i64 2,.int .i64 0,.int .i64 2,.int .i64 3] 4 .shared],.ax [.int .i64 1,.int .i64 1,.int .i64 0,.int .i64 1,.int .i64 2,.int .i64 1,.int .i64 3,.int .i64 0] 4 .shared] (.int .i64 27)
def cn:qu:=.pure 27 [.agg [.int .i64 5,.ax [.int .i64 0,.int .i64 1,.int .i64 2,.int .i64 3,.int .i64 4,.int .i64 4] 3 .shared]] (.tuple [.ax [.int .i64 0,.int .i64 1,.int .i64 2,.int .i64 3] 4 .full,.int .i64 0])
def mD:qu:=.pure 29 [.agg [.int .i64 4,.ax [.int .i64 0,.int .i64 1,.int .i64 1,.int .i64 2,.int .i64 2,.int .i64 0,.int .i64 2,.int .i64 3] 4 .shared]] (.tuple [.ax [.ax [.int .i64 0,.int .i64 1,.int .i64 2,.int .i64 3] 4 .shared] 1 .shared,.int .i64 0])
def DN:qu:=.pure 35 [.agg [.int .i64 4,.ax [.int .i64 0,.int .i64 1,.int .i64 1,.int .i64 2,.int .i64 2,.int .i64 0,.int .i64 2,.int .i64 3] 4 .shared]] (.tuple [.int .i64 1,.int .i64 0])
def Me:qu:=.pure 35 [.agg [.int .i64 2,.ax [.int .i64 0,.int .i64 1,.int .i64 1,.int .i64 0] 2 .shared]] (.tuple [.int .i64 1,.int .i64 0])
end Go.Proofs.YtfakoboiahbhaaaGreat.Ab


namespace Go.Proofs.YtfakoboiahbhaaaGreat.Ab
open Go
def YU:List qu:=[bG,bX,rZ,JB,Nv,YN,YO,YP,YQ,Yz,YA,YB,YC,YD,YE,YF,YG,YH,YI,YJ,YK,YL,YM]
theorem ait:∀ e∈YU,qG Go.Proofs.Tryz.prog e:=by
 simp only [YU,List.forall_mem_cons];exact ⟨aid,aij,aik,ail,aim,ain,aio,aip,aiq,ah4,ah5,ah6,ah7,ah8,ah9,ah_,aia,aib,aic,aie,aif,aih,aii,by simp⟩
abbrev aav:Prop:=qw 17 [] (B true)
theorem aiu:aav:=r8 ait (by kernel_rfl)
end Go.Proofs.YtfakoboiahbhaaaGreat.Ab


namespace Go.Proofs.YtfakoboiahbhaaaGreat.Ab
open Go
def JC:Option Bool:=some true
theorem OV {v:Bool} (h:JC=some v):qw 17 [] (B v):=by
 obtain rfl:=Option.some.inj h;exact aiu
end Go.Proofs.YtfakoboiahbhaaaGreat.Ab


namespace Go.Proofs.YtfakoboiahbhaaaGreat.Ab
open Go
set_option maxRecDepth 20000
set_option maxHeartbeats 4000000
noncomputable def ZS:fT :=
 pY [GC 1 [.jf 0] .box,GC 2 [.lR (.bool false)] .mN] (pY [qF 3 1 1,qc 4 3,qM 5 4,qq 6 5 14 .gtr,pX 2 6] .ret)
theorem aeQ:zD Tryz.prog U1 16=some (ZS,7,[.tmp 2]):=by kernel_rfl
def OU (b:qe):Option Bool :=
 some (decide ((14:Int)<(b.2.length:Int)))
theorem aiM {b:qe} {v:Bool} (h:OU b=some v):qw 16 [(.agg [(hU b.1),(.ax (b.2.flatMap p2) b.2.length .shared)])] (B v):=by
 refine q7 eo aeQ rfl rfl fun Q bo=>?_;have jB:qK [.tmp 2] Q (fun v=>(B v)) v:=fun T H bH=>bo _ T H bH;unfold OU at h;unfold ZS;conv=>whnf
 exact qd h jB rfl rfl

noncomputable def aan:fT :=
 pY [GC 4 [.lR (.bool false)] .mN] (pY [pZ 5 0,qc 6 1,qI 7 5 6 .lss,pX 8 7,cR 9 [.jf 0] 8 false .mN,cR 10 [.Bs 2] 8 false (.zx .one),cR 11 [.Bs 9,.Bs 10] 8 false (.bin .gtr),GC 12 [.Bs 8,.lR (.bool true),.Bs 11] .pick,pX 4 12] .ret)
theorem afl:zD Tryz.prog Vk 93=some (aan,13,[.tmp 4]):=by kernel_rfl
def O7 (n gV a_:Int):Option Bool :=
 if (decide (n<gV))=true then
  some true
 else
  some (decide (a_<n))
theorem ajE {n:Int} {gV:Int} {a_:Int} {v:Bool} (h:O7 n gV a_=some v):qw 93 [(hU n),(.bT [(hU gV)]),(.bT [(hU a_)])] (B v):=by
 refine q7 eo afl rfl rfl fun Q bo=>?_;have jB:qK [.tmp 4] Q (fun v=>(B v)) v:=fun T H bH=>bo _ T H bH;unfold O7 at h;unfold aan;conv=>whnf
 refine bs h (fun gD h=>?_) fun gD h=>?_
 ·rw [gD];conv=>whnf
  exact qd h jB rfl rfl
 ·rw [gD];conv=>whnf
  exact qd h jB rfl rfl

noncomputable def Z9:fT :=
 pY [GC 3 [.jf 0] .box,GC 4 [.jf 1] .box,GC 6 [.lR (.bool false)] .mN] (pY [pX 7 2,GC 8 [.Bs 3,.Bs 4] (.zR 93 0 2),GC 9 [.lR (.func 92 [] []),.sl 7,.sl 8] (.call 6),GC 10 [.Bs 9] (.un .not),pX 6 10] .ret)
theorem ae7:zD Tryz.prog Va 66=some (Z9,11,[.tmp 6]):=by kernel_rfl
def LM (lo hi:Int) (l:p7):Option Bool :=
 (Kw l (fun qN=>O7 qN lo hi)).bind fun r1 =>
 some (!r1)
theorem QM {lo:Int} {hi:Int} {l:p7} {v:Bool} (h:LM lo hi l=some v):qw 66 [(hU lo),(hU hi),(.ax (l.map hU) l.length .shared)] (B v):=by
 refine q7 eo ae7 rfl rfl fun Q bo=>?_;have jB:qK [.tmp 6] Q (fun v=>(B v)) v:=fun T H bH=>bo _ T H bH;unfold LM at h;unfold Z9;conv=>whnf
 obtain ⟨r1,gD,h⟩:=qj h;refine ⟨_,_,I2 (cs:=[(qi l .shared),(.func 93 [] [(.bT [(hU lo)]),(.bT [(hU hi)])])]) (bs:=[(qi l .shared),(.func 93 [] [(.bT [(hU lo)]),(.bT [(hU hi)])])]) (ru rfl (ru (K0 rY (ru (J3 (cs:=[(hU lo)]) (by first | exact qn.h | rfl | (simp [se,I.settle];done)) rfl) (ru (J3 (cs:=[(hU hi)]) (by first | exact qn.h | rfl | (simp [se,I.settle];done)) rfl) rY))) rY)) (by rfl) (by exact (p1 (rX (fun _=>rfl) _ _ _) (p1 (Kl rfl (p1 (rj (p1 rfl rfl)) (p1 (rj (p1 rfl rfl)) rfl))) rfl))) (ZG ⟨(p1 (rj (p1 rfl rfl)) (p1 (rj (p1 rfl rfl)) rfl)),by simp⟩ (fun _ _ aY=>ajE aY) gD) rfl,?_⟩
 conv=>whnf
 exact qd h jB rfl rfl

noncomputable def aad:fT :=
 pY [GC 2 [.jf 0] .box,GC 3 [.lR (.bool false)] .mN] (pY [qF 4 1 0,qc 5 4,qq 6 5 1 .sub,GC 7 [.sl 2] (.yG 0),qc 8 7,qF 9 2 1,qc 10 9,GC 11 [.Bs 8,.Bs 10] (.yu 2 1 [.int .i64 0] [0,1]),GC 12 [.lR (.func 66 [] []),.lR (.int .i64 0),.sl 6,.sl 11] (.call 3),GC 13 [.Bs 12] (.un .not),pX 3 13] .ret)
theorem afb:zD Tryz.prog Ve 71=some (aad,14,[.tmp 3]):=by kernel_rfl
def QN (s:(Int×Int)) (gV:qe):Option Bool :=
 (LM (0:Int) (w (gV.1-(1:Int))) [s.1,s.2]).bind fun r1 =>
 some (!r1)
theorem ajn {s:(Int×Int)} {gV:qe} {v:Bool} (h:QN s gV=some v):qw 71 [(.agg [(hU s.1),(hU s.2)]),(.bT [(hU gV.1),(.ax (gV.2.flatMap p2) gV.2.length .shared)])] (B v):=by
 refine q7 eo afb rfl rfl fun Q bo=>?_;have jB:qK [.tmp 3] Q (fun v=>(B v)) v:=fun T H bH=>bo _ T H bH;unfold QN at h;unfold aad;conv=>whnf
 obtain ⟨r1,gD,h⟩:=qj h;refine ⟨(p1 rfl (p1 rfl (p1 rfl rfl))),_,QM gD,?_⟩;conv=>whnf
 exact qd h jB rfl rfl

noncomputable def Rj:fT :=
 .loop (some (p_ false [0,2,5,2,10])) (pY [GC 9 [.sl 8,.sl 7] (.bin .lss)] (.seq (.cond (.sl 9) .skip (.exit 0)) (.seq (.block 1 (pY [pZ 10 8,pX 5 10] (pY [pZ 11 1,pZ 12 0,pZ 13 5,qL 14 12 13 2,GC 15 [.Bs 14] (.zx (.str 2)),GC 16 [.sl 11,.sl 15] (.call 6)] (.cond (.sl 16) (pY [pX 17 5,pX 4 17] .ret) .skip)))) (qv [qE 18 8 1,pX 8 18]))))
noncomputable def aap:fT :=
 pY [qa 4 0] (.seq (pY [pZ 6 0,qM 7 6,qa 8 0] (.block 0 Rj)) (pY [qa 4 (-1)] .ret))
theorem afn:zD Tryz.prog Rz 95=some (aap,19,[.tmp 4]):=by kernel_rfl
def MK (s:qk) (f:((Int×Int)→Option Bool)) (qb:Unit→Option Int):Nat→Int→Option Int
 | 0,_=>none
 | m+1,s1 =>
   if (decide (s1<(s.length:Int)))=true then
    p9 (0≤s1∧s1<(s.length:Int)) <|
    (f (ix s s1)).bind fun r1 =>
    if r1=true then
     some s1
    else
     MK s f qb m (w (s1+(1:Int)))
   else
    qb ()
def QR (s:qk) (f:((Int×Int)→Option Bool)):Option Int :=
 MK s f (fun _ =>
   some (-1:Int)) p' (0:Int)
theorem ajH {s:qk} {f:((Int×Int)→Option Bool)} {qb:Unit→Option Int} {s1:Int} {ry:FuncId} {qV:List I} (rN:Hp qV) (HP:∀ (qN:(Int×Int)) (r:Bool),f qN=some r→qw ry ((.agg [(hU qN.1),(hU qN.2)])::qV) (B r)) {v:Int} {Q:rM}   (jB:qK [.tmp 4] Q (fun v=>(hU v)) v) (rI:∀ (p8:List I),qb ()=some v→rn 19 [] p8→Q (.exit 0) p8 []) {T:List I} (bW:eX (p_ false [0,2,5,2,10]) T=Hc 19 [(0,(p6 s .shared)),(1,(.func ry [] qV)),(7,(hU (s.length:Int))),(8,(hU s1))]) (h:MK s f qb p' s1=some v) :
  dO Tryz.prog Rz 95 0 none Rj T [] Q:=by
 unfold Rj;refine wp_loop bW ?_;refine .intro (fun m T H=>∃ (s1:Int),T=Hc 19 [(0,(p6 s .shared)),(1,(.func ry [] qV)),(7,(hU (s.length:Int))),(8,(hU s1))]∧H=[]∧MK s f qb m s1=some v) p' ⟨s1,rfl,rfl,h⟩ ?_;clear h bW;rintro m T H ⟨s1,rfl,rfl,h⟩;cases m
 ·exact ri h
 rename_i m;rw [MK.eq_2] at h;conv=>whnf
 refine bs h (fun gD h=>?_) fun gD h=>?_
 ·rw [gD];conv=>whnf
  refine qs h id fun gE h=>?_;rw [q' p2 2 qy s s1 gE];conv=>whnf
  obtain ⟨r1,qo,h⟩:=qj h;refine ⟨_,_,call6 (bs:=((.agg [(hU (ix s s1).1),(hU (ix s s1).2)])::qV)) (by simp only [sG,rN.im,rN.cq];rfl) (by simp only [sG,rN.im];exact (p1 (JY (p1 rfl (p1 rfl rfl))) rN.Rq)) (HP _ _ qo) rfl,?_⟩;conv=>whnf
  cases r1
  ·(conv=>whnf);replace h:=HX rfl h;exact ⟨m,su m,(w (s1+(1:Int))),rfl,rfl,h⟩
  ·(conv=>whnf);replace h:=HY rfl h;exact qd h jB rfl rfl
 ·rw [gD];conv=>whnf
  exact rI  _ h ⟨rfl,rfl⟩
theorem ajI {s:qk} {f:((Int×Int)→Option Bool)} {ry:FuncId} {qV:List I} (rN:Hp qV) (HP:∀ (qN:(Int×Int)) (r:Bool),f qN=some r→qw ry ((.agg [(hU qN.1),(hU qN.2)])::qV) (B r)) {v:Int} (h:QR s f=some v):qw 95 [(.ax (s.flatMap p2) s.length .shared),(.func ry [] qV)] (hU v):=by
 refine q7 eo afn rfl rfl fun Q bo=>?_;have jB:qK [.tmp 4] Q (fun v=>(hU v)) v:=fun T H bH=>bo _ T H bH;unfold QR at h;unfold aap;obtain ⟨HV,qO⟩:∃ c,Rj=c:=⟨_,rfl⟩;rw [qO];conv=>whnf
 subst qO;refine ajH rN HP ?_ ?_ (by exact rfl) h
 ·exact fun T H bH=>jB T H bH
 ·intro  p8 h qm;obtain ⟨rf,rfl⟩:=qm.ex;conv=>whnf
  exact qd h jB rfl rfl

noncomputable def aae:fT :=
 pY [GC 4 [.lR (.bool false)] .mN] (pY [pX 5 0,pX 6 1,GC 7 [.lR (.func 95 [] []),.sl 5,.sl 6] (.call 6),qq 8 7 0 .geq,pX 4 8] .ret)
theorem afc:zD Tryz.prog Vf 72=some (aae,9,[.tmp 4]):=by kernel_rfl
def O4 (s:qk) (f:((Int×Int)→Option Bool)):Option Bool :=
 (QR s f).bind fun r1 =>
 some (decide ((0:Int)≤r1))
theorem ajp {s:qk} {f:((Int×Int)→Option Bool)} {ry:FuncId} {qV:List I} (rN:Hp qV) (HP:∀ (qN:(Int×Int)) (r:Bool),f qN=some r→qw ry ((.agg [(hU qN.1),(hU qN.2)])::qV) (B r)) {v:Bool} (h:O4 s f=some v):qw 72 [(.ax (s.flatMap p2) s.length .shared),(.func ry [] qV)] (B v):=by
 refine q7 eo afc rfl rfl fun Q bo=>?_;have jB:qK [.tmp 4] Q (fun v=>(B v)) v:=fun T H bH=>bo _ T H bH;unfold O4 at h;unfold aae;conv=>whnf
 obtain ⟨r1,gD,h⟩:=qj h;refine ⟨_,_,I2 (cs:=[(p6 s .shared),(.func ry [] qV)]) (bs:=[(p6 s .shared),(.func ry [] qV)]) (ru rfl (ru (rN.fn _ _) rY)) (by rfl) (by exact (p1 (q8 (fun _=>(p1 rfl (p1 rfl rfl))) _ _ _) (p1 (rN.SM _) rfl))) (ajI rN HP gD) rfl,?_⟩;conv=>whnf
 exact qd h jB rfl rfl

noncomputable def ZV:fT :=
 pY [GC 1 [.jf 0] .box,qa 2 0] (pY [GC 4 [.sl 1] (.zR 71 0 1),pX 3 4] (.seq (.block 0 (pY [GC 6 [.sl 1] (.yG 0),qc 7 6,GC 8 [.Bs 7] (.yu 1 1 [.int .i64 0] [0]),GC 9 [.lR (.func 66 [] []),.lR (.int .i64 1),.lR (.int .i64 6),.sl 8] (.call 3),GC 10 [.Bs 9] (.un .not),pX 11 10,cR 12 [.sl 1] 11 false (.yG 1),cR 13 [.Bs 12] 11 false (.zx .one),cR 14 [.jf 13] 11 false .zC,cR 15 [.Bs 14,.lR (.int .i64 10)] 11 false (.bin .gtr),GC 16 [.Bs 11,.lR (.bool true),.Bs 15] .pick,pX 5 16] (.cond (.sl 5) (pY [qa 2 6] .ret) (pY [qF 18 1 1,qc 19 18,pX 20 3,GC 21 [.lR (.func 72 [] []),.sl 19,.sl 20] (.call 6),pX 17 21] (.cond (.sl 17) (pY [qa 2 3] .ret) .skip))))) (pY [qa 2 0] .ret)))
theorem aeT:zD Tryz.prog U2 20=some (ZV,22,[.tmp 2]):=by kernel_rfl
def Ny (b:qe):Option Int :=
 (LM (1:Int) (6:Int) [b.1]).bind fun r1 =>
 if r1=true then
  if (decide ((10:Int)<(b.2.length:Int)))=true then
   some (6:Int)
  else
   (O4 b.2 (fun qN=>QN qN b)).bind fun r2 =>
   if r2=true then
    some (3:Int)
   else
    some (0:Int)
 else
  some (6:Int)
theorem Y7 {b:qe} {v:Int} (h:Ny b=some v):qw 20 [(.agg [(hU b.1),(.ax (b.2.flatMap p2) b.2.length .shared)])] (hU v):=by
 refine q7 eo aeT rfl rfl fun Q bo=>?_;have jB:qK [.tmp 2] Q (fun v=>(hU v)) v:=fun T H bH=>bo _ T H bH;unfold Ny at h;unfold ZV;conv=>whnf
 obtain ⟨r1,gD,h⟩:=qj h;refine ⟨(p1 rfl (p1 rfl (p1 rfl rfl))),_,QM gD,?_⟩;conv=>whnf
 cases r1
 ·conv=>whnf
  replace h:=HX rfl h;exact qd h jB rfl rfl
 ·conv=>whnf
  replace h:=HY rfl h;refine bs h (fun gE h=>?_) fun gE h=>?_
  ·rw [gE];(conv=>whnf);exact qd h jB rfl rfl
  ·rw [gE];(conv=>whnf);obtain ⟨r2,qo,h⟩:=qj h;refine ⟨_,_,I2 (cs:=[(p6 b.2 .shared),(.func 71 [] [(.bT [(hU b.1),(p6 b.2 .shared)])])]) (bs:=[(p6 b.2 .shared),(.func 71 [] [(.bT [(hU b.1),(p6 b.2 .shared)])])]) (ru rfl (ru (K0 rY (ru (J3 (cs:=[(hU b.1),(p6 b.2 .shared)]) (by first | exact qn.h | rfl | (simp [se,I.settle];done)) rfl) rY)) rY)) (by rfl) (by exact (p1 (q8 (fun _=>(p1 rfl (p1 rfl rfl))) _ _ _) (p1 (Kl rfl (p1 (rj (p1 rfl (p1 (q8 (fun _=>(p1 rfl (p1 rfl rfl))) _ _ _) rfl))) rfl)) rfl))) (ajp ⟨(p1 (rj (p1 rfl (p1 (q8 (fun _=>(p1 rfl (p1 rfl rfl))) _ _ _) rfl))) rfl),by simp⟩ (fun _ _ aY=>ajn aY) qo) rfl,?_⟩
   (conv=>whnf);cases r2
   ·(conv=>whnf);replace h:=HX rfl h;exact qd h jB rfl rfl
   ·(conv=>whnf);replace h:=HY rfl h;exact qd h jB rfl rfl

def Rk (x:qe):List I:=[(hU x.1),(p6 x.2 .shared)]
instance {d:Nat} {x:qe}:ql (d+2) (Rk x):=⟨(inferInstance:ql (d+2) [(hU x.1),(p6 x.2 .shared)]).pl⟩
noncomputable def Z7:fT :=
 pY [GC 1 [.jf 0] .box,GC 2 [.lR .eG] .mN,qa 3 0] (.seq (pY [GC 5 [.sl 1] (.zx (.str 2)),GC 6 [.lR (.func 20 [] []),.sl 5] (.call 3),pX 4 6] (pY [pZ 7 4,qq 8 7 0 .neq] (.cond (.sl 8) (pY [pX 9 4,GC 2 [.lR .eG] .mN,pX 3 9] .ret) .skip))) (pY [GC 10 [.Bs 1] (.zx (.str 2)),GC 11 [.Bs 10] (.build [.int .i64 0,.ax [] 0 .full] [(0,2)]),GC 12 [.jf 11] .yq,pX 2 12,qa 3 0] .ret))
theorem ae5:zD Tryz.prog U_ 64=some (Z7,13,[.tmp 2,.tmp 3]):=by kernel_rfl
def Jn (b:qe):Option ((Option qe)×Int) :=
 (Ny b).bind fun r1 =>
 if (decide (r1≠(0:Int)))=true then
  some (none,r1)
 else
  some ((some b),(0:Int))
theorem J6 {b:qe} {v:((Option qe)×Int)} (h:Jn b=some v):qw 64 [(.agg [(hU b.1),(.ax (b.2.flatMap p2) b.2.length .shared)])] (.tuple [(P8 Rk v.1),(hU v.2)]):=by
 refine q7 eo ae5 rfl (Jb (p1 (Xe (fun _=>(p1 rfl (p1 (q8 (fun _=>(p1 rfl (p1 rfl rfl))) _ _ _) rfl))) _) (p1 rfl rfl))) fun Q bo=>?_;have jB:qK [.tmp 2,.tmp 3] Q (fun v=>(.tuple [(P8 Rk v.1),(hU v.2)])) v:=fun T H bH=>bo _ T H bH;unfold Jn at h;unfold Z7;conv=>whnf
 obtain ⟨r1,gD,h⟩:=qj h;refine ⟨ql.pl,_,Y7 gD,?_⟩;conv=>whnf
 refine bs h (fun gE h=>?_) fun gE h=>?_
 ·rw [gE];conv=>whnf
  exact qd h jB rfl rfl
 ·rw [gE];conv=>whnf
  refine ⟨rfl,?_⟩;conv=>whnf
  exact qd h jB rfl rfl

noncomputable def Z8:fT :=
 pY [GC 2 [.jf 0] .box,GC 3 [.lR (.bool false)] .mN] (pY [qF 4 1 1,qc 5 4,qM 6 5,qq 7 6 1 .sub,GC 8 [.sl 2] (.yG 0),qc 9 8,GC 10 [.Bs 9] (.yu 1 1 [.int .i64 0] [0]),GC 11 [.lR (.func 66 [] []),.lR (.int .i64 0),.sl 7,.sl 10] (.call 3),GC 12 [.Bs 11] (.un .not),pX 13 12,cR 14 [.Bs 2] 13 false (.yG 1),cR 15 [.Bs 14] 13 false (.zx .one),⟨some 16,[.Bs 15],some (13,false),none,.yu 1 1 [.int .i64 0] [0]⟩,⟨some 17,[.lR (.func 66 [] []),.lR (.int .i64 0),.lR (.int .i64 1),.sl 16],some (13,false),none,.call 3⟩,cR 18 [.Bs 17] 13 false (.un .not),GC 19 [.Bs 13,.lR (.bool true),.Bs 18] .pick,pX 3 19] .ret)
theorem ae6:zD Tryz.prog U' 65=some (Z8,20,[.tmp 3]):=by kernel_rfl
def ND (p:(Int×Int)) (gV:qe):Option Bool :=
 (LM (0:Int) (w ((gV.2.length:Int)-(1:Int))) [p.1]).bind fun r1 =>
 if r1=true then
  (LM (0:Int) (1:Int) [p.2]).bind fun r2 =>
  some (!r2)
 else
  some true
theorem Zj {p:(Int×Int)} {gV:qe} {v:Bool} (h:ND p gV=some v):qw 65 [(.agg [(hU p.1),(hU p.2)]),(.bT [(hU gV.1),(.ax (gV.2.flatMap p2) gV.2.length .shared)])] (B v):=by
 refine q7 eo ae6 rfl rfl fun Q bo=>?_;have jB:qK [.tmp 3] Q (fun v=>(B v)) v:=fun T H bH=>bo _ T H bH;unfold ND at h;unfold Z8;conv=>whnf
 obtain ⟨r1,gD,h⟩:=qj h;refine ⟨(p1 rfl (p1 rfl (p1 rfl rfl))),_,QM gD,?_⟩;conv=>whnf
 cases r1
 ·conv=>whnf
  replace h:=HX rfl h;exact qd h jB rfl rfl
 ·conv=>whnf
  replace h:=HY rfl h;obtain ⟨r2,gE,h⟩:=qj h;refine ⟨(p1 rfl (p1 rfl (p1 rfl rfl))),_,QM gE,?_⟩;conv=>whnf
  exact qd h jB rfl rfl

noncomputable def Ri:fT :=
 .loop (some (p_ false [0,2,5,2,10])) (pY [GC 9 [.sl 8,.sl 7] (.bin .lss)] (.seq (.cond (.sl 9) .skip (.exit 0)) (.seq (.block 1 (pY [pZ 10 8,pX 5 10] (pY [pZ 11 1,pZ 12 0,pZ 13 5,qL 14 12 13 2,GC 15 [.Bs 14] (.zx (.str 2)),GC 16 [.sl 11,.sl 15] (.call 6)] (.cond (.sl 16) (pY [pX 17 5,pX 4 17] .ret) .skip)))) (qv [qE 18 8 1,pX 8 18]))))
noncomputable def aao:fT :=
 pY [qa 4 0] (.seq (pY [pZ 6 0,qM 7 6,qa 8 0] (.block 0 Ri)) (pY [qa 4 (-1)] .ret))
theorem afm:zD Tryz.prog Ry 94=some (aao,19,[.tmp 4]):=by kernel_rfl
def MJ (s:qk) (f:((Int×Int)→Option Bool)) (qb:Unit→Option Int):Nat→Int→Option Int
 | 0,_=>none
 | m+1,s1 =>
   if (decide (s1<(s.length:Int)))=true then
    p9 (0≤s1∧s1<(s.length:Int)) <|
    (f (ix s s1)).bind fun r1 =>
    if r1=true then
     some s1
    else
     MJ s f qb m (w (s1+(1:Int)))
   else
    qb ()
def LQ (s:qk) (f:((Int×Int)→Option Bool)):Option Int :=
 MJ s f (fun _ =>
   some (-1:Int)) p' (0:Int)
theorem ajG {s:qk} {f:((Int×Int)→Option Bool)} {qb:Unit→Option Int} {s1:Int} {ry:FuncId} {qV:List I} (rN:Hp qV) (HP:∀ (qN:(Int×Int)) (r:Bool),f qN=some r→qw ry ((.agg [(hU qN.1),(hU qN.2)])::qV) (B r)) {v:Int} {Q:rM}   (jB:qK [.tmp 4] Q (fun v=>(hU v)) v) (rI:∀ (p8:List I),qb ()=some v→rn 19 [] p8→Q (.exit 0) p8 []) {T:List I} (bW:eX (p_ false [0,2,5,2,10]) T=Hc 19 [(0,(p6 s .shared)),(1,(.func ry [] qV)),(7,(hU (s.length:Int))),(8,(hU s1))]) (h:MJ s f qb p' s1=some v) :
  dO Tryz.prog Ry 94 0 none Ri T [] Q:=by
 unfold Ri;refine wp_loop bW ?_;refine .intro (fun m T H=>∃ (s1:Int),T=Hc 19 [(0,(p6 s .shared)),(1,(.func ry [] qV)),(7,(hU (s.length:Int))),(8,(hU s1))]∧H=[]∧MJ s f qb m s1=some v) p' ⟨s1,rfl,rfl,h⟩ ?_;clear h bW;rintro m T H ⟨s1,rfl,rfl,h⟩;cases m
 ·exact ri h
 rename_i m;rw [MJ.eq_2] at h;conv=>whnf
 refine bs h (fun gD h=>?_) fun gD h=>?_
 ·rw [gD];conv=>whnf
  refine qs h id fun gE h=>?_;rw [q' p2 2 qy s s1 gE];conv=>whnf
  obtain ⟨r1,qo,h⟩:=qj h;refine ⟨_,_,call6 (bs:=((.agg [(hU (ix s s1).1),(hU (ix s s1).2)])::qV)) (by simp only [sG,rN.im,rN.cq];rfl) (by simp only [sG,rN.im];exact (p1 (JY (p1 rfl (p1 rfl rfl))) rN.Rq)) (HP _ _ qo) rfl,?_⟩;conv=>whnf
  cases r1
  ·(conv=>whnf);replace h:=HX rfl h;exact ⟨m,su m,(w (s1+(1:Int))),rfl,rfl,h⟩
  ·(conv=>whnf);replace h:=HY rfl h;exact qd h jB rfl rfl
 ·rw [gD];conv=>whnf
  exact rI  _ h ⟨rfl,rfl⟩
theorem QQ {s:qk} {f:((Int×Int)→Option Bool)} {ry:FuncId} {qV:List I} (rN:Hp qV) (HP:∀ (qN:(Int×Int)) (r:Bool),f qN=some r→qw ry ((.agg [(hU qN.1),(hU qN.2)])::qV) (B r)) {v:Int} (h:LQ s f=some v):qw 94 [(.ax (s.flatMap p2) s.length .shared),(.func ry [] qV)] (hU v):=by
 refine q7 eo afm rfl rfl fun Q bo=>?_;have jB:qK [.tmp 4] Q (fun v=>(hU v)) v:=fun T H bH=>bo _ T H bH;unfold LQ at h;unfold aao;obtain ⟨HV,qO⟩:∃ c,Ri=c:=⟨_,rfl⟩;rw [qO];conv=>whnf
 subst qO;refine ajG rN HP ?_ ?_ (by exact rfl) h
 ·exact fun T H bH=>jB T H bH
 ·intro  p8 h qm;obtain ⟨rf,rfl⟩:=qm.ex;conv=>whnf
  exact qd h jB rfl rfl

noncomputable def Z_:fT :=
 pY [GC 4 [.lR (.bool false)] .mN] (pY [pX 5 0,pX 6 1,GC 7 [.lR (.func 94 [] []),.sl 5,.sl 6] (.call 6),qq 8 7 0 .geq,pX 4 8] .ret)
theorem ae8:zD Tryz.prog Vb 67=some (Z_,9,[.tmp 4]):=by kernel_rfl
def NF (s:qk) (f:((Int×Int)→Option Bool)):Option Bool :=
 (LQ s f).bind fun r1 =>
 some (decide ((0:Int)≤r1))
theorem Zk {s:qk} {f:((Int×Int)→Option Bool)} {ry:FuncId} {qV:List I} (rN:Hp qV) (HP:∀ (qN:(Int×Int)) (r:Bool),f qN=some r→qw ry ((.agg [(hU qN.1),(hU qN.2)])::qV) (B r)) {v:Bool} (h:NF s f=some v):qw 67 [(.ax (s.flatMap p2) s.length .shared),(.func ry [] qV)] (B v):=by
 refine q7 eo ae8 rfl rfl fun Q bo=>?_;have jB:qK [.tmp 4] Q (fun v=>(B v)) v:=fun T H bH=>bo _ T H bH;unfold NF at h;unfold Z_;conv=>whnf
 obtain ⟨r1,gD,h⟩:=qj h;refine ⟨_,_,I2 (cs:=[(p6 s .shared),(.func ry [] qV)]) (bs:=[(p6 s .shared),(.func ry [] qV)]) (ru rfl (ru (rN.fn _ _) rY)) (by rfl) (by exact (p1 (q8 (fun _=>(p1 rfl (p1 rfl rfl))) _ _ _) (p1 (rN.SM _) rfl))) (QQ rN HP gD) rfl,?_⟩;conv=>whnf
 exact qd h jB rfl rfl

noncomputable def NK:fT :=
 .loop (some (p_ false [1,1,5,1,2,1,28,3,40])) (pY [GC 42 [.sl 41,.sl 40] (.bin .lss)] (.seq (.cond (.sl 42) .skip (.exit 1)) (.seq (.block 2 (pY [GC 43 [.sl 39,.sl 41] (.kQ 2),GC 44 [.Bs 43] (.zx (.str 2)),GC 12 [] (.alloc [.int .i64 0,.int .i64 0]),⟨none,[.sl 12,.jf 44],none,none,.st 2⟩] (.seq (pY [GC 45 [.sl 12] (.yG 0),qc 46 45,GC 47 [.sl 10,.Bs 46] (.zn 10 1),qc 48 47,qq 49 48 0 .gtr] (.cond (.sl 49) (pY [qa 4 0,qa 5 0,qa 6 11] .ret) .skip)) (qv [qF 50 12 0,qc 51 50,GC 52 [.sl 10,.Bs 51] (.zn 10 1),⟨none,[.jf 52,.lR (.int .i64 1)],none,none,.st 1⟩])))) (qv [qE 53 41 1,pX 41 53]))))
noncomputable def QX:fT :=
 .loop (some (p_ false [7,1,5,1,1,1,47,3,16])) (pY [GC 66 [.sl 65,.sl 64] (.bin .lss)] (.seq (.cond (.sl 66) .skip (.exit 3)) (.seq (.block 4 (pY [GC 67 [.sl 63,.sl 65] (.kQ 2),GC 68 [.Bs 67] (.zx (.str 2)),GC 17 [] (.alloc [.int .i64 0,.int .i64 0]),⟨none,[.sl 17,.jf 68],none,none,.st 2⟩] (pY [pZ 70 7,GC 71 [.Bs 17] (.zx (.str 2)),GC 72 [.lR (.func 68 [] []),.sl 70,.sl 71] (.call 3),pX 69 72,rA 73 69 0,GC 74 [.Bs 69] (.ext 1),pX 18 73,pX 19 74] (.seq (pY [pX 75 18,pX 76 15,qI 77 75 76 .neq] (.cond (.sl 77) (pY [qa 4 0,qa 5 0,qa 6 27] .ret) .skip)) (qv [pX 78 19,pX 15 78]))))) (qv [qE 79 65 1,pX 65 79]))))
noncomputable def ZT:fT :=
 pY [GC 2 [.jf 0] .box, qa 4 0, qa 5 0, qa 6 0] (pY [GC 21 [.sl 2] (.zx (.str 2)), GC 22 [.lR (.func 64 [] []), .sl 21] (.call 3), pX 20 22, rA 23 20 0, GC 24 [.Bs 20] (.ext 1), pX 7 23, pX 8 24] (pY [GC 25 [.Bs 2] (.zR 65 0 1), pX 9 25] (.seq (.block 0 (pY [pZ 27 8, qq 28 27 0 .neq, pX 26 28] (.cond (.sl 26) (pY [pX 29 8, qa 4 0, qa 5 0, pX 6 29] .ret) (pY [pZ 31 1, qM 32 31, qq 33 32 0 .eql, pX 30 33] (.cond (.sl 30) (pY [qa 4 0, qa 5 0, qa 6 6] .ret) (pY [pZ 35 1, pX 36 9, GC 37 [.lR (.func 67 [] []), .sl 35, .sl 36] (.call 6), pX 34 37] (.cond (.sl 34) (pY [qa 4 0, qa 5 0, qa 6 3] .ret) .skip))))))) (pY [GC 10 [] (.alloc [.int .i64 0, .int .i64 0, .int .i64 0, .int .i64 0, .int .i64 0, .int .i64 0, .int .i64 0, .int .i64 0, .int .i64 0, .int .i64 0])] (pY [GC 38 [.sl 10] (.other (Oper.mk (some 38) (Op.slice 89 (Operand.tmp 10) none none none) 38 "match.go:50" (Array.mk []) none) 0), ⟨none, [.jf 38], none, none, .other (Oper.mk none (Op.call (Call.mk (Callee.builtin Builtin.clear) (Array.mk [Operand.tmp 38]) (Array.mk [38]))) 0 "match.go:50" (Array.mk [Edge.mk 0 Ground.data]) none) 0⟩] (.seq (pY [pZ 39 1, GC 40 [.sl 39] .zC, qa 41 0] (.block 1 NK)) (pY [pZ 55 7, pZ 56 1, GC 57 [.Bs 56, .lR (.int .i64 0)] (.kQ 2), GC 58 [.Bs 57] (.zx (.str 2)), GC 59 [.lR (.func 68 [] []), .sl 55, .sl 58] (.call 3), pX 54 59, rA 60 54 0, GC 61 [.Bs 54] (.ext 1), pX 13 60, pX 14 61] (pY [pZ 62 13, pX 15 62] (.seq (pY [pX 63 1, GC 64 [.sl 63] .zC, qa 65 0] (.block 3 QX)) (pY [pX 80 13, pX 81 15, pX 4 80, pX 5 81, qa 6 0] .ret))))))))))
theorem aeR:zD Tryz.prog NU 18=some (ZT,82,[.tmp 4,.tmp 5,.tmp 6]):=by kernel_rfl
def OX (row:qk) (qb:Unit→Option (Int×Int×Int)):Nat→Int→p7→Option (Int×Int×Int)
 | 0,_,_=>none
 | m+1,s1,s2 =>
   if (decide (s1<(row.length:Int)))=true then
    p9 (0≤s1∧s1<(row.length:Int)) <|
    p9 (0≤(ix row s1).1∧(ix row s1).1<(10:Int)∧10=s2.length) <|
    if (decide ((0:Int)<(ix s2 ((ix row s1).1))))=true then
     some ((0:Int),(0:Int),(11:Int))
    else
     p9 (0≤(ix row s1).1∧(ix row s1).1<(10:Int)∧10=s2.length) <|
     OX row qb m (w (s1+(1:Int))) (s2.set ((ix row s1).1).toNat (1:Int))
   else
    qb ()
def Mq (row:qk) (qt:Unit→Option (Int×Int×Int)):Nat→Int→p7→Option (Int×Int×Int)
 | 0,_,_=>none
 | m+1,s3,G' =>
   if (decide (s3<(row.length:Int)))=true then
    p9 (0≤s3∧s3<(row.length:Int)) <|
    p9 (0≤(ix row s3).1∧(ix row s3).1<(10:Int)∧10=G'.length) <|
    if (decide ((0:Int)<(ix G' ((ix row s3).1))))=true then
     some ((0:Int),(0:Int),(11:Int))
    else
     p9 (0≤(ix row s3).1∧(ix row s3).1<(10:Int)∧10=G'.length) <|
     Mq row qt m (w (s3+(1:Int))) (G'.set ((ix row s3).1).toNat (1:Int))
   else
    qt ()
def Mr (row:qk) (bR:qe) (rW:Int→Option (Int×Int×Int)):Nat→Int→Int→Option (Int×Int×Int)
 | 0,_,_=>none
 | m+1,qh,qp =>
   if (decide (qp<(row.length:Int)))=true then
    p9 (0≤qp∧qp<(row.length:Int)) <|
    (LN bR (ix row qp)).bind fun q6 =>
    if (decide (q6.1≠qh))=true then
     some ((0:Int),(0:Int),(27:Int))
    else
     Mr row bR rW m q6.2 (w (qp+(1:Int)))
   else
    rW qh
def Nx (b:qe) (row:qk):Option (Int×Int×Int) :=
 (Jn b).bind fun r1 =>
 match r1 with
 | (none,q1) =>
   if (decide (q1≠(0:Int)))=true then
    some ((0:Int),(0:Int),q1)
   else
    if (decide ((row.length:Int)=(0:Int)))=true then
     some ((0:Int),(0:Int),(6:Int))
    else
     (NF row (fun qN=>ND qN b)).bind fun r2 =>
     if r2=true then
      some ((0:Int),(0:Int),(3:Int))
     else
      p9 ((List.replicate 10 (0:Int)).length=10) <|
      OX row (fun _ =>
        p9 (0≤(0:Int)∧(0:Int)<(row.length:Int)) <|
        none) p' (0:Int) (List.replicate 10 (0:Int))
 | (some bR,q1) =>
   if (decide (q1≠(0:Int)))=true then
    some ((0:Int),(0:Int),q1)
   else
    if (decide ((row.length:Int)=(0:Int)))=true then
     some ((0:Int),(0:Int),(6:Int))
    else
     (NF row (fun qN=>ND qN b)).bind fun eI =>
     if eI=true then
      some ((0:Int),(0:Int),(3:Int))
     else
      p9 ((List.replicate 10 (0:Int)).length=10) <|
      Mq row (fun _ =>
        p9 (0≤(0:Int)∧(0:Int)<(row.length:Int)) <|
        (LN bR (ix row (0:Int))).bind fun qR =>
        Mr row bR (fun yg =>
          some (qR.1,yg,(0:Int))) p' qR.1 (0:Int)) p' (0:Int) (List.replicate 10 (0:Int))
theorem aiO {row:qk} {qb:Unit→Option (Int×Int×Int)} {s1:Int} {s2:p7} {v:(Int×Int×Int)} {Q:rM} {bD:ar}  (jB:qK [.tmp 4,.tmp 5,.tmp 6] Q (fun v=>(.tuple [(hU v.1),(hU v.2.1),(hU v.2.2)])) v) (rI:∀ (bQ:ar) (rB:List ar) (p8:List I),qb ()=some v→rn 82 [(1,(p6 row .shared)),(7,.eG)] p8→Q (.exit 1) p8 (bD::bQ::rB)) {T:List I} (bW:eX (p_ false [1,1,5,1,2,1,28,3,40]) T=Hc 82 [(1,(p6 row .shared)),(7,.eG),(10,(.ptr 1 0)),(39,(p6 row .shared)),(40,(hU (row.length:Int))),(41,(hU s1))]) (h:OX row qb p' s1 s2=some v) :
  dO Tryz.prog NU 18 0 none NK T [bD,ar.cells (s2.map hU)] Q:=by
 unfold NK;refine wp_loop bW ?_;refine .intro (fun m T H=>∃ (s1:Int) (s2:p7) (NS:List ar),T=Hc 82 [(1,(p6 row .shared)),(7,.eG),(10,(.ptr 1 0)),(39,(p6 row .shared)),(40,(hU (row.length:Int))),(41,(hU s1))]∧H=(bD::ar.cells (s2.map hU)::NS)∧OX row qb m s1 s2=some v) p' ⟨s1,s2,[],rfl,rfl,h⟩ ?_;clear h bW;rintro m T H ⟨s1,s2,NS,rfl,rfl,h⟩;cases m
 ·exact ri h
 rename_i m;rw [OX.eq_2] at h;conv=>whnf
 refine bs h (fun rJ h=>?_) fun rJ h=>?_
 ·rw [rJ];conv=>whnf
  refine qs h id fun ra h=>?_;rw [q' p2 2 qy row s1 ra];conv=>whnf
  refine Es (x:=ar.cells [(hU (0:Int)),(hU (0:Int))]) (by first | exact qn.h | rfl | (simp [se,I.settle];done)) ?_
  conv=>whnf
  rw [rK];refine Es (x:=ar.cells [(hU (ix row s1).1),(hU (ix row s1).2)]) (by first | exact qn.h | rfl | (simp [se,I.settle];done)) ?_
  conv=>whnf
  obtain ⟨q_,h⟩:=qB h;refine ⟨⟨q_.1,q_.2.1⟩,?_⟩;replace q_:0≤(ix row s1).1∧(ix row s1).1<(s2.length:Int):=⟨q_.1,by have:=q_.2;omega⟩;conv=>whnf
  refine KW hU s2 ((ix row s1).1) q_ ?_;conv=>whnf
  refine bs h (fun rp h=>?_) fun rp h=>?_
  ·rw [rp];(conv=>whnf);exact qd h jB rfl rfl
  ·rw [rp];(conv=>whnf);refine Es (x:=ar.cells [(hU (ix row s1).1),(hU (ix row s1).2)]) (by first | exact qn.h | rfl | (simp [se,I.settle];done)) ?_
   (conv=>whnf);obtain ⟨qP,h⟩:=qB h;refine ⟨⟨qP.1,qP.2.1⟩,?_⟩;replace qP:0≤(ix row s1).1∧(ix row s1).1<(s2.length:Int):=⟨qP.1,by have:=qP.2;omega⟩;(conv=>whnf);refine LH hU s2 ((ix row s1).1) (1:Int) qP ?_;(conv=>whnf);exact ⟨m,su m,(w (s1+(1:Int))),(s2.set ((ix row s1).1).toNat (1:Int)),_,rfl,rfl,h⟩
 ·rw [rJ];conv=>whnf
  exact rI _ _ _ h ⟨rfl,rfl⟩
theorem aiP {row:qk} {qt:Unit→Option (Int×Int×Int)} {s3:Int} {G':p7} {bR:qe} {v:(Int×Int×Int)} {Q:rM} {bD:ar}  (jB:qK [.tmp 4,.tmp 5,.tmp 6] Q (fun v=>(.tuple [(hU v.1),(hU v.2.1),(hU v.2.2)])) v) (HK:∀ (ib:ar) (rB:List ar) (p8:List I),qt ()=some v→rn 82 [(1,(p6 row .shared)),(7,(.bT [(hU bR.1),(p6 bR.2 .shared)]))] p8→Q (.exit 1) p8 (bD::ib::rB)) {T:List I} (bW:eX (p_ false [1,1,5,1,2,1,28,3,40]) T=Hc 82 [(1,(p6 row .shared)),(7,(.bT [(hU bR.1),(p6 bR.2 .shared)])),(10,(.ptr 1 0)),(39,(p6 row .shared)),(40,(hU (row.length:Int))),(41,(hU s3))]) (h:Mq row qt p' s3 G'=some v) :
  dO Tryz.prog NU 18 0 none NK T [bD,ar.cells (G'.map hU)] Q:=by
 unfold NK;refine wp_loop bW ?_;refine .intro (fun m T H=>∃ (s3:Int) (G':p7) (NS:List ar),T=Hc 82 [(1,(p6 row .shared)),(7,(.bT [(hU bR.1),(p6 bR.2 .shared)])),(10,(.ptr 1 0)),(39,(p6 row .shared)),(40,(hU (row.length:Int))),(41,(hU s3))]∧H=(bD::ar.cells (G'.map hU)::NS)∧Mq row qt m s3 G'=some v) p' ⟨s3,G',[],rfl,rfl,h⟩ ?_;clear h bW;rintro m T H ⟨s3,G',NS,rfl,rfl,h⟩;cases m
 ·exact ri h
 rename_i m;rw [Mq.eq_2] at h;conv=>whnf
 refine bs h (fun Hz h=>?_) fun Hz h=>?_
 ·rw [Hz];conv=>whnf
  refine qs h id fun I9 h=>?_;rw [q' p2 2 qy row s3 I9];conv=>whnf
  refine Es (x:=ar.cells [(hU (0:Int)),(hU (0:Int))]) (by first | exact qn.h | rfl | (simp [se,I.settle];done)) ?_
  conv=>whnf
  rw [rK];refine Es (x:=ar.cells [(hU (ix row s3).1),(hU (ix row s3).2)]) (by first | exact qn.h | rfl | (simp [se,I.settle];done)) ?_
  conv=>whnf
  obtain ⟨Hr,h⟩:=qB h;refine ⟨⟨Hr.1,Hr.2.1⟩,?_⟩;replace Hr:0≤(ix row s3).1∧(ix row s3).1<(G'.length:Int):=⟨Hr.1,by have:=Hr.2;omega⟩;conv=>whnf
  refine KW hU G' ((ix row s3).1) Hr ?_;conv=>whnf
  refine bs h (fun Jv h=>?_) fun Jv h=>?_
  ·rw [Jv];(conv=>whnf);exact qd h jB rfl rfl
  ·rw [Jv];(conv=>whnf);refine Es (x:=ar.cells [(hU (ix row s3).1),(hU (ix row s3).2)]) (by first | exact qn.h | rfl | (simp [se,I.settle];done)) ?_
   (conv=>whnf);obtain ⟨Is,h⟩:=qB h;refine ⟨⟨Is.1,Is.2.1⟩,?_⟩;replace Is:0≤(ix row s3).1∧(ix row s3).1<(G'.length:Int):=⟨Is.1,by have:=Is.2;omega⟩;(conv=>whnf);refine LH hU G' ((ix row s3).1) (1:Int) Is ?_;(conv=>whnf);exact ⟨m,su m,(w (s3+(1:Int))),(G'.set ((ix row s3).1).toNat (1:Int)),_,rfl,rfl,h⟩
 ·rw [Hz];conv=>whnf
  exact HK _ _ _ h ⟨rfl,rfl⟩
theorem aiQ {row:qk} {bR:qe} {rW:Int→Option (Int×Int×Int)} {qh:Int} {qp:Int} {qR:(Int×Int)} {v:(Int×Int×Int)} {Q:rM} {bD:ar} {ib:ar} {rB:List ar} (jB:qK [.tmp 4,.tmp 5,.tmp 6] Q (fun v=>(.tuple [(hU v.1),(hU v.2.1),(hU v.2.2)])) v) (Ma:∀ (yg:Int) (rB:List ar) (p8:List I),rW yg=some v→rn 82 [(13,(hU qR.1)),(15,(hU yg))] p8→Q (.exit 3) p8 (bD::ib::rB)) {T:List I} (bW:eX (p_ false [7,1,5,1,1,1,47,3,16]) T=Hc 82 [(7,(.bT [(hU bR.1),(p6 bR.2 .shared)])),(13,(hU qR.1)),(15,(hU qh)),(63,(p6 row .shared)),(64,(hU (row.length:Int))),(65,(hU qp))]) (h:Mr row bR rW p' qh qp=some v) :
  dO Tryz.prog NU 18 0 none QX T (bD::ib::rB) Q:=by
 unfold QX;refine wp_loop bW ?_;refine .intro (fun m T H=>∃ (qh qp:Int) (UI:List ar),T=Hc 82 [(7,(.bT [(hU bR.1),(p6 bR.2 .shared)])),(13,(hU qR.1)),(15,(hU qh)),(63,(p6 row .shared)),(64,(hU (row.length:Int))),(65,(hU qp))]∧H=(bD::ib::UI)∧Mr row bR rW m qh qp=some v) p' ⟨qh,qp,rB,rfl,rfl,h⟩ ?_;clear h bW;rintro m T H ⟨qh,qp,UI,rfl,rfl,h⟩;cases m
 ·exact ri h
 rename_i m;rw [Mr.eq_2] at h;conv=>whnf
 refine bs h (fun IK h=>?_) fun IK h=>?_
 ·rw [IK];conv=>whnf
  refine qs h id fun JO h=>?_;rw [q' p2 2 qy row qp JO];conv=>whnf
  refine Es (x:=ar.cells [(hU (0:Int)),(hU (0:Int))]) (by first | exact qn.h | rfl | (simp [se,I.settle];done)) ?_
  conv=>whnf
  rw [rK];refine Es (x:=ar.cells [(hU (ix row qp).1),(hU (ix row qp).2)]) (by first | exact qn.h | rfl | (simp [se,I.settle];done)) ?_
  conv=>whnf
  obtain ⟨q6,JP,h⟩:=qj h;refine ⟨ql.pl,_,Ks JP,?_⟩;conv=>whnf
  refine bs h (fun IL h=>?_) fun IL h=>?_
  ·rw [IL];(conv=>whnf);exact qd h jB rfl rfl
  ·rw [IL];(conv=>whnf);exact ⟨m,su m,q6.2,(w (qp+(1:Int))),_,rfl,rfl,h⟩
 ·rw [IK];conv=>whnf
  exact Ma _ _ _ h ⟨rfl,rfl⟩
theorem aiR {b:qe} {row:qk} {v:(Int×Int×Int)} (h:Nx b row=some v):qw 18 [(.agg [(hU b.1),(.ax (b.2.flatMap p2) b.2.length .shared)]),(.ax (row.flatMap p2) row.length .shared)] (.tuple [(hU v.1),(hU v.2.1),(hU v.2.2)]):=by
 refine q7 eo aeR rfl (Jb (p1 rfl (p1 rfl (p1 rfl rfl)))) fun Q bo=>?_;have jB:qK [.tmp 4,.tmp 5,.tmp 6] Q (fun v=>(.tuple [(hU v.1),(hU v.2.1),(hU v.2.2)])) v:=fun T H bH=>bo _ T H bH;unfold Nx at h;unfold ZT;obtain ⟨HV,qO⟩:∃ c,NK=c:=⟨_,rfl⟩;rw [qO];obtain ⟨KD,r0⟩:∃ c,QX=c:=⟨_,rfl⟩;rw [r0];conv=>whnf
 obtain ⟨r1,gD,h⟩:=qj h;rcases r1 with ⟨_ | bR,q1⟩
 ·refine ⟨ql.pl,_,J6 gD,?_⟩;conv=>whnf
  refine bs h (fun gE h=>?_) fun gE h=>?_
  ·rw [gE];(conv=>whnf);exact qd h jB rfl rfl
  ·rw [gE];(conv=>whnf);refine bs h (fun qo h=>?_) fun qo h=>?_
   ·rw [qo];(conv=>whnf);exact qd h jB rfl rfl
   ·rw [qo];(conv=>whnf);obtain ⟨r2,qS,h⟩:=qj h;refine ⟨_,_,I2 (cs:=[(p6 row .shared),(.func 65 [] [(.bT [(hU b.1),(p6 b.2 .shared)])])]) (bs:=[(p6 row .shared),(.func 65 [] [(.bT [(hU b.1),(p6 b.2 .shared)])])]) (ru rfl (ru (K0 rY (ru (J3 (cs:=[(hU b.1),(p6 b.2 .shared)]) (by first | exact qn.h | rfl | (simp [se,I.settle];done)) rfl) rY)) rY)) (by rfl) (by exact (p1 (q8 (fun _=>(p1 rfl (p1 rfl rfl))) _ _ _) (p1 (Kl rfl (p1 (rj (p1 rfl (p1 (q8 (fun _=>(p1 rfl (p1 rfl rfl))) _ _ _) rfl))) rfl)) rfl))) (Zk ⟨(p1 (rj (p1 rfl (p1 (q8 (fun _=>(p1 rfl (p1 rfl rfl))) _ _ _) rfl))) rfl),by simp⟩ (fun _ _ aY=>Zj aY) qS) rfl,?_⟩
    (conv=>whnf);cases r2
    ·(conv=>whnf);replace h:=HX rfl h;refine ⟨_,_,fun C=>W3 rfl (e:=3) (len:=10) (by kernel_rfl) (by kernel_rfl) (by decide),?_⟩;(conv=>whnf);obtain ⟨qY,h⟩:=qB h;refine ⟨_,_,fun C=>(SJ rfl).trans (VA (e:=3) (l:=(List.replicate 10 (0:Int))) (by kernel_rfl) (by kernel_rfl) (by kernel_rfl) (sC _) (by first | exact qn.h | rfl | (simp [se,I.settle];done)) qY),?_⟩
     (conv=>whnf);subst qO;refine aiO ?_ ?_ (by exact rfl) h
     ·exact fun T H bH=>jB T H bH
     ·intro bQ rB p8 h qm;obtain ⟨rf,rfl⟩:=qm.ex;(conv=>whnf);refine qs h id fun rO h=>?_;rw [q' p2 2 qy row (0:Int) rO];(conv=>whnf);exact ri h
    ·(conv=>whnf);replace h:=HY rfl h;exact qd h jB rfl rfl
 ·refine ⟨ql.pl,_,J6 gD,?_⟩;conv=>whnf
  refine bs h (fun rz h=>?_) fun rz h=>?_
  ·rw [rz];(conv=>whnf);exact qd h jB rfl rfl
  ·rw [rz];(conv=>whnf);refine bs h (fun rC h=>?_) fun rC h=>?_
   ·rw [rC];(conv=>whnf);exact qd h jB rfl rfl
   ·rw [rC];(conv=>whnf);obtain ⟨eI,r4,h⟩:=qj h;refine ⟨_,_,I2 (cs:=[(p6 row .shared),(.func 65 [] [(.bT [(hU b.1),(p6 b.2 .shared)])])]) (bs:=[(p6 row .shared),(.func 65 [] [(.bT [(hU b.1),(p6 b.2 .shared)])])]) (ru rfl (ru (K0 rY (ru (J3 (cs:=[(hU b.1),(p6 b.2 .shared)]) (by first | exact qn.h | rfl | (simp [se,I.settle];done)) rfl) rY)) rY)) (by rfl) (by exact (p1 (q8 (fun _=>(p1 rfl (p1 rfl rfl))) _ _ _) (p1 (Kl rfl (p1 (rj (p1 rfl (p1 (q8 (fun _=>(p1 rfl (p1 rfl rfl))) _ _ _) rfl))) rfl)) rfl))) (Zk ⟨(p1 (rj (p1 rfl (p1 (q8 (fun _=>(p1 rfl (p1 rfl rfl))) _ _ _) rfl))) rfl),by simp⟩ (fun _ _ aY=>Zj aY) r4) rfl,?_⟩
    (conv=>whnf);cases eI
    ·(conv=>whnf);replace h:=HX rfl h;refine ⟨_,_,fun C=>W3 rfl (e:=3) (len:=10) (by kernel_rfl) (by kernel_rfl) (by decide),?_⟩;(conv=>whnf);obtain ⟨I8,h⟩:=qB h;refine ⟨_,_,fun C=>(SJ rfl).trans (VA (e:=3) (l:=(List.replicate 10 (0:Int))) (by kernel_rfl) (by kernel_rfl) (by kernel_rfl) (sC _) (by first | exact qn.h | rfl | (simp [se,I.settle];done)) I8),?_⟩
     (conv=>whnf);subst qO;refine aiP ?_ ?_ (by exact rfl) h
     ·exact fun T H bH=>jB T H bH
     ·intro ib rB p8 h qm;obtain ⟨rf,rfl⟩:=qm.ex;(conv=>whnf);refine qs h id fun Kd h=>?_;rw [q' p2 2 qy row (0:Int) Kd];(conv=>whnf);obtain ⟨qR,Jw,h⟩:=qj h;refine ⟨ql.pl,_,Ks Jw,?_⟩;(conv=>whnf);subst r0;refine aiQ ?_ ?_ (by exact rfl) h
      ·exact fun T H bH=>jB T H bH
      ·intro yg rB p8 h qm;obtain ⟨rf,rfl⟩:=qm.ex;(conv=>whnf);exact qd h jB rfl rfl
    ·(conv=>whnf);replace h:=HY rfl h;exact qd h jB rfl rfl

noncomputable def Q2:fT :=
 .loop (some (p_ false [1,1,1,1,49])) (.seq (pY [pZ 19 3,GC 20 [.sl 1] (.yG 1),qc 21 20,qM 22 21,qI 23 19 22 .lss] (.cond (.sl 23) .skip (.exit 0))) (.seq (.block 1 (pY [GC 26 [.sl 1] (.yG 1),qc 27 26,pZ 28 3,qL 29 27 28 2,GC 30 [.Bs 29] (.zx (.str 2)),GC 4 [] (.alloc [.int .i64 0,.int .i64 0]),⟨none,[.sl 4,.jf 30],none,none,.st 2⟩] (pY [GC 31 [.sl 4] (.yG 0),qc 32 31,qq 33 32 0 .lss,pX 34 33,cR 35 [.sl 4] 34 false (.yG 0),cR 36 [.Bs 35] 34 false (.zx .one),cR 37 [.sl 1] 34 false (.yG 0),cR 38 [.Bs 37] 34 false (.zx .one),cR 39 [.Bs 36,.Bs 38] 34 false (.bin .geq),GC 40 [.Bs 34,.lR (.bool true),.Bs 39] .pick,pX 41 40,cR 42 [.sl 4] 41 false (.yG 1),cR 43 [.Bs 42] 41 false (.zx .one),cR 44 [.Bs 43,.lR (.int .i64 0)] 41 false (.bin .lss),GC 45 [.Bs 41,.lR (.bool true),.Bs 44] .pick,pX 46 45,cR 47 [.Bs 4] 46 false (.yG 1),cR 48 [.Bs 47] 46 false (.zx .one),cR 49 [.sl 1] 46 false (.yG 0),cR 50 [.Bs 49] 46 false (.zx .one),cR 51 [.Bs 48,.Bs 50] 46 false (.bin .geq),GC 52 [.Bs 46,.lR (.bool true),.Bs 51] .pick] (.cond (.sl 52) (pY [qa 2 3] .ret) .skip)))) (qv [pX 24 3,qE 25 24 1,pX 3 25])))
noncomputable def ZW:fT :=
 pY [GC 1 [.jf 0] .box,qa 2 0] (.seq (pY [GC 5 [.sl 1] (.yG 0),qc 6 5,qq 7 6 1 .lss,pX 8 7,cR 9 [.sl 1] 8 false (.yG 0),cR 10 [.Bs 9] 8 false (.zx .one),cR 11 [.Bs 10,.lR (.int .i64 6)] 8 false (.bin .gtr),GC 12 [.Bs 8,.lR (.bool true),.Bs 11] .pick,pX 13 12,cR 14 [.sl 1] 13 false (.yG 1),cR 15 [.Bs 14] 13 false (.zx .one),cR 16 [.jf 15] 13 false .zC,cR 17 [.Bs 16,.lR (.int .i64 10)] 13 false (.bin .gtr),GC 18 [.Bs 13,.lR (.bool true),.Bs 17] .pick] (.cond (.sl 18) (pY [qa 2 6] .ret) .skip)) (.seq (pY [qa 3 0] (.block 0 Q2)) (pY [qa 2 0] .ret)))
theorem aeU:zD Tryz.prog Rt 21=some (ZW,53,[.tmp 2]):=by kernel_rfl
def Mw (b:qe) (qb:Unit→Option Int):Nat→Int→Option Int
 | 0,_=>none
 | m+1,s1 =>
   if (decide (s1<(b.2.length:Int)))=true then
    p9 (0≤s1∧s1<(b.2.length:Int)) <|
    if (decide ((ix b.2 s1).1<(0:Int)))=true then
     some (3:Int)
    else
     if (decide (b.1≤(ix b.2 s1).1))=true then
      some (3:Int)
     else
      if (decide ((ix b.2 s1).2<(0:Int)))=true then
       some (3:Int)
      else
       if (decide (b.1≤(ix b.2 s1).2))=true then
        some (3:Int)
       else
        Mw b qb m (w (s1+(1:Int)))
   else
    qb ()
def J5 (b:qe):Option Int :=
 if (decide (b.1<(1:Int)))=true then
  some (6:Int)
 else
  if (decide ((6:Int)<b.1))=true then
   some (6:Int)
  else
   if (decide ((10:Int)<(b.2.length:Int)))=true then
    some (6:Int)
   else
    Mw b (fun _ =>
      some (0:Int)) p' (0:Int)
theorem aiX {b:qe} {qb:Unit→Option Int} {s1:Int} {v:Int} {Q:rM}   (jB:qK [.tmp 2] Q (fun v=>(hU v)) v) (rI:∀ (bD:ar) (rB:List ar) (p8:List I),qb ()=some v→rn 53 [] p8→Q (.exit 0) p8 (bD::rB)) {T:List I} (bW:eX (p_ false [1,1,1,1,49]) T=Hc 53 [(1,(.ptr 0 0)),(3,(hU s1))]) (h:Mw b qb p' s1=some v) :
  dO Tryz.prog Rt 21 0 none Q2 T [Hq b] Q:=by
 unfold Q2;refine wp_loop bW ?_;refine .intro (fun m T H=>∃ (s1:Int) (UJ:List ar),T=Hc 53 [(1,(.ptr 0 0)),(3,(hU s1))]∧H=(Hq b::UJ)∧Mw b qb m s1=some v) p' ⟨s1,[],rfl,rfl,h⟩ ?_;clear h bW;rintro m T H ⟨s1,UJ,rfl,rfl,h⟩;cases m
 ·exact ri h
 rename_i m;rw [Mw.eq_2] at h;conv=>whnf
 refine bs h (fun qS h=>?_) fun qS h=>?_
 ·rw [qS];conv=>whnf
  refine qs h id fun qY h=>?_;rw [q' p2 2 qy b.2 s1 qY];conv=>whnf
  refine Es (x:=ar.cells [(hU (0:Int)),(hU (0:Int))]) (by first | exact qn.h | rfl | (simp [se,I.settle];done)) ?_
  conv=>whnf
  rw [rK];refine Es (x:=ar.cells [(hU (ix b.2 s1).1),(hU (ix b.2 s1).2)]) (by first | exact qn.h | rfl | (simp [se,I.settle];done)) ?_
  conv=>whnf
  refine bs h (fun rJ h=>?_) fun rJ h=>?_
  ·rw [rJ];(conv=>whnf);exact qd h jB rfl rfl
  ·rw [rJ];(conv=>whnf);refine Es (x:=ar.cells [(hU (ix b.2 s1).1),(hU (ix b.2 s1).2)]) (by first | exact qn.h | rfl | (simp [se,I.settle];done)) ?_
   (conv=>whnf);refine bs h (fun ra h=>?_) fun ra h=>?_
   ·rw [ra];(conv=>whnf);exact qd h jB rfl rfl
   ·rw [ra];(conv=>whnf);refine Es (x:=ar.cells [(hU (ix b.2 s1).1),(hU (ix b.2 s1).2)]) (by first | exact qn.h | rfl | (simp [se,I.settle];done)) ?_
    (conv=>whnf);refine bs h (fun q_ h=>?_) fun q_ h=>?_
    ·rw [q_];(conv=>whnf);exact qd h jB rfl rfl
    ·rw [q_];(conv=>whnf);refine Es (x:=ar.cells [(hU (ix b.2 s1).1),(hU (ix b.2 s1).2)]) (by first | exact qn.h | rfl | (simp [se,I.settle];done)) ?_
     (conv=>whnf);refine bs h (fun rp h=>?_) fun rp h=>?_
     ·rw [rp];(conv=>whnf);exact qd h jB rfl rfl
     ·rw [rp];(conv=>whnf);exact ⟨m,su m,(w (s1+(1:Int))),_,rfl,rfl,h⟩
 ·rw [qS];conv=>whnf
  exact rI _ _ _ h ⟨rfl,rfl⟩
theorem OY {b:qe} {v:Int} (h:J5 b=some v):qw 21 [(.agg [(hU b.1),(.ax (b.2.flatMap p2) b.2.length .shared)])] (hU v):=by
 refine q7 eo aeU rfl rfl fun Q bo=>?_;have jB:qK [.tmp 2] Q (fun v=>(hU v)) v:=fun T H bH=>bo _ T H bH;unfold J5 at h;unfold ZW;obtain ⟨HV,qO⟩:∃ c,Q2=c:=⟨_,rfl⟩;rw [qO];conv=>whnf
 refine bs h (fun gD h=>?_) fun gD h=>?_
 ·rw [gD];conv=>whnf
  exact qd h jB rfl rfl
 ·rw [gD];conv=>whnf
  refine bs h (fun gE h=>?_) fun gE h=>?_
  ·rw [gE];(conv=>whnf);exact qd h jB rfl rfl
  ·rw [gE];(conv=>whnf);refine bs h (fun qo h=>?_) fun qo h=>?_
   ·rw [qo];(conv=>whnf);exact qd h jB rfl rfl
   ·rw [qo];(conv=>whnf);subst qO;refine aiX ?_ ?_ (by exact rfl) h
    ·exact fun T H bH=>jB T H bH
    ·intro bD rB p8 h qm;obtain ⟨rf,rfl⟩:=qm.ex;(conv=>whnf);exact qd h jB rfl rfl

noncomputable def Z6:fT :=
 pY [GC 2 [.jf 0] .box,GC 3 [.jf 1] .box,qa 4 0] (.seq (pY [GC 5 [.sl 3] (.yG 1),qc 6 5,qq 7 6 1 .eql] (.cond (.sl 7) (pY [qF 8 2 1,qc 9 8,qF 10 3 0,qc 11 10,qL 12 9 11 2,qF 13 12 1,qc 14 13,pX 4 14] .ret) .skip)) (pY [qF 15 2 1,qc 16 15,qF 17 3 0,qc 18 17,qL 19 16 18 2,qF 20 19 0,qc 21 20,pX 4 21] .ret))
theorem ae4:zD Tryz.prog U9 57=some (Z6,22,[.tmp 4]):=by kernel_rfl
def NC (b:qe) (p:(Int×Int)):Option Int :=
 if (decide (p.2=(1:Int)))=true then
  p9 (0≤p.1∧p.1<(b.2.length:Int)) <|
  some ((ix b.2 p.1).2)
 else
  p9 (0≤p.1∧p.1<(b.2.length:Int)) <|
  some ((ix b.2 p.1).1)
theorem Zi {b:qe} {p:(Int×Int)} {v:Int} (h:NC b p=some v):qw 57 [(.agg [(hU b.1),(.ax (b.2.flatMap p2) b.2.length .shared)]),(.agg [(hU p.1),(hU p.2)])] (hU v):=by
 refine q7 eo ae4 rfl rfl fun Q bo=>?_;have jB:qK [.tmp 4] Q (fun v=>(hU v)) v:=fun T H bH=>bo _ T H bH;unfold NC at h;unfold Z6;conv=>whnf
 refine bs h (fun gD h=>?_) fun gD h=>?_
 ·rw [gD];conv=>whnf
  refine qs h id fun gE h=>?_;rw [q' p2 2 qy b.2 p.1 gE];conv=>whnf
  exact qd h jB rfl rfl
 ·rw [gD];conv=>whnf
  refine qs h id fun qo h=>?_;rw [q' p2 2 qy b.2 p.1 qo];conv=>whnf
  exact qd h jB rfl rfl

noncomputable def Q_:fT :=
 .loop (some (p_ false [0,2,3,1,13])) (.seq (pY [pZ 6 5,pZ 7 0,qM 8 7,qI 9 6 8 .lss] (.cond (.sl 9) .skip (.exit 0))) (.seq (.block 1 (pY [pZ 12 0,pZ 13 5,qL 14 12 13 2,qF 15 14 0,qc 16 15,pZ 17 1,qI 18 16 17 .eql] (.cond (.sl 18) (pY [GC 4 [.lR (.bool true)] .mN] .ret) .skip))) (qv [pX 10 5,qE 11 10 1,pX 5 11])))
noncomputable def aab:fT :=
 pY [GC 4 [.lR (.bool false)] .mN] (.seq (pY [qa 5 0] (.block 0 Q_)) (pY [GC 4 [.lR (.bool false)] .mN] .ret))
theorem ae_:zD Tryz.prog Rv 69=some (aab,19,[.tmp 4]):=by kernel_rfl
def MB (row:qk) (r3:Int) (qb:Unit→Option Bool):Nat→Int→Option Bool
 | 0,_=>none
 | m+1,s1 =>
   if (decide (s1<(row.length:Int)))=true then
    p9 (0≤s1∧s1<(row.length:Int)) <|
    if (decide ((ix row s1).1=r3))=true then
     some true
    else
     MB row r3 qb m (w (s1+(1:Int)))
   else
    qb ()
def NG (row:qk) (r3:Int):Option Bool :=
 MB row r3 (fun _ =>
   some false) p' (0:Int)
theorem ajm {row:qk} {r3:Int} {qb:Unit→Option Bool} {s1:Int} {v:Bool} {Q:rM}   (jB:qK [.tmp 4] Q (fun v=>(B v)) v) (rI:∀ (p8:List I),qb ()=some v→rn 19 [] p8→Q (.exit 0) p8 []) {T:List I} (bW:eX (p_ false [0,2,3,1,13]) T=Hc 19 [(0,(p6 row .shared)),(1,(hU r3)),(5,(hU s1))]) (h:MB row r3 qb p' s1=some v) :
  dO Tryz.prog Rv 69 0 none Q_ T [] Q:=by
 unfold Q_;refine wp_loop bW ?_;refine .intro (fun m T H=>∃ (s1:Int),T=Hc 19 [(0,(p6 row .shared)),(1,(hU r3)),(5,(hU s1))]∧H=[]∧MB row r3 qb m s1=some v) p' ⟨s1,rfl,rfl,h⟩ ?_;clear h bW;rintro m T H ⟨s1,rfl,rfl,h⟩;cases m
 ·exact ri h
 rename_i m;rw [MB.eq_2] at h;conv=>whnf
 refine bs h (fun gD h=>?_) fun gD h=>?_
 ·rw [gD];conv=>whnf
  refine qs h id fun gE h=>?_;rw [q' p2 2 qy row s1 gE];conv=>whnf
  refine bs h (fun qo h=>?_) fun qo h=>?_
  ·rw [qo];(conv=>whnf);exact qd h jB rfl rfl
  ·rw [qo];(conv=>whnf);exact ⟨m,su m,(w (s1+(1:Int))),rfl,rfl,h⟩
 ·rw [gD];conv=>whnf
  exact rI  _ h ⟨rfl,rfl⟩
theorem Up {row:qk} {r3:Int} {v:Bool} (h:NG row r3=some v):qw 69 [(.ax (row.flatMap p2) row.length .shared),(hU r3)] (B v):=by
 refine q7 eo ae_ rfl rfl fun Q bo=>?_;have jB:qK [.tmp 4] Q (fun v=>(B v)) v:=fun T H bH=>bo _ T H bH;unfold NG at h;unfold aab;obtain ⟨HV,qO⟩:∃ c,Q_=c:=⟨_,rfl⟩;rw [qO];conv=>whnf
 subst qO;refine ajm ?_ ?_ (by exact rfl) h
 ·exact fun T H bH=>jB T H bH
 ·intro  p8 h qm;obtain ⟨rf,rfl⟩:=qm.ex;conv=>whnf
  exact qd h jB rfl rfl

noncomputable def aac:fT :=
 pY [GC 2 [.jf 0] .box,GC 3 [.jf 1] .box,qa 4 0] (.seq (pY [GC 5 [.sl 3] (.yG 1),qc 6 5,qq 7 6 1 .eql] (.cond (.sl 7) (pY [qF 8 2 1,qc 9 8,qF 10 3 0,qc 11 10,qL 12 9 11 2,qF 13 12 0,qc 14 13,pX 4 14] .ret) .skip)) (pY [qF 15 2 1,qc 16 15,qF 17 3 0,qc 18 17,qL 19 16 18 2,qF 20 19 1,qc 21 20,pX 4 21] .ret))
theorem afa:zD Tryz.prog Vd 70=some (aac,22,[.tmp 4]):=by kernel_rfl
def NH (b:qe) (p:(Int×Int)):Option Int :=
 if (decide (p.2=(1:Int)))=true then
  p9 (0≤p.1∧p.1<(b.2.length:Int)) <|
  some ((ix b.2 p.1).1)
 else
  p9 (0≤p.1∧p.1<(b.2.length:Int)) <|
  some ((ix b.2 p.1).2)
theorem Zo {b:qe} {p:(Int×Int)} {v:Int} (h:NH b p=some v):qw 70 [(.agg [(hU b.1),(.ax (b.2.flatMap p2) b.2.length .shared)]),(.agg [(hU p.1),(hU p.2)])] (hU v):=by
 refine q7 eo afa rfl rfl fun Q bo=>?_;have jB:qK [.tmp 4] Q (fun v=>(hU v)) v:=fun T H bH=>bo _ T H bH;unfold NH at h;unfold aac;conv=>whnf
 refine bs h (fun gD h=>?_) fun gD h=>?_
 ·rw [gD];conv=>whnf
  refine qs h id fun gE h=>?_;rw [q' p2 2 qy b.2 p.1 gE];conv=>whnf
  exact qd h jB rfl rfl
 ·rw [gD];conv=>whnf
  refine qs h id fun qo h=>?_;rw [q' p2 2 qy b.2 p.1 qo];conv=>whnf
  exact qd h jB rfl rfl

noncomputable def QY:fT :=
 .loop (some (p_ false [1,2,4,2,94])) (.seq (pY [pZ 20 8,pZ 21 7,qI 22 20 21 .lss] (.cond (.sl 22) .skip (.exit 0))) (.seq (.block 1 (.seq (Hi [pZ 25 1,pZ 26 8,qL 27 25 26 2,qF 28 27 0,qc 29 28,qq 30 29 0 .lss,pX 31 30,cR 32 [.sl 1] 31 false .mN,cR 33 [.sl 8] 31 false .mN,cR 34 [.Bs 32,.Bs 33] 31 false (.kQ 2),cR 35 [.Bs 34] 31 false (.yG 0),cR 36 [.Bs 35] 31 false (.zx .one),cR 37 [.sl 2] 31 false (.yG 1),cR 38 [.Bs 37] 31 false (.zx .one),cR 39 [.jf 38] 31 false .zC,cR 40 [.Bs 36,.Bs 39] 31 false (.bin .geq),GC 41 [.sl 31,.lR (.bool true),.Bs 40] .pick,pX 42 41,cR 43 [.sl 1] 42 false .mN,cR 44 [.sl 8] 42 false .mN,cR 45 [.Bs 43,.Bs 44] 42 false (.kQ 2),cR 46 [.Bs 45] 42 false (.yG 1),cR 47 [.Bs 46] 42 false (.zx .one),cR 48 [.Bs 47,.lR (.int .i64 0)] 42 false (.bin .lss),GC 49 [.sl 42,.lR (.bool true),.Bs 48] .pick,pX 50 49,cR 51 [.sl 1] 50 false .mN,cR 52 [.sl 8] 50 false .mN,cR 53 [.Bs 51,.Bs 52] 50 false (.kQ 2),cR 54 [.Bs 53] 50 false (.yG 1),cR 55 [.Bs 54] 50 false (.zx .one),cR 56 [.Bs 55,.lR (.int .i64 1)] 50 false (.bin .gtr),GC 57 [.sl 50,.lR (.bool true),.Bs 56] .pick]) (.cond (.sl 57) (pY [qa 4 0,qa 5 0,qa 6 3] .ret) .skip))) (qv [pX 23 8,qE 24 23 1,pX 8 24])))
noncomputable def QZ:fT :=
 .loop (some (p_ false [1,2,4,1,1,1,93])) (.seq (pY [pZ 58 9,pZ 59 7,qI 60 58 59 .lss] (.cond (.sl 60) .skip (.exit 2))) (.seq (.block 3 (.seq (Hi [pZ 63 1,pZ 64 9,GC 65 [.jf 63,.jf 64] (.Bg 2 false true false),pZ 66 1,pZ 67 9,qL 68 66 67 2,qF 69 68 0,qc 70 69,GC 71 [.lR (.func 69 [] []),.sl 65,.sl 70] (.call 3)]) (.cond (.sl 71) (pY [qa 4 0,qa 5 0,qa 6 11] .ret) .skip))) (qv [pX 61 9,qE 62 61 1,pX 9 62])))
noncomputable def Q1:fT :=
 .loop (some (p_ false [1,2,4,1,2,1,92])) (.seq (pY [pZ 72 10,pZ 73 7,qI 74 72 73 .lss] (.cond (.sl 74) .skip (.exit 4))) (.seq (.block 5 (.seq (Hi [GC 77 [.sl 2] (.zx (.str 2)),pZ 78 1,pZ 79 10,qq 80 79 1 .sub,qL 81 78 80 2,GC 82 [.Bs 81] (.zx (.str 2)),GC 83 [.lR (.func 70 [] []),.sl 77,.sl 82] (.call 3),GC 84 [.sl 2] (.zx (.str 2)),pZ 85 1,pZ 86 10,qL 87 85 86 2,GC 88 [.Bs 87] (.zx (.str 2)),GC 89 [.lR (.func 57 [] []),.sl 84,.sl 88] (.call 3),qI 90 83 89 .neq]) (.cond (.sl 90) (pY [qa 4 0,qa 5 0,qa 6 27] .ret) .skip))) (qv [pX 75 10,qE 76 75 1,pX 10 76])))
noncomputable def ZU:fT :=
 pY [GC 2 [.jf 0] .box,qa 4 0,qa 5 0,qa 6 0] (.seq (pY [GC 11 [.sl 2] (.zx (.str 2)),GC 12 [.lR (.func 21 [] []),.sl 11] (.call 3),qq 13 12 0 .neq] (.cond (.sl 13) (pY [GC 14 [.Bs 2] (.zx (.str 2)),GC 15 [.lR (.func 21 [] []),.sl 14] (.call 3),qa 4 0,qa 5 0,pX 6 15] .ret) .skip)) (pY [pZ 16 1,qM 17 16,pX 7 17] (.seq (pY [pZ 18 7,qq 19 18 0 .eql] (.cond (.sl 19) (pY [qa 4 0,qa 5 0,qa 6 6] .ret) .skip)) (.seq (pY [qa 8 0] (.block 0 QY)) (.seq (pY [qa 9 0] (.block 2 QZ)) (.seq (pY [qa 10 1] (.block 4 Q1)) (.seq (Hi [GC 91 [.sl 2] (.zx (.str 2)),pZ 92 1,GC 93 [.Bs 92,.lR (.int .i64 0)] (.kQ 2),GC 94 [.Bs 93] (.zx (.str 2)),GC 95 [.lR (.func 57 [] []),.sl 91,.sl 94] (.call 3),GC 96 [.sl 2] (.zx (.str 2)),pZ 97 1,pX 98 7,qq 99 98 1 .sub,qL 100 97 99 2,GC 101 [.Bs 100] (.zx (.str 2)),GC 102 [.lR (.func 70 [] []),.sl 96,.sl 101] (.call 3),pX 4 95,pX 5 102,qa 6 0]) .ret)))))))
theorem aeS:zD Tryz.prog NV 19=some (ZU,103,[.tmp 4,.tmp 5,.tmp 6]):=by kernel_rfl
def Mt (b:qe) (row:qk) (qb:Unit→Option (Int×Int×Int)):Nat→Int→Option (Int×Int×Int)
 | 0,_=>none
 | m+1,s1 =>
   if (decide (s1<(row.length:Int)))=true then
    p9 (0≤s1∧s1<(row.length:Int)) <|
    if (decide ((ix row s1).1<(0:Int)))=true then
     some ((0:Int),(0:Int),(3:Int))
    else
     p9 (0≤s1∧s1<(row.length:Int)) <|
     if (decide ((b.2.length:Int)≤(ix row s1).1))=true then
      some ((0:Int),(0:Int),(3:Int))
     else
      p9 (0≤s1∧s1<(row.length:Int)) <|
      if (decide ((ix row s1).2<(0:Int)))=true then
       some ((0:Int),(0:Int),(3:Int))
      else
       p9 (0≤s1∧s1<(row.length:Int)) <|
       if (decide ((1:Int)<(ix row s1).2))=true then
        some ((0:Int),(0:Int),(3:Int))
       else
        Mt b row qb m (w (s1+(1:Int)))
   else
    qb ()
def Mu (row:qk) (qt:Unit→Option (Int×Int×Int)):Nat→Int→Option (Int×Int×Int)
 | 0,_=>none
 | m+1,s2 =>
   if (decide (s2<(row.length:Int)))=true then
    p9 (0≤s2∧s2≤(row.length:Int)) <|
    p9 (0≤s2∧s2<(row.length:Int)) <|
    (NG (row.take s2.toNat) ((ix row s2).1)).bind fun eI =>
    if eI=true then
     some ((0:Int),(0:Int),(11:Int))
    else
     Mu row qt m (w (s2+(1:Int)))
   else
    qt ()
def Mv (b:qe) (row:qk) (rW:Unit→Option (Int×Int×Int)):Nat→Int→Option (Int×Int×Int)
 | 0,_=>none
 | m+1,s3 =>
   if (decide (s3<(row.length:Int)))=true then
    p9 (0≤(w (s3-(1:Int)))∧(w (s3-(1:Int)))<(row.length:Int)) <|
    (NH b (ix row (w (s3-(1:Int))))).bind fun qR =>
    p9 (0≤s3∧s3<(row.length:Int)) <|
    (NC b (ix row s3)).bind fun q6 =>
    if (decide (qR≠q6))=true then
     some ((0:Int),(0:Int),(27:Int))
    else
     Mv b row rW m (w (s3+(1:Int)))
   else
    rW ()
def Ms (b:qe) (row:qk):Option (Int×Int×Int) :=
 (J5 b).bind fun r1 =>
 if (decide (r1≠(0:Int)))=true then
  (J5 b).bind fun r2 =>
  some ((0:Int),(0:Int),r2)
 else
  if (decide ((row.length:Int)=(0:Int)))=true then
   some ((0:Int),(0:Int),(6:Int))
  else
   Mt b row (fun _ =>
     Mu row (fun _ =>
       Mv b row (fun _ =>
         p9 (0≤(0:Int)∧(0:Int)<(row.length:Int)) <|
         (NC b (ix row (0:Int))).bind fun HH =>
         p9 (0≤(w ((row.length:Int)-(1:Int)))∧(w ((row.length:Int)-(1:Int)))<(row.length:Int)) <|
         (NH b (ix row (w ((row.length:Int)-(1:Int))))).bind fun HR =>
         some (HH,HR,(0:Int))) p' (1:Int)) p' (0:Int)) p' (0:Int)
theorem aiT {b:qe} {row:qk} {qb:Unit→Option (Int×Int×Int)} {s1:Int} {v:(Int×Int×Int)} {Q:rM}   (jB:qK [.tmp 4,.tmp 5,.tmp 6] Q (fun v=>(.tuple [(hU v.1),(hU v.2.1),(hU v.2.2)])) v) (rI:∀ (p8:List I),qb ()=some v→rn 103 [(1,(p6 row .shared)),(2,(.ptr 0 0)),(7,(hU (row.length:Int)))] p8→Q (.exit 0) p8 [Hq b]) {T:List I} (bW:eX (p_ false [1,2,4,2,94]) T=Hc 103 [(1,(p6 row .shared)),(2,(.ptr 0 0)),(7,(hU (row.length:Int))),(8,(hU s1))]) (h:Mt b row qb p' s1=some v) :
  dO Tryz.prog NV 19 0 none QY T [Hq b] Q:=by
 unfold QY;refine wp_loop bW ?_;refine .intro (fun m T H=>∃ (s1:Int),T=Hc 103 [(1,(p6 row .shared)),(2,(.ptr 0 0)),(7,(hU (row.length:Int))),(8,(hU s1))]∧H=[Hq b]∧Mt b row qb m s1=some v) p' ⟨s1,rfl,rfl,h⟩ ?_;clear h bW;rintro m T H ⟨s1,rfl,rfl,h⟩;cases m
 ·exact ri h
 rename_i m;rw [Mt.eq_2] at h;conv=>whnf
 refine bs h (fun qY h=>?_) fun qY h=>?_
 ·rw [qY];conv=>whnf
  refine qs h id fun rJ h=>?_;rw [q' p2 2 qy row s1 rJ];conv=>whnf
  refine bs h (fun ra h=>?_) fun ra h=>?_
  ·rw [ra];(conv=>whnf);exact qd h jB rfl rfl
  ·rw [ra];(conv=>whnf);refine qs h id fun q_ h=>?_;rw [q' p2 2 qy row s1 q_];(conv=>whnf);refine bs h (fun rp h=>?_) fun rp h=>?_
   ·rw [rp];(conv=>whnf);exact qd h jB rfl rfl
   ·rw [rp];(conv=>whnf);refine qs h id fun qP h=>?_;rw [q' p2 2 qy row s1 qP];(conv=>whnf);refine bs h (fun rO h=>?_) fun rO h=>?_
    ·rw [rO];(conv=>whnf);exact qd h jB rfl rfl
    ·rw [rO];(conv=>whnf);refine qs h id fun rz h=>?_;rw [q' p2 2 qy row s1 rz];(conv=>whnf);refine bs h (fun rC h=>?_) fun rC h=>?_
     ·rw [rC];(conv=>whnf);exact qd h jB rfl rfl
     ·rw [rC];(conv=>whnf);exact ⟨m,su m,(w (s1+(1:Int))),rfl,rfl,h⟩
 ·rw [qY];conv=>whnf
  exact rI  _ h ⟨rfl,rfl⟩
theorem aiU {row:qk} {qt:Unit→Option (Int×Int×Int)} {s2:Int} {b:qe} {v:(Int×Int×Int)} {Q:rM}   (jB:qK [.tmp 4,.tmp 5,.tmp 6] Q (fun v=>(.tuple [(hU v.1),(hU v.2.1),(hU v.2.2)])) v) (HK:∀ (p8:List I),qt ()=some v→rn 103 [(1,(p6 row .shared)),(2,(.ptr 0 0)),(7,(hU (row.length:Int)))] p8→Q (.exit 2) p8 [Hq b]) {T:List I} (bW:eX (p_ false [1,2,4,1,1,1,93]) T=Hc 103 [(1,(p6 row .shared)),(2,(.ptr 0 0)),(7,(hU (row.length:Int))),(9,(hU s2))]) (h:Mu row qt p' s2=some v) :
  dO Tryz.prog NV 19 0 none QZ T [Hq b] Q:=by
 unfold QZ;refine wp_loop bW ?_;refine .intro (fun m T H=>∃ (s2:Int),T=Hc 103 [(1,(p6 row .shared)),(2,(.ptr 0 0)),(7,(hU (row.length:Int))),(9,(hU s2))]∧H=[Hq b]∧Mu row qt m s2=some v) p' ⟨s2,rfl,rfl,h⟩ ?_;clear h bW;rintro m T H ⟨s2,rfl,rfl,h⟩;cases m
 ·exact ri h
 rename_i m;rw [Mu.eq_2] at h;conv=>whnf
 refine bs h (fun r4 h=>?_) fun r4 h=>?_
 ·rw [r4];conv=>whnf
  refine qs h id fun I8 h=>?_;erw [Nr p2 2 qy row s2 I8];conv=>whnf
  refine qs h id fun Hz h=>?_;rw [q' p2 2 qy row s2 Hz];conv=>whnf
  obtain ⟨eI,I9,h⟩:=qj h;refine ⟨ql.pl,_,Up I9,Jo,?_⟩;conv=>whnf
  cases eI
  ·(conv=>whnf);replace h:=HX rfl h;exact ⟨m,su m,(w (s2+(1:Int))),rfl,rfl,h⟩
  ·(conv=>whnf);replace h:=HY rfl h;exact qd h jB rfl rfl
 ·rw [r4];conv=>whnf
  exact HK  _ h ⟨rfl,rfl⟩
theorem aiV {b:qe} {row:qk} {rW:Unit→Option (Int×Int×Int)} {s3:Int} {v:(Int×Int×Int)} {Q:rM}   (jB:qK [.tmp 4,.tmp 5,.tmp 6] Q (fun v=>(.tuple [(hU v.1),(hU v.2.1),(hU v.2.2)])) v) (Ma:∀ (p8:List I),rW ()=some v→rn 103 [(1,(p6 row .shared)),(2,(.ptr 0 0)),(7,(hU (row.length:Int)))] p8→Q (.exit 4) p8 [Hq b]) {T:List I} (bW:eX (p_ false [1,2,4,1,2,1,92]) T=Hc 103 [(1,(p6 row .shared)),(2,(.ptr 0 0)),(7,(hU (row.length:Int))),(10,(hU s3))]) (h:Mv b row rW p' s3=some v) :
  dO Tryz.prog NV 19 0 none Q1 T [Hq b] Q:=by
 unfold Q1;refine wp_loop bW ?_;refine .intro (fun m T H=>∃ (s3:Int),T=Hc 103 [(1,(p6 row .shared)),(2,(.ptr 0 0)),(7,(hU (row.length:Int))),(10,(hU s3))]∧H=[Hq b]∧Mv b row rW m s3=some v) p' ⟨s3,rfl,rfl,h⟩ ?_;clear h bW;rintro m T H ⟨s3,rfl,rfl,h⟩;cases m
 ·exact ri h
 rename_i m;rw [Mv.eq_2] at h;conv=>whnf
 refine bs h (fun Hr h=>?_) fun Hr h=>?_
 ·rw [Hr];conv=>whnf
  refine qs h id fun Jv h=>?_;rw [q' p2 2 qy row (w (s3-(1:Int))) Jv];conv=>whnf
  obtain ⟨qR,Is,h⟩:=qj h;refine ⟨ql.pl,_,Zo Is,Jo,?_⟩;conv=>whnf
  refine qs h id fun Kd h=>?_;rw [q' p2 2 qy row s3 Kd];conv=>whnf
  obtain ⟨q6,Jw,h⟩:=qj h;refine ⟨ql.pl,_,Zi Jw,UL rfl,?_⟩;conv=>whnf
  refine bs h (fun IK h=>?_) fun IK h=>?_
  ·rw [IK];(conv=>whnf);exact qd h jB rfl rfl
  ·rw [IK];(conv=>whnf);exact ⟨m,su m,(w (s3+(1:Int))),rfl,rfl,h⟩
 ·rw [Hr];conv=>whnf
  exact Ma  _ h ⟨rfl,rfl⟩
theorem aiW {b:qe} {row:qk} {v:(Int×Int×Int)} (h:Ms b row=some v):qw 19 [(.agg [(hU b.1),(.ax (b.2.flatMap p2) b.2.length .shared)]),(.ax (row.flatMap p2) row.length .shared)] (.tuple [(hU v.1),(hU v.2.1),(hU v.2.2)]):=by
 refine q7 eo aeS rfl (Jb (p1 rfl (p1 rfl (p1 rfl rfl)))) fun Q bo=>?_;have jB:qK [.tmp 4,.tmp 5,.tmp 6] Q (fun v=>(.tuple [(hU v.1),(hU v.2.1),(hU v.2.2)])) v:=fun T H bH=>bo _ T H bH;unfold Ms at h;unfold ZU;obtain ⟨HV,qO⟩:∃ c,QY=c:=⟨_,rfl⟩;rw [qO];obtain ⟨KD,r0⟩:∃ c,QZ=c:=⟨_,rfl⟩;rw [r0];obtain ⟨Ps,Ip⟩:∃ c,Q1=c:=⟨_,rfl⟩;rw [Ip];conv=>whnf
 obtain ⟨r1,gD,h⟩:=qj h;refine ⟨ql.pl,_,OY gD,?_⟩;conv=>whnf
 refine bs h (fun gE h=>?_) fun gE h=>?_
 ·rw [gE];conv=>whnf
  obtain ⟨r2,qo,h⟩:=qj h;refine ⟨ql.pl,_,OY qo,?_⟩;conv=>whnf
  exact qd h jB rfl rfl
 ·rw [gE];conv=>whnf
  refine bs h (fun qS h=>?_) fun qS h=>?_
  ·rw [qS];(conv=>whnf);exact qd h jB rfl rfl
  ·rw [qS];(conv=>whnf);subst qO;refine aiT ?_ ?_ (by exact rfl) h
   ·exact fun T H bH=>jB T H bH
   ·intro  p8 h qm;obtain ⟨rf,rfl⟩:=qm.ex;(conv=>whnf);subst r0;refine aiU ?_ ?_ (by exact rfl) h
    ·exact fun T H bH=>jB T H bH
    ·intro  p8 h qm;obtain ⟨rf,rfl⟩:=qm.ex;(conv=>whnf);subst Ip;refine aiV ?_ ?_ (by exact rfl) h
     ·exact fun T H bH=>jB T H bH
     ·intro  p8 h qm;obtain ⟨rf,rfl⟩:=qm.ex;(conv=>whnf);refine qs h id fun JO h=>?_;rw [q' p2 2 qy row (0:Int) JO];(conv=>whnf);obtain ⟨HH,JP,h⟩:=qj h;refine ⟨ql.pl,_,Zi JP,Jo,?_⟩;(conv=>whnf);refine qs h id fun IL h=>?_;rw [q' p2 2 qy row (w ((row.length:Int)-(1:Int))) IL];(conv=>whnf);obtain ⟨HR,KL,h⟩:=qj h;refine ⟨ql.pl,_,Zo KL,UL rfl,?_⟩;(conv=>whnf);exact qd h jB rfl rfl

def aiY (b:qe) (row:qk):Option Int :=
 (Nx b row).bind fun r1 =>
 if (decide (r1.2.2≠(0:Int)))=true then
  some r1.2.2
 else
  if (decide ((row.length:Int)<(b.2.length:Int)))=true then
   some (15:Int)
  else
   if (decide (r1.1≠r1.2.1))=true then
    some (27:Int)
   else
    some (0:Int)

def aiZ (b:qe) (row:qk):Option Int :=
 (Ms b row).bind fun r1 =>
 if (decide (r1.2.2≠(0:Int)))=true then
  some r1.2.2
 else
  if (decide ((row.length:Int)≠(b.2.length:Int)))=true then
   some (15:Int)
  else
   if (decide (r1.1≠r1.2.1))=true then
    some (27:Int)
   else
    some (0:Int)

def Gw (b:qe) (l:qk):Option Bool :=
 (OU b).bind fun r1 =>
 if r1=true then
  (JC).bind fun r2 =>
  some r2
 else
  if (decide ((14:Int)<(l.length:Int)))=true then
   (JC).bind fun eI =>
   some eI
  else
   (Nx b l).bind fun qR =>
   (Ms b l).bind fun q6 =>
   (Ny b).bind fun HH =>
   (J5 b).bind fun HR =>
   if (decide (HH=HR))=true then
    if (decide (qR.1=q6.1))=true then
     if (decide (qR.2.1=q6.2.1))=true then
      if (decide (qR.2.2=q6.2.2))=true then
       (aiY b l).bind fun Jd =>
       (aiZ b l).bind fun J0 =>
       if (decide (Jd=J0))=true then
        (JC).bind fun HA =>
        some HA
       else
        some false
      else
       some false
     else
      some false
    else
     some false
   else
    some false
end Go.Proofs.YtfakoboiahbhaaaGreat.Ab


namespace Go.Proofs.YtfakoboiahbhaaaGreat.Ab
open Go
def HZ (lo hi x:Int):Bool:=decide (x<lo) || decide (hi<x)
theorem Mi {lo hi x:Int}:HZ lo hi x=false↔lo≤x∧x≤hi:=by
 simp only [HZ,Bool.or_eq_false_iff,decide_eq_false_iff_not];omega
theorem M8 {lo hi x:Int}:HZ lo hi x=true↔x<lo∨hi<x:=by
 simp only [HZ,tI,decide_eq_true_eq]
def posOf {α:Type} (p:α→Bool):List α→Nat→Int
 | [],_ => -1
 | x::l,i=>if p x=true then (i:Int) else posOf p l (i+1)
theorem OD {α:Type} (p:α→Bool):∀ (l:List α) (i:Nat),decide (0≤posOf p l i)=l.any p
 | [],_=>rfl
 | x::l,i=>by
   rw [posOf,uX];by_cases h:p x=true
   ·rw [if_pos h,h];simp
   ·rw [if_neg h,OD p l (i+1)];simp [h]
theorem ajD (n lo hi:Int):O7 n lo hi=some (HZ lo hi n):=by
 unfold O7 HZ;by_cases h:n<lo <;> simp [h]
theorem YY {s:List Int} {f:Int→Option Bool} {p:Int→Bool} (aP:∀ x∈s,f x=some (p x)) (ai:s.length≤140737488355328):∀ (m i:Nat) (z:Int),z=i→i≤s.length→s.length-i<m→Mo s f (fun _=>some (-1:Int)) m z=some (posOf p (s.drop i) i)
 | 0,i,_,_,_,h=>absurd h (by omega)
 | m+1,i,_,rfl,hi,hm=>by
   rw [Mo];by_cases h:i<s.length
   ·rw [I' h,Hy h,q3 h,aP _ (sI h),sc,sQ h,posOf];by_cases aB:p s[i]=true
    ·rw [if_pos aB,if_pos aB]
    ·rw [if_neg aB,if_neg aB,rG i (by omega),YY aP ai m (i+1) _ rfl (by omega) (by omega)]
   ·rw [I_ h,td (by omega)];rfl
theorem Ut {s:List (Int×Int)} {f:Int×Int→Option Bool} {p:Int×Int→Bool} (aP:∀ x∈s,f x=some (p x)) (ai:s.length≤140737488355328):∀ (m i:Nat) (z:Int),z=i→i≤s.length→s.length-i<m→MJ s f (fun _=>some (-1:Int)) m z=some (posOf p (s.drop i) i)
 | 0,i,_,_,_,h=>absurd h (by omega)
 | m+1,i,_,rfl,hi,hm=>by
   rw [MJ];by_cases h:i<s.length
   ·rw [I' h,Hy h,q3 h,aP _ (sI h),sc,sQ h,posOf];by_cases aB:p s[i]=true
    ·rw [if_pos aB,if_pos aB]
    ·rw [if_neg aB,if_neg aB,rG i (by omega),Ut aP ai m (i+1) _ rfl (by omega) (by omega)]
   ·rw [I_ h,td (by omega)];rfl
theorem ZH {s:List (Int×Int)} {f:Int×Int→Option Bool} {p:Int×Int→Bool} (aP:∀ x∈s,f x=some (p x)) (ai:s.length≤140737488355328):∀ (m i:Nat) (z:Int),z=i→i≤s.length→s.length-i<m→MK s f (fun _=>some (-1:Int)) m z=some (posOf p (s.drop i) i)
 | 0,i,_,_,_,h=>absurd h (by omega)
 | m+1,i,_,rfl,hi,hm=>by
   rw [MK];by_cases h:i<s.length
   ·rw [I' h,Hy h,q3 h,aP _ (sI h),sc,sQ h,posOf];by_cases aB:p s[i]=true
    ·rw [if_pos aB,if_pos aB]
    ·rw [if_neg aB,if_neg aB,rG i (by omega),ZH aP ai m (i+1) _ rfl (by omega) (by omega)]
   ·rw [I_ h,td (by omega)];rfl
theorem Us {s:List Int} {f:Int→Option Bool} {p:Int→Bool} (aP:∀ x∈s,f x=some (p x)) (ai:s.length≤140737488355328):Kw s f=some (s.any p):=by
 have:=YY aP ai p' 0 0 rfl (sC _) (rL (by omega));rw [sV] at this;rw [Kw,QC,this,sc,OD]
theorem ajl {s:List (Int×Int)} {f:Int×Int→Option Bool} {p:Int×Int→Bool} (aP:∀ x∈s,f x=some (p x)) (ai:s.length≤140737488355328):NF s f=some (s.any p):=by
 have:=Ut aP ai p' 0 0 rfl (sC _) (rL (by omega));rw [sV] at this;rw [NF,LQ,this,sc,OD]
theorem ajo {s:List (Int×Int)} {f:Int×Int→Option Bool} {p:Int×Int→Bool} (aP:∀ x∈s,f x=some (p x)) (ai:s.length≤140737488355328):O4 s f=some (s.any p):=by
 have:=ZH aP ai p' 0 0 rfl (sC _) (rL (by omega));rw [sV] at this;rw [O4,QR,this,sc,OD]
theorem QL (lo hi:Int) (l:List Int) (ao:l.length≤140737488355328):LM lo hi l=some (!(l.any (HZ lo hi))):=by
 rw [LM,Us (p:=HZ lo hi) (fun x _=>ajD x lo hi) ao,sc]
def IV (f:Int) (s:Int×Int):Bool:=HZ 0 (f-1) s.1 || HZ 0 (f-1) s.2
def q4 (b:p5):Int:=if b.1<1∨6<b.1∨(10:Int)<(b.2.length:Int) then 6 else if b.2.any (IV b.1)=true then 3 else 0
structure qA (b:p5):Prop where
 f1:1≤b.1
 f6:b.1≤6
 len:b.2.length≤10
 left:∀ s∈b.2,0≤s.1∧s.1<b.1
 right:∀ s∈b.2,0≤s.2∧s.2<b.1
theorem HU {b:p5}:q4 b=0↔qA b:=by
 unfold q4;constructor
 ·intro h;split at h
  ·omega
  ·rename_i ad;split at h
   ·omega
   ·rename_i af;(have af:b.2.any (IV b.1)=false:=by simpa using af);rw [uI] at af;have aG:∀ s∈b.2,HZ 0 (b.1-1) s.1=false∧HZ 0 (b.1-1) s.2=false:=fun s ai=>by
     have:=af s ai;unfold IV at this;simpa using this
    exact ⟨by omega,by omega,by omega,fun s ai=>by have:=Mi.1 (aG s ai).1;omega,fun s ai=>by have:=Mi.1 (aG s ai).2;omega⟩
 ·intro h;obtain ⟨ad,af,aG,a5,bL⟩:=h;rw [if_neg (by omega),if_neg];rw [Bool.not_eq_true,uI];intro s ai;have a:=a5 s ai;have c:=bL s ai;unfold IV;rw [Mi.2 (by omega),Mi.2 (by omega)];decide
theorem QG (b:p5) (ag:b.2.length≤1000):Ny b=some (q4 b):=by
 rw [Ny,QL _ _ _ (by simp),sc];unfold q4;simp only [uX,List.any_nil,Bool.or_false];by_cases h:1≤b.1∧b.1≤6
 ·rw [Mi.2 h,if_pos (by decide)];by_cases af:(10:Int)<(b.2.length:Int)
  ·rw [if_pos (decide_eq_true af),if_pos (by omega)]
  ·rw [if_neg (by simpa using af),if_neg (by omega),ajo (p:=IV b.1) (fun s _=>by
    rw [QN,HT (by omega),QL _ _ _ (by simp),sc]
    simp [IV]) (by omega),sc]
   cases b.2.any (IV b.1) <;> rfl
 ·have:HZ 1 6 b.1=true:=by rw [M8];omega
  rw [this,if_neg (by decide),if_pos (by omega)]
theorem Y8 {b:p5} (ag:b.2.length≤1000) (aP:1≤b.1):∀ (m i:Nat) (z:Int),z=i→i≤b.2.length→b.2.length-i<m→Mw b (fun _=>some (0:Int)) m z=some (if (b.2.drop i).any (IV b.1)=true then 3 else 0)
 | 0,i,_,_,_,h=>absurd h (by omega)
 | m+1,i,_,rfl,hi,hm=>by
   rw [Mw];by_cases h:i<b.2.length
   ·rw [I' h,Hy h,q3 h,sQ h,uX];have e:IV b.1 b.2[i]=true↔b.2[i].1<0∨b.1≤b.2[i].1∨b.2[i].2<0∨b.1≤b.2[i].2:=by
     unfold IV;rw [tI,M8,M8];omega
    by_cases ai:IV b.1 b.2[i]=true
    ·have aX:=e.1 ai;rw [ai,Bool.true_or,if_pos rfl];by_cases aC:b.2[i].1<0
     ·rw [if_pos (decide_eq_true aC)]
     rw [if_neg (by simpa using aC)];by_cases aI:b.1≤b.2[i].1
     ·rw [if_pos (decide_eq_true aI)]
     rw [if_neg (by simpa using aI)];by_cases aR:b.2[i].2<0
     ·rw [if_pos (decide_eq_true aR)]
     rw [if_neg (by simpa using aR),if_pos (decide_eq_true (by omega))]
    ·have aX:=(not_congr e).1 ai;(have g7:IV b.1 b.2[i]=false:=by simpa using ai);rw [g7,vD,if_neg (by simp;omega),if_neg (by simp;omega),if_neg (by simp;omega),if_neg (by simp;omega),rG i (by omega),Y8 ag aP m (i+1) _ rfl (by omega) (by omega)]
   ·rw [I_ h,td (by omega)];rfl
theorem Uf (b:p5) (ag:b.2.length≤1000):J5 b=some (q4 b):=by
 rw [J5];unfold q4;by_cases ad:b.1<1
 ·rw [if_pos (decide_eq_true ad),if_pos (.inl ad)]
 rw [if_neg (by simpa using ad)];by_cases af:6<b.1
 ·rw [if_pos (decide_eq_true af),if_pos (.inr (.inl af))]
 rw [if_neg (by simpa using af)];by_cases aG:(10:Int)<(b.2.length:Int)
 ·rw [if_pos (decide_eq_true aG),if_pos (.inr (.inr aG))]
 rw [if_neg (by simpa using aG),if_neg (by omega),Y8 ag (by omega) p' 0 0 rfl (sC _) (rL (by omega)),sV]
abbrev Row:=List (Int×Int)
def Hj (b:p5) (p:Int×Int):Bool:=HZ 0 ((b.2.length:Int)-1) p.1 || HZ 0 1 p.2
theorem OQ {b:p5} {p:Int×Int}:Hj b p=false↔0≤p.1∧p.1<(b.2.length:Int)∧0≤p.2∧p.2≤1:=by
 unfold Hj;rw [Bool.or_eq_false_iff,Mi,Mi];omega
def Hu:Row→Row→Bool
 | _,[]=>false
 | pre,p::r=>if (pre.any fun q=>decide (q.1=p.1))=true then true else Hu (pre++[p]) r
def qD (b:p5):Int→Row→Option Int
 | a,[]=>some a
 | a,p::r=>if qx b p=a then qD b (fin b p) r else none
def Hg (b:p5) (row:Row):Int×Int×Int :=
 if q4 b≠0 then (0,0,q4 b) else match row with
 | []=>(0,0,6)
 | p::r=>if (p::r).any (Hj b)=true then (0,0,3) else if Hu [] (p::r)=true then (0,0,11) else match qD b (qx b p) (p::r) with
   | none=>(0,0,27)
   | some a=>(qx b p,a,0)
theorem ajk {b:p5} (ag:b.2.length≤1000) (p:Int×Int):ND p b=some (Hj b p):=by
 rw [ND,HT (by omega),QL _ _ _ (by simp),sc];unfold Hj;simp only [uX,List.any_nil,Bool.or_false];cases HZ 0 ((b.2.length:Int)-1) p.1 with
 | true=>rfl
 | false=>rw [if_pos (by decide),QL _ _ _ (by simp),sc];simp
theorem abK {α:Type} (f:α→Bool) (l:List α) (x:α):(l++[x]).any f=(l.any f || f x):=by simp
theorem K2 {α:Type} {l:List α} {i:Nat} (h:i<l.length):l.take (i+1)=l.take i++[l[i]]:=by
 rw [List.take_add_one,sm h];rfl
theorem Md {t:List Int} {c:Nat} {x:Int} (h:c<t.length):ix (t.set c x) (c:Int)=x:=by unfold ix;simp [sE,h]
theorem Ke {t:List Int} {c j:Nat} {x:Int} (h:j≠c):ix (t.set c x) (j:Int)=ix t (j:Int):=by unfold ix;simp [sE,sj (Ne.symm h)]
theorem Sy {n:Nat} (j:Int):ix (List.replicate n (0:Int)) j=0:=by
 unfold ix;rw [sE,List.getElem?_replicate];split <;> rfl
theorem Y2 {row:Row} {k:Unit→Option (Int×Int×Int)} (aj:row.length≤1000) (g4:∀ p∈row,0≤p.1∧p.1<10):∀ (m i:Nat) (z:Int) (t:List Int),z=i→i≤row.length→row.length-i<m→t.length=10 →
  (∀ j:Nat,j<10→(0<ix t (j:Int)↔((row.take i).any fun q=>decide (q.1=(j:Int)))=true))→Mq row k m z t=if Hu (row.take i) (row.drop i)=true then some (0,0,11) else k ()
 | 0,i,_,_,_,_,h,_,_=>absurd h (by omega)
 | m+1,i,_,t,rfl,hi,hm,ay,bW=>by
   rw [Mq];by_cases h:i<row.length
   ·have aB:=g4 _ (sI h);obtain ⟨c,al⟩:∃ c:Nat,row[i].1=(c:Int):=⟨row[i].1.toNat,by omega⟩;rw [I' h,Hy h,q3 h,qg ⟨aB.1,aB.2,ay.symm⟩,sQ h,Hu,al];by_cases ak:0<ix t (c:Int)
    ·rw [if_pos (decide_eq_true ak),if_pos ((bW c (by omega)).1 ak),if_pos rfl]
    ·rw [if_neg (by simpa using ak),if_neg (fun e=>ak ((bW c (by omega)).2 e)),qg ⟨by omega,by omega,ay.symm⟩,rG i (by omega),
      Y2 aj g4 m (i+1) _ _ rfl (by omega) (by omega) (by simpa using ay) (fun j aw=>?_),K2 h]
     rw [K2 h,abK,al];by_cases pF:j=c
     ·subst pF;rw [th,Md (by omega)];simp
     ·rw [th,Ke pF,bW j aw];simp [show ¬ (c:Int)=(j:Int) by omega]
   ·rw [I_ h,td (by omega)];simp [Hu]
theorem Y3 {b:p5} {row:Row} {k:Int→Option (Int×Int×Int)} (aj:row.length≤1000) (g4:∀ p∈row,0≤p.1∧p.1<(b.2.length:Int)):∀ (m i:Nat) (z a:Int),z=i→i≤row.length→row.length-i<m →
  Mr row b k m a z=match qD b a (row.drop i) with | none=>some (0,0,27) | some aM=>k aM
 | 0,i,_,_,_,_,h=>absurd h (by omega)
 | m+1,i,_,a,rfl,hi,hm=>by
   rw [Mr];by_cases h:i<row.length
   ·rw [I' h,Hy h,q3 h,Kr (g4 _ (sI h)),sc,sQ h,qD];by_cases ag:qx b row[i]=a
    ·rw [if_pos ag,if_neg (by simp [ag]),rG i (by omega),Y3 aj g4 m (i+1) _ _ rfl (by omega) (by omega)]
    ·rw [if_neg ag,if_pos (decide_eq_true ag)]
   ·rw [I_ h,td (by omega)];rfl
theorem aiN (b:p5) (row:Row) (ag:b.2.length≤1000) (aj:row.length≤1000):Nx b row=some (Hg b row):=by
 rw [Nx,Jn,QG b ag,sc];unfold Hg;by_cases aU:q4 b≠0
 ·rw [if_pos (decide_eq_true aU),sc];dsimp only;rw [if_pos (decide_eq_true aU),if_pos aU]
 have p3:=HU.1 (vl.1 aU);rw [if_neg (by simpa using aU),sc,if_neg aU];dsimp only;rw [if_neg (by decide)];cases row with
 | nil=>rfl
 | cons p r =>
   rw [if_neg (by simp;omega),ajl (p:=Hj b) (fun q _=>ajk ag q) (by omega),sc];dsimp only;by_cases ad:(p::r).any (Hj b)=true
   ·rw [if_pos ad,if_pos ad]
   rw [if_neg ad,if_neg ad,qg (by simp)];(have iF:(p::r).any (Hj b)=false:=by simpa using ad);rw [uI] at iF;have g4:∀ q∈p::r,0≤q.1∧q.1<(b.2.length:Int):=fun q aZ=>by
    have:=OQ.1 (by simpa using iF q aZ);exact ⟨this.1,this.2.1⟩
   have hlen:=p3.len;rw [Y2 aj (fun q aZ=>by have:=g4 q aZ;omega) p' 0 0 _ rfl (sC _) (rL (by omega)) (by simp) (fun j aw=>by rw [Sy];simp),tj,sV];by_cases af:Hu [] (p::r)=true
   ·rw [if_pos af,if_pos af]
   rw [if_neg af,if_neg af,qg (by simp),show ix (p::r) (0:Int)=p from rfl,Kr (g4 p (by simp)),sc,Y3 aj g4 p' 0 0 _ rfl (sC _) (rL (by omega)),sV];cases qD b (qx b p) (p::r) <;> rfl
theorem Zm {row:Row} {s:Int} (aj:row.length≤1000):∀ (m i:Nat) (z:Int),z=i→i≤row.length→row.length-i<m→MB row s (fun _=>some false) m z=some ((row.drop i).any fun q=>decide (q.1=s))
 | 0,i,_,_,_,h=>absurd h (by omega)
 | m+1,i,_,rfl,hi,hm=>by
   rw [MB];by_cases h:i<row.length
   ·rw [I' h,Hy h,q3 h,sQ h,uX];by_cases aB:row[i].1=s
    ·rw [if_pos (decide_eq_true aB)];simp [aB]
    ·rw [if_neg (by simpa using aB),rG i (by omega),Zm aj m (i+1) _ rfl (by omega) (by omega)];simp [aB]
   ·rw [I_ h,td (by omega)];rfl
theorem Zl (row:Row) (s:Int) (aj:row.length≤1000):NG row s=some (row.any fun q=>decide (q.1=s)):=by
 rw [NG,Zm aj p' 0 0 rfl (sC _) (rL (by omega)),sV]
theorem Zh {b:p5} {p:Int×Int} (h:Hj b p=false):NC b p=some (qx b p):=by
 have h:=OQ.1 h;rw [NC];unfold qx;by_cases ad:p.2=1
 ·rw [if_pos (decide_eq_true ad),if_pos (by omega),qg ⟨by omega,by omega⟩]
 ·rw [if_neg (by simpa using ad),if_neg (by omega),qg ⟨by omega,by omega⟩]
theorem Zn {b:p5} {p:Int×Int} (h:Hj b p=false):NH b p=some (fin b p):=by
 have h:=OQ.1 h;rw [NH];unfold fin;by_cases ad:p.2=1
 ·rw [if_pos (decide_eq_true ad),if_pos (by omega),qg ⟨by omega,by omega⟩]
 ·rw [if_neg (by simpa using ad),if_neg (by omega),qg ⟨by omega,by omega⟩]
theorem Y4 {b:p5} {row:Row} {k:Unit→Option (Int×Int×Int)} (aj:row.length≤1000):∀ (m i:Nat) (z:Int),z=i→i≤row.length→row.length-i<m →
  Mt b row k m z=if (row.drop i).any (Hj b)=true then some (0,0,3) else k ()
 | 0,i,_,_,_,h=>absurd h (by omega)
 | m+1,i,_,rfl,hi,hm=>by
   rw [Mt];by_cases h:i<row.length
   ·rw [I' h,Hy h,q3 h,sQ h,uX];have e:Hj b row[i]=true↔row[i].1<0∨(b.2.length:Int)≤row[i].1∨row[i].2<0∨1<row[i].2:=by
     unfold Hj;rw [tI,M8,M8];omega
    by_cases ai:Hj b row[i]=true
    ·have aX:=e.1 ai;rw [ai,Bool.true_or,if_pos rfl];by_cases aC:row[i].1<0
     ·rw [if_pos (decide_eq_true aC)]
     rw [if_neg (by simpa using aC),Hy h];by_cases aI:(b.2.length:Int)≤row[i].1
     ·rw [if_pos (decide_eq_true aI)]
     rw [if_neg (by simpa using aI),Hy h];by_cases aR:row[i].2<0
     ·rw [if_pos (decide_eq_true aR)]
     rw [if_neg (by simpa using aR),Hy h,if_pos (decide_eq_true (by omega))]
    ·have aX:=(not_congr e).1 ai;(have g7:Hj b row[i]=false:=by simpa using ai);rw [g7,vD,if_neg (by simp;omega),Hy h,if_neg (by simp;omega),Hy h,if_neg (by simp;omega),Hy h,if_neg (by simp;omega),rG i (by omega),Y4 aj m (i+1) _ rfl (by omega) (by omega)]
   ·rw [I_ h,td (by omega)];rfl
theorem Y5 {row:Row} {k:Unit→Option (Int×Int×Int)} (aj:row.length≤1000):∀ (m i:Nat) (z:Int),z=i→i≤row.length→row.length-i<m →
  Mu row k m z=if Hu (row.take i) (row.drop i)=true then some (0,0,11) else k ()
 | 0,i,_,_,_,h=>absurd h (by omega)
 | m+1,i,_,rfl,hi,hm=>by
   rw [Mu];by_cases h:i<row.length
   ·rw [I' h,qg ⟨by omega,by omega⟩,Hy h,q3 h,th,Zl _ _ (by simp;omega),sc,sQ h,Hu];by_cases ak:((row.take i).any fun q=>decide (q.1=row[i].1))=true
    ·rw [if_pos ak,if_pos ak,if_pos rfl]
    ·rw [if_neg ak,if_neg ak,rG i (by omega),Y5 aj m (i+1) _ rfl (by omega) (by omega),K2 h]
   ·rw [I_ h,td (by omega)];simp [Hu]
theorem Y6 {b:p5} {row:Row} {k:Unit→Option (Int×Int×Int)} (aj:row.length≤1000) (g4:∀ p∈row,Hj b p=false):∀ (m i:Nat) (z:Int),z=((i+1:Nat):Int)→(hi:i<row.length)→row.length-i<m →
  Mv b row k m z=match qD b (fin b row[i]) (row.drop (i+1)) with | none=>some (0,0,27) | some _=>k ()
 | 0,i,_,_,_,h=>absurd h (by omega)
 | m+1,i,_,rfl,hi,hm=>by
   rw [Mv];by_cases h:i+1<row.length
   ·rw [I' h,show w (((i+1:Nat):Int)-1)=((i:Nat):Int) by rw [HT (by omega)];omega,Hy hi,q3 hi,Zn (g4 _ (sI hi)),sc,Hy h,q3 h,Zh (g4 _ (sI h)),sc,sQ h,qD];by_cases ag:qx b row[i+1]=fin b row[i]
    ·rw [if_pos ag,if_neg (by simp [ag]),rG (i+1) (by omega),Y6 aj g4 m (i+1) _ rfl h (by omega)]
    ·rw [if_neg ag,if_pos (decide_eq_true (Ne.symm ag))]
   ·rw [I_ h,td (by omega)];rfl
theorem XH {b:p5}:∀ (l:Row) (a aM:Int) (h:l≠[]),qD b a l=some aM→aM=fin b (l.getLast h)
 | [],_,_,h,_=>absurd rfl h
 | [p],a,aM,_,h=>by
   rw [qD] at h;split at h
   ·rw [qD] at h;cases h;rfl
   ·cases h
 | p::q::r,a,aM,_,h=>by
   rw [qD] at h;split at h
   ·rw [List.getLast_cons (by simp)];exact XH (q::r) _ aM (by simp) h
   ·cases h
theorem aiS (b:p5) (row:Row) (ag:b.2.length≤1000) (aj:row.length≤1000):Ms b row=some (Hg b row):=by
 rw [Ms,Uf b ag,sc];unfold Hg;by_cases aU:q4 b≠0
 ·rw [if_pos (decide_eq_true aU),sc,if_pos aU]
 rw [if_neg (by simpa using aU),if_neg aU];cases row with
 | nil=>rfl
 | cons p r =>
   rw [if_neg (by simp;omega),Y4 aj p' 0 0 rfl (sC _) (rL (by omega)),sV];dsimp only;by_cases ad:(p::r).any (Hj b)=true
   ·rw [if_pos ad,if_pos ad]
   rw [if_neg ad,if_neg ad];(have iF:(p::r).any (Hj b)=false:=by simpa using ad);rw [uI] at iF;(have g4:∀ q∈p::r,Hj b q=false:=fun q aZ=>by simpa using iF q aZ);rw [Y5 aj p' 0 0 rfl (sC _) (rL (by omega)),tj,sV];by_cases af:Hu [] (p::r)=true
   ·rw [if_pos af,if_pos af]
   rw [if_neg af,if_neg af,Y6 aj g4 p' 0 1 rfl (by simp) (rL (by omega))];rw [show qD b (qx b p) (p::r)=qD b (fin b p) r by rw [qD,if_pos rfl]];show (match qD b (fin b p) r with | none=>_ | some _=>_)=_;cases aO:qD b (fin b p) r with
   | none=>rfl
   | some a =>
     have ao:(r.length+1:Nat)=(p::r).length:=rfl;dsimp only
     rw [qg (by simp),show ix (p::r) (0:Int)=p from rfl,Zh (g4 p (by simp)),sc,
      show w (((p::r).length:Int)-1)=((r.length:Nat):Int) by rw [HT (by omega)];omega,Hy (by simp),q3 (by simp),Zn (g4 _ (sI _)),sc]
     have:=XH (p::r) (qx b p) a (by simp) (by rw [qD,if_pos rfl];exact aO);rw [this,List.getLast_eq_getElem];rfl
theorem RK:∀ (r pre:Row),Hu pre r=false→(pre.map (·.1)).Nodup→((pre++r).map (·.1)).Nodup
 | [],pre,_,h=>by simpa using h
 | p::r,pre,h,aN=>by
   rw [Hu] at h;split at h
   ·cases h
   ·rename_i ak
    have:=RK r (pre++[p]) h (by
     rw [List.map_append,tX];refine ⟨aN,by simp,fun a cb c al=>?_⟩;simp only [sG,List.map_nil,sO] at al;subst al;intro e;apply ak;rw [uY];obtain ⟨q,aZ,rfl⟩:=sk.1 cb
     exact ⟨q,aZ,by simp [e]⟩)
    simpa using this
theorem XX:∀ (a b:List Nat),a.Nodup→(∀ x∈a,x∈b)→a.length≤b.length
 | [],_,_,_=>sC _
 | x::a,b,aN,h=>by
   obtain ⟨ad,af⟩:=uc.1 aN;have ak:=h x (by simp);have:=XX a (b.erase x) af fun y aY=>by
    have bN:y≠x:=fun e=>ad (e ▸ aY);exact (List.mem_erase_of_ne bN).2 (h y (by simp [aY]))
   rw [List.length_erase_of_mem ak] at this;have:=wj ak;simp only [sM];omega
theorem Mh {l:List Int} {n:Nat} (h:l.Nodup) (ag:∀ x∈l,0≤x∧x<(n:Int)):l.length≤n:=by
 have ad:(l.map Int.toNat).Nodup:=by
  rw [List.Nodup,List.pairwise_map];refine h.imp_of_mem fun {a c} cb al bN e=>bN ?_;have:=ag a cb;have:=ag c al;omega
 have af:∀ x∈l.map Int.toNat,x∈List.range n:=fun x ak=>by
  obtain ⟨y,aY,rfl⟩:=sk.1 ak;have:=ag y aY;exact sK.2 (by omega)
 have:=XX _ _ ad af;simpa using this
theorem aca {b:p5} {row:Row} (h:(Hg b row).2.2=0):qA b∧row≠[]∧(∀ p∈row,Hj b p=false)∧(row.map (·.1)).Nodup∧qD b (Hg b row).1 row=some (Hg b row).2.1:=by
 unfold Hg at h ⊢;by_cases aU:q4 b≠0
 ·rw [if_pos aU] at h;exact absurd h aU
 have p3:=HU.1 (vl.1 aU);rw [if_neg aU] at h ⊢;cases row with
 | nil=>simp at h
 | cons p r =>
   dsimp only at h ⊢;by_cases ad:(p::r).any (Hj b)=true
   ·rw [if_pos ad] at h;simp at h
   rw [if_neg ad] at h ⊢;(have iF:(p::r).any (Hj b)=false:=by simpa using ad);rw [uI] at iF;(have g4:∀ q∈p::r,Hj b q=false:=fun q aZ=>by simpa using iF q aZ);by_cases af:Hu [] (p::r)=true
   ·rw [if_pos af] at h;simp at h
   rw [if_neg af] at h ⊢;(have GL:Hu [] (p::r)=false:=by simpa using af);have a2:=RK (p::r) [] GL (by simp);rw [tN] at a2;cases aO:qD b (qx b p) (p::r) with
   | none=>rw [aO] at h;simp at h
   | some a=>exact ⟨p3,by simp,g4,a2,aO⟩
end Go.Proofs.YtfakoboiahbhaaaGreat.Ab


namespace Go.Proofs.YtfakoboiahbhaaaGreat.Ab
open Go
set_option maxRecDepth 20000
set_option maxHeartbeats 4000000
noncomputable def aal:fT :=
 pY [GC 2 [.jf 0] .box,GC 3 [.jf 1] .box,GC 4 [.lR .junk] .mN] (pY [GC 5 [.Bs 2,.Bs 3] (.zR 113 0 2),pX 4 5] .ret)
theorem afj:zD Tryz.prog Vi 89=some (aal,6,[.tmp 4]):=by kernel_rfl
def QP (t:qe) (figure:Int):Option Unit :=
 some ()
theorem ZF {t:qe} {figure:Int} {v:Unit} (h:QP t figure=some v):qw 89 [(.bT [(hU t.1),(.ax (t.2.flatMap p2) t.2.length .shared)]),(hU figure)] (.func 113 [] [(.bT [(.bT [(hU t.1),(.ax (t.2.flatMap p2) t.2.length .shared)])]),(.bT [(hU figure)])]):=by
 refine q7 eo afj rfl (Kl rfl (p1 (rj (p1 (rj (p1 rfl (p1 (q8 (fun _=>(p1 rfl (p1 rfl rfl))) _ _ _) rfl))) rfl)) (p1 (rj (p1 rfl rfl)) rfl))) fun Q bo=>?_;have jB:∀ T H,ID [.tmp 4] (.func 113 [] [(.bT [(.bT [(hU t.1),(p6 t.2 .shared)])]),(.bT [(hU figure)])]) .ret T H→Q .ret T H:=fun T H bH=>bo _ T H bH;unfold QP at h;unfold aal;conv=>whnf
 exact jB _ _ ⟨.inr rfl,_,rfl,_,(acV WV (WU (V3 (l:=[(.bT [(hU t.1),(p6 t.2 .shared)])]) (by first | exact qn.h | rfl | (simp [se,I.settle];done)) (p1 (rj (p1 rfl (p1 (q8 (fun _=>(p1 rfl (p1 rfl rfl))) _ _ _) rfl))) rfl)) (WU (V3 (l:=[(hU figure)]) (by first | exact qn.h | rfl | (simp [se,I.settle];done)) (p1 rfl rfl)) WV))),rfl⟩

noncomputable def Rc:fT :=
 .loop (some (p_ false [1,1,1,1,1,3,6,1,48])) (pY [GC 15 [.sl 14,.lR (.int .i64 6)] (.bin .lss)] (.seq (.cond (.sl 15) .skip (.exit 0)) (.seq (.block 1 (pY [pZ 16 14,pX 8 16] (qv [pX 17 8,GC 18 [.sl 7,.Bs 17] (.zn 6 1),⟨none,[.jf 18,.lR (.int .i64 (-1))],none,none,.st 1⟩]))) (qv [qE 19 14 1,pX 14 19]))))
noncomputable def Uw:fT :=
 .AL (.sl 34) [35] (G9 Tryz.prog 81 0) (G_ Tryz.prog 81 0)
noncomputable def Rd:fT :=
 .loop (some (p_ false [3,1,1,3,1,1,53])) (.seq (pY [GC 24 [.sl 9] (.zx .one),qM 25 24,qq 26 25 0 .gtr] (.cond (.sl 26) .skip (.exit 2))) (.block 3 (pY [GC 27 [.sl 9] (.zx .one),GC 28 [.Bs 27,.lR (.int .i64 0)] (.kQ 1),qc 29 28,GC 10 [] (.alloc [.int .i64 0]),⟨none,[.sl 10,.jf 29],none,none,.st 1⟩] (pY [GC 30 [.sl 9] .take,GC 31 [.jf 30,.lR (.int .i64 1)] (.Bg 1 true false false),⟨none,[.sl 9,.jf 31],none,none,.st 1⟩] (pY [GC 32 [.sl 3] (.zx .one),GC 33 [.sl 10] (.zx .one),GC 34 [.lR (.func 89 [] []),.sl 32,.sl 33] (.call 3)] (.block 4 Uw))))))
noncomputable def aah:fT :=
 pY [GC 3 [.jf 0] .box,GC 5 [.jf 2] .box,GC 6 [] (.alloc [.int .i64 0,.int .i64 0,.int .i64 0,.int .i64 0,.int .i64 0,.int .i64 0])] (pY [GC 7 [] (.alloc [.int .i64 0,.int .i64 0,.int .i64 0,.int .i64 0,.int .i64 0,.int .i64 0])] (.seq (pY [qa 14 0] (.block 0 Rc)) (pY [pZ 20 1,GC 21 [.sl 7,.Bs 20] (.zn 6 1),⟨none,[.jf 21,.lR (.int .i64 0)],none,none,.st 1⟩] (pY [pX 22 1,GC 23 [.Bs 22] (.yu 1 1 [.int .i64 0] [0]),GC 9 [] (.alloc [.ax [] 0 .full]),⟨none,[.sl 9,.jf 23],none,none,.st 1⟩] (.seq (.block 2 Rd) (pY [GC 62 [.Bs 7] (.zx (.arr 6)),⟨none,[.sl 6,.jf 62],none,none,.st 6⟩] .ret))))))
noncomputable def aai:fT :=
 .oh false [GC 11 [] (.alloc [.int .i64 0,.int .i64 0]),⟨none,[.sl 11,.jf 35],none,none,.st 2⟩]
theorem afg:eg Tryz.prog Ij (G9 Tryz.prog 81 0) 0=some aai:=by kernel_rfl
noncomputable def aaj:fT :=
 .block 5 (pY [qc 37 3,GC 38 [.sl 11] (.zx (.str 2)),GC 39 [.lR (.func 68 [] []),.sl 37,.sl 38] (.call 3),pX 36 39,rA 40 36 0,GC 41 [.Bs 36] (.ext 1),pX 12 40,pX 13 41] (pY [qF 42 11 0,qc 43 42,qc 44 5,qI 45 43 44 .neq,pX 46 45,cR 47 [.sl 13] 46 true .mN,⟨some 48,[.sl 7,.Bs 47],some (46,true),none,.zn 6 1⟩,cR 49 [.Bs 48] 46 true (.zx .one),cR 50 [.Bs 49,.lR (.int .i64 0)] 46 true (.bin .lss),GC 51 [.Bs 46,.Bs 50,.lR (.bool false)] .pick] (.cond (.sl 51) (pY [pZ 52 13,qc 53 10,GC 54 [.sl 7,.Bs 53] (.zn 6 1),qc 55 54,qE 56 55 1,GC 57 [.Bs 7,.Bs 52] (.zn 6 1),⟨none,[.jf 57,.jf 56],none,none,.st 1⟩] (qv [GC 58 [.sl 9] .take,pX 59 13,GC 60 [.Bs 59] (.yu 1 1 [.int .i64 0] [0]),GC 61 [.jf 58,.jf 60] (.app 1 8),⟨none,[.jf 9,.jf 61],none,none,.st 1⟩])) .skip)))
theorem afh:eg Tryz.prog Ij (G_ Tryz.prog 81 0) 0=some aaj:=by kernel_rfl
theorem aff:zD Tryz.prog Ij 81=some (aah,63,[.cell 6 (.arr 6)]):=by kernel_rfl
def MF (qb:p7→Option p7):Nat→Int→p7→Option p7
 | 0,_,_=>none
 | m+1,s1,s2 =>
   if (decide (s1<(6:Int)))=true then
    p9 (0≤s1∧s1<(6:Int)∧6=s2.length) <|
    MF qb m (w (s1+(1:Int))) (s2.set s1.toNat (-1:Int))
   else
    qb s2
def MH (t:qe) (without:Int) (G':p7) (ahl:p7×p7) (e1:(Int×Int)):Option (p7×p7) :=
 match ahl with
 | (t1,t2) =>
   (LN t e1).bind fun r2 =>
   if (decide (e1.1≠without))=true then
    p9 (0≤r2.2∧r2.2<(6:Int)∧6=t2.length) <|
    if (decide ((ix t2 r2.2)<(0:Int)))=true then
     p9 (0≤(ix G' (0:Int))∧(ix G' (0:Int))<(6:Int)∧6=t2.length) <|
     p9 (0≤r2.2∧r2.2<(6:Int)∧6=t2.length) <|
     p9 ((t1.length+1)*8≤140737488355328) <|
     some ((t1++[r2.2]),(t2.set r2.2.toNat (w ((ix t2 (ix G' (0:Int)))+(1:Int)))))
    else
     some (t1,t2)
   else
    some (t1,t2)
def MG (t:qe) (without:Int) (qt:p7→Option p7):Nat→p7→p7→Option p7
 | 0,_,_=>none
 | m+1,s3,G' =>
   if (decide ((0:Int)<(G'.length:Int)))=true then
    p9 (0≤(0:Int)∧(0:Int)<(G'.length:Int)) <|
    p9 (0≤(1:Int)∧(1:Int)≤(G'.length:Int)) <|
    (QP t (ix G' (0:Int))).bind fun r1 =>
    (KZ t (ix G' (0:Int))).bind fun dI =>
    (H9 (MH t without G') dI ((G'.drop (1:Int).toNat),s3)).bind fun eI =>
    MG t without qt m eI.2 eI.1
   else
    qt s3
def O6 (t:qe) (to without:Int):Option p7 :=
 MF (fun yg =>
   p9 (0≤to∧to<(6:Int)∧6=yg.length) <|
   MG t without (fun oH =>
     p9 (oH.length=6) <|
     p9 (oH.length=6∧(List.replicate 6 (0:Int)).length=6) <|
     p9 (oH.length=6) <|
     some oH) p' (yg.set to.toNat (0:Int)) [to]) p' (0:Int) (List.replicate 6 (0:Int))
theorem ajt {qb:p7→Option p7} {s1:Int} {s2:p7} {t:qe} {to:Int} {without:Int} {v:p7} {Q:rM}   (rI:∀ (yg:p7) (p8:List I),qb yg=some v→rn 63 [(1,(hU to)),(3,(.ptr 0 0)),(5,(.ptr 1 0)),(6,(.ptr 2 0)),(7,(.ptr 3 0))] p8→Q (.exit 0) p8 [ar.cells [(.bT [(hU t.1),(p6 t.2 .shared)])],ar.cells [(hU without)],ar.cells ((List.replicate 6 (0:Int)).map hU),ar.cells (yg.map hU)]) {T:List I} (bW:eX (p_ false [1,1,1,1,1,3,6,1,48]) T=Hc 63 [(1,(hU to)),(3,(.ptr 0 0)),(5,(.ptr 1 0)),(6,(.ptr 2 0)),(7,(.ptr 3 0)),(14,(hU s1))]) (h:MF qb p' s1 s2=some v) :
  dO Tryz.prog Ij 81 0 none Rc T [ar.cells [(.bT [(hU t.1),(p6 t.2 .shared)])],ar.cells [(hU without)],ar.cells ((List.replicate 6 (0:Int)).map hU),ar.cells (s2.map hU)] Q:=by
 unfold Rc;refine wp_loop bW ?_;refine .intro (fun m T H=>∃ (s1:Int) (s2:p7),T=Hc 63 [(1,(hU to)),(3,(.ptr 0 0)),(5,(.ptr 1 0)),(6,(.ptr 2 0)),(7,(.ptr 3 0)),(14,(hU s1))]∧H=[ar.cells [(.bT [(hU t.1),(p6 t.2 .shared)])],ar.cells [(hU without)],ar.cells ((List.replicate 6 (0:Int)).map hU),ar.cells (s2.map hU)]∧MF qb m s1 s2=some v) p' ⟨s1,s2,rfl,rfl,h⟩ ?_;clear h bW;rintro m T H ⟨s1,s2,rfl,rfl,h⟩;cases m
 ·exact ri h
 rename_i m;rw [MF.eq_2] at h;conv=>whnf
 refine bs h (fun gD h=>?_) fun gD h=>?_
 ·rw [gD];conv=>whnf
  obtain ⟨gE,h⟩:=qB h;refine ⟨⟨gE.1,gE.2.1⟩,?_⟩;replace gE:0≤s1∧s1<(s2.length:Int):=⟨gE.1,by have:=gE.2;omega⟩;conv=>whnf
  refine LH hU s2 s1 (-1:Int) gE ?_;conv=>whnf
  exact ⟨m,su m,(w (s1+(1:Int))),(s2.set s1.toNat (-1:Int)),rfl,rfl,h⟩
 ·rw [gD];conv=>whnf
  exact rI _ _ h ⟨rfl,rfl⟩
theorem ajx {t:qe} {without:Int} {G':p7} {s3:p7} {t1:p7} {t2:p7} {e1:(Int×Int)} {x':I} {fx:I} {gl:I} {Gj:I} {LC:I} {u8:I} {K3:I} {K4:I} {K5:I} {K6:I} {K7:I} {u16:I} {K8:I} {K9:I} {K_:I} {La:I} {Lb:I} {Lc:I} {Ko:I} {Ld:I} {Le:I} {Kp:I} {Lf:I} {Lg:I} {Kq:I} {Lh:I} {Li:I} {u32:I} {Lj:I} {Ji:I} {Jj:I} {Jk:I} {Jl:I} {Ie:I} {Ig:I} {Ih:I} {Jm:I} {Lk:I} {Ll:I} {Lm:I} {Ln:I} {Lo:I} {Lp:I} {Lq:I} {Lr:I} {Ls:I} {Lt:I} {Lu:I} {Lv:I} {Lw:I} {Lx:I} {Ly:I} {Lz:I} {LA:I} {LB:I} {LD:I} {LF:I} {LG:I} {k0:ar} {rS:List ar} {T7:p7×p7} (h:MH t without G' (t1,t2) e1=some T7) (Y:List ar) :
  ∃ re,Sem Tryz.prog (.yield (((ar.cells [(.bT [(hU t.1),(p6 t.2 .shared)])]::ar.cells [(hU without)]::k0::ar.cells (t2.map hU)::ar.cells [(qi t1 (.own 1))]::rS)++[ar.cells [(hU (ix G' (0:Int)))]])).length) [(.agg [(hU e1.1),(hU e1.2)])] ((((ar.cells [(.bT [(hU t.1),(p6 t.2 .shared)])]::ar.cells [(hU without)]::k0::ar.cells (t2.map hU)::ar.cells [(qi t1 (.own 1))]::rS)++[ar.cells [(hU (ix G' (0:Int)))]])++[ar.loop .ready none 81 [x',fx,gl,(I.ptr 0 0),Gj,(I.ptr 1 0),LC,(I.ptr 3 0),u8,(I.ptr 4 0),(I.ptr (ar.cells [(.bT [(hU t.1),(p6 t.2 .shared)])]::ar.cells [(hU without)]::k0::ar.cells (s3.map hU)::ar.cells [(qi (G'.drop (1:Int).toNat) (.own 1))]::rS).length 0),K3,K4,K5,K6,K7,u16,K8,K9,K_,La,Lb,Lc,Ko,Ld,Le,Kp,Lf,Lg,Kq,Lh,Li,u32,Lj,Ji,Jj,Jk,Jl,Ie,Ig,Ih,Jm,Lk,Ll,Lm,Ln,Lo,Lp,Lq,Lr,Ls,Lt,Lu,Lv,Lw,Lx,Ly,Lz,LA,LB,LD,LF,LG] [35] (G9 Tryz.prog 81 0) (G_ Tryz.prog 81 0) Ij])++Y) 0 (.bool true) ((((ar.cells [(.bT [(hU t.1),(p6 t.2 .shared)])]::ar.cells [(hU without)]::k0::ar.cells (T7.2.map hU)::ar.cells [(qi T7.1 (.own 1))]::rS)++[ar.cells [(hU (ix G' (0:Int)))]])++[ar.loop .ready none 81 [x',fx,gl,(I.ptr 0 0),Gj,(I.ptr 1 0),LC,(I.ptr 3 0),u8,(I.ptr 4 0),(I.ptr (ar.cells [(.bT [(hU t.1),(p6 t.2 .shared)])]::ar.cells [(hU without)]::k0::ar.cells (s3.map hU)::ar.cells [(qi (G'.drop (1:Int).toNat) (.own 1))]::rS).length 0),K3,K4,K5,K6,K7,u16,K8,K9,K_,La,Lb,Lc,Ko,Ld,Le,Kp,Lf,Lg,Kq,Lh,Li,u32,Lj,Ji,Jj,Jk,Jl,Ie,Ig,Ih,Jm,Lk,Ll,Lm,Ln,Lo,Lp,Lq,Lr,Ls,Lt,Lu,Lv,Lw,Lx,Ly,Lz,LA,LB,LD,LF,LG] [35] (G9 Tryz.prog 81 0) (G_ Tryz.prog 81 0) Ij])++re):=by
 unfold MH at h;refine ⟨Y++[.dead],XL eo afg afh (N' _ _ _) rfl (Oz (by simp)) ?_⟩;unfold aai;conv=>whnf
 refine Es (x:=ar.cells [(hU (0:Int)),(hU (0:Int))]) (by first | exact qn.h | rfl | (simp [se,I.settle];done)) ?_
 conv=>whnf
 rw [rK];refine ⟨rfl,KG _ _ _ _,?_⟩;rw [Mk];unfold aaj;conv=>whnf
 refine Es (x:=ar.cells [(hU e1.1),(hU e1.2)]) (by first | exact qn.h | rfl | (simp [se,I.settle];done)) ?_
 conv=>whnf
 obtain ⟨r2,q_,h⟩:=qj h;refine ⟨ql.pl,_,Ks q_,?_⟩;conv=>whnf
 refine Es (x:=ar.cells [(hU e1.1),(hU e1.2)]) (by first | exact qn.h | rfl | (simp [se,I.settle];done)) ?_
 conv=>whnf
 refine bs h (fun rp h=>?_) fun rp h=>?_
 ·rw [rp];conv=>whnf
  obtain ⟨qP,h⟩:=qB h;refine ⟨⟨qP.1,qP.2.1⟩,?_⟩;replace qP:0≤r2.2∧r2.2<(t2.length:Int):=⟨qP.1,by have:=qP.2;omega⟩;conv=>whnf
  refine KW hU t2 r2.2 qP ?_;conv=>whnf
  refine bs h (fun rO h=>?_) fun rO h=>?_
  ·rw [rO];(conv=>whnf);refine Es (x:=ar.cells [(hU (ix G' (0:Int)))]) (by first | exact qn.h | rfl | (simp [se,I.settle];done)) ?_
   (conv=>whnf);obtain ⟨rz,h⟩:=qB h;refine ⟨⟨rz.1,rz.2.1⟩,?_⟩;replace rz:0≤(ix G' (0:Int))∧(ix G' (0:Int))<(t2.length:Int):=⟨rz.1,by have:=rz.2;omega⟩;(conv=>whnf);refine KW hU t2 (ix G' (0:Int)) rz ?_;(conv=>whnf);obtain ⟨rC,h⟩:=qB h;refine ⟨⟨rC.1,rC.2.1⟩,?_⟩;replace rC:0≤r2.2∧r2.2<(t2.length:Int):=⟨rC.1,by have:=rC.2;omega⟩;(conv=>whnf);refine LH hU t2 r2.2 (w ((ix t2 (ix G' (0:Int)))+(1:Int))) rC ?_;(conv=>whnf);obtain ⟨r4,h⟩:=qB h;refine ⟨by first | rfl | simp,by have:=r4;omega,rfl,r4,?_⟩
   erw [LV hU t1 r2.2];(conv=>whnf);obtain rfl:=Option.some.inj h;show _∧(((((ar.cells [(.bT [(hU t.1),(p6 t.2 .shared)])]::ar.cells [(hU without)]::k0::ar.cells ((t2.set r2.2.toNat (w ((ix t2 (ix G' (0:Int)))+(1:Int)))).map hU)::ar.cells [(qi (t1++[r2.2]) (.own 1))]::rS)++[ar.cells [(hU (ix G' (0:Int)))]])++[ar.loop .busy none 81 [x',fx,gl,(I.ptr 0 0),Gj,(I.ptr 1 0),LC,(I.ptr 3 0),u8,(I.ptr 4 0),(I.ptr (ar.cells [(.bT [(hU t.1),(p6 t.2 .shared)])]::ar.cells [(hU without)]::k0::ar.cells (s3.map hU)::ar.cells [(qi (G'.drop (1:Int).toNat) (.own 1))]::rS).length 0),K3,K4,K5,K6,K7,u16,K8,K9,K_,La,Lb,Lc,Ko,Ld,Le,Kp,Lf,Lg,Kq,Lh,Li,u32,Lj,Ji,Jj,Jk,Jl,Ie,Ig,Ih,Jm,Lk,Ll,Lm,Ln,Lo,Lp,Lq,Lr,Ls,Lt,Lu,Lv,Lw,Lx,Ly,Lz,LA,LB,LD,LF,LG] [35] (G9 Tryz.prog 81 0) (G_ Tryz.prog 81 0) Ij])++Y)++[_])[(((ar.cells [(.bT [(hU t.1),(p6 t.2 .shared)])]::ar.cells [(hU without)]::k0::ar.cells ((t2.set r2.2.toNat (w ((ix t2 (ix G' (0:Int)))+(1:Int)))).map hU)::ar.cells [(qi (t1++[r2.2]) (.own 1))]::rS)++[ar.cells [(hU (ix G' (0:Int)))]])).length]?=_∧lB ((((((ar.cells [(.bT [(hU t.1),(p6 t.2 .shared)])]::ar.cells [(hU without)]::k0::ar.cells ((t2.set r2.2.toNat (w ((ix t2 (ix G' (0:Int)))+(1:Int)))).map hU)::ar.cells [(qi (t1++[r2.2]) (.own 1))]::rS)++[ar.cells [(hU (ix G' (0:Int)))]])++[ar.loop .busy none 81 [x',fx,gl,(I.ptr 0 0),Gj,(I.ptr 1 0),LC,(I.ptr 3 0),u8,(I.ptr 4 0),(I.ptr (ar.cells [(.bT [(hU t.1),(p6 t.2 .shared)])]::ar.cells [(hU without)]::k0::ar.cells (s3.map hU)::ar.cells [(qi (G'.drop (1:Int).toNat) (.own 1))]::rS).length 0),K3,K4,K5,K6,K7,u16,K8,K9,K_,La,Lb,Lc,Ko,Ld,Le,Kp,Lf,Lg,Kq,Lh,Li,u32,Lj,Ji,Jj,Jk,Jl,Ie,Ig,Ih,Jm,Lk,Ll,Lm,Ln,Lo,Lp,Lq,Lr,Ls,Lt,Lu,Lv,Lw,Lx,Ly,Lz,LA,LB,LD,LF,LG] [35] (G9 Tryz.prog 81 0) (G_ Tryz.prog 81 0) Ij])++Y)++[_]).set (((ar.cells [(.bT [(hU t.1),(p6 t.2 .shared)])]::ar.cells [(hU without)]::k0::ar.cells ((t2.set r2.2.toNat (w ((ix t2 (ix G' (0:Int)))+(1:Int)))).map hU)::ar.cells [(qi (t1++[r2.2]) (.own 1))]::rS)++[ar.cells [(hU (ix G' (0:Int)))]])).length _) _;exact ⟨rfl,KG _ _ _ _,by rw [Mk];exact PB _ _ _ _⟩
  ·rw [rO];(conv=>whnf);obtain rfl:=Option.some.inj h;show _∧(((((ar.cells [(.bT [(hU t.1),(p6 t.2 .shared)])]::ar.cells [(hU without)]::k0::ar.cells (t2.map hU)::ar.cells [(qi t1 (.own 1))]::rS)++[ar.cells [(hU (ix G' (0:Int)))]])++[ar.loop .busy none 81 [x',fx,gl,(I.ptr 0 0),Gj,(I.ptr 1 0),LC,(I.ptr 3 0),u8,(I.ptr 4 0),(I.ptr (ar.cells [(.bT [(hU t.1),(p6 t.2 .shared)])]::ar.cells [(hU without)]::k0::ar.cells (s3.map hU)::ar.cells [(qi (G'.drop (1:Int).toNat) (.own 1))]::rS).length 0),K3,K4,K5,K6,K7,u16,K8,K9,K_,La,Lb,Lc,Ko,Ld,Le,Kp,Lf,Lg,Kq,Lh,Li,u32,Lj,Ji,Jj,Jk,Jl,Ie,Ig,Ih,Jm,Lk,Ll,Lm,Ln,Lo,Lp,Lq,Lr,Ls,Lt,Lu,Lv,Lw,Lx,Ly,Lz,LA,LB,LD,LF,LG] [35] (G9 Tryz.prog 81 0) (G_ Tryz.prog 81 0) Ij])++Y)++[_])[(((ar.cells [(.bT [(hU t.1),(p6 t.2 .shared)])]::ar.cells [(hU without)]::k0::ar.cells (t2.map hU)::ar.cells [(qi t1 (.own 1))]::rS)++[ar.cells [(hU (ix G' (0:Int)))]])).length]?=_∧lB ((((((ar.cells [(.bT [(hU t.1),(p6 t.2 .shared)])]::ar.cells [(hU without)]::k0::ar.cells (t2.map hU)::ar.cells [(qi t1 (.own 1))]::rS)++[ar.cells [(hU (ix G' (0:Int)))]])++[ar.loop .busy none 81 [x',fx,gl,(I.ptr 0 0),Gj,(I.ptr 1 0),LC,(I.ptr 3 0),u8,(I.ptr 4 0),(I.ptr (ar.cells [(.bT [(hU t.1),(p6 t.2 .shared)])]::ar.cells [(hU without)]::k0::ar.cells (s3.map hU)::ar.cells [(qi (G'.drop (1:Int).toNat) (.own 1))]::rS).length 0),K3,K4,K5,K6,K7,u16,K8,K9,K_,La,Lb,Lc,Ko,Ld,Le,Kp,Lf,Lg,Kq,Lh,Li,u32,Lj,Ji,Jj,Jk,Jl,Ie,Ig,Ih,Jm,Lk,Ll,Lm,Ln,Lo,Lp,Lq,Lr,Ls,Lt,Lu,Lv,Lw,Lx,Ly,Lz,LA,LB,LD,LF,LG] [35] (G9 Tryz.prog 81 0) (G_ Tryz.prog 81 0) Ij])++Y)++[_]).set (((ar.cells [(.bT [(hU t.1),(p6 t.2 .shared)])]::ar.cells [(hU without)]::k0::ar.cells (t2.map hU)::ar.cells [(qi t1 (.own 1))]::rS)++[ar.cells [(hU (ix G' (0:Int)))]])).length _) _;exact ⟨rfl,KG _ _ _ _,by rw [Mk];exact PB _ _ _ _⟩
 ·rw [rp];conv=>whnf
  obtain rfl:=Option.some.inj h;show _∧(((((ar.cells [(.bT [(hU t.1),(p6 t.2 .shared)])]::ar.cells [(hU without)]::k0::ar.cells (t2.map hU)::ar.cells [(qi t1 (.own 1))]::rS)++[ar.cells [(hU (ix G' (0:Int)))]])++[ar.loop .busy none 81 [x',fx,gl,(I.ptr 0 0),Gj,(I.ptr 1 0),LC,(I.ptr 3 0),u8,(I.ptr 4 0),(I.ptr (ar.cells [(.bT [(hU t.1),(p6 t.2 .shared)])]::ar.cells [(hU without)]::k0::ar.cells (s3.map hU)::ar.cells [(qi (G'.drop (1:Int).toNat) (.own 1))]::rS).length 0),K3,K4,K5,K6,K7,u16,K8,K9,K_,La,Lb,Lc,Ko,Ld,Le,Kp,Lf,Lg,Kq,Lh,Li,u32,Lj,Ji,Jj,Jk,Jl,Ie,Ig,Ih,Jm,Lk,Ll,Lm,Ln,Lo,Lp,Lq,Lr,Ls,Lt,Lu,Lv,Lw,Lx,Ly,Lz,LA,LB,LD,LF,LG] [35] (G9 Tryz.prog 81 0) (G_ Tryz.prog 81 0) Ij])++Y)++[_])[(((ar.cells [(.bT [(hU t.1),(p6 t.2 .shared)])]::ar.cells [(hU without)]::k0::ar.cells (t2.map hU)::ar.cells [(qi t1 (.own 1))]::rS)++[ar.cells [(hU (ix G' (0:Int)))]])).length]?=_∧lB ((((((ar.cells [(.bT [(hU t.1),(p6 t.2 .shared)])]::ar.cells [(hU without)]::k0::ar.cells (t2.map hU)::ar.cells [(qi t1 (.own 1))]::rS)++[ar.cells [(hU (ix G' (0:Int)))]])++[ar.loop .busy none 81 [x',fx,gl,(I.ptr 0 0),Gj,(I.ptr 1 0),LC,(I.ptr 3 0),u8,(I.ptr 4 0),(I.ptr (ar.cells [(.bT [(hU t.1),(p6 t.2 .shared)])]::ar.cells [(hU without)]::k0::ar.cells (s3.map hU)::ar.cells [(qi (G'.drop (1:Int).toNat) (.own 1))]::rS).length 0),K3,K4,K5,K6,K7,u16,K8,K9,K_,La,Lb,Lc,Ko,Ld,Le,Kp,Lf,Lg,Kq,Lh,Li,u32,Lj,Ji,Jj,Jk,Jl,Ie,Ig,Ih,Jm,Lk,Ll,Lm,Ln,Lo,Lp,Lq,Lr,Ls,Lt,Lu,Lv,Lw,Lx,Ly,Lz,LA,LB,LD,LF,LG] [35] (G9 Tryz.prog 81 0) (G_ Tryz.prog 81 0) Ij])++Y)++[_]).set (((ar.cells [(.bT [(hU t.1),(p6 t.2 .shared)])]::ar.cells [(hU without)]::k0::ar.cells (t2.map hU)::ar.cells [(qi t1 (.own 1))]::rS)++[ar.cells [(hU (ix G' (0:Int)))]])).length _) _;exact ⟨rfl,KG _ _ _ _,by rw [Mk];exact PB _ _ _ _⟩
theorem aju {t:qe} {without:Int} {qt:p7→Option p7} {s3:p7} {G':p7} {v:p7} {Q:rM}   (HK:∀ (oH:p7) (bD bQ hf:ar) (rB:List ar) (p8:List I),qt oH=some v→rn 63 [(6,(.ptr 2 0)),(7,(.ptr 3 0))] p8→Q (.exit 2) p8 (bD::bQ::ar.cells ((List.replicate 6 (0:Int)).map hU)::ar.cells (oH.map hU)::hf::rB)) {T:List I} (bW:eX (p_ false [3,1,1,3,1,1,53]) T=Hc 63 [(3,(.ptr 0 0)),(5,(.ptr 1 0)),(6,(.ptr 2 0)),(7,(.ptr 3 0)),(9,(.ptr 4 0))]) (h:MG t without qt p' s3 G'=some v) :
  dO Tryz.prog Ij 81 0 none Rd T [ar.cells [(.bT [(hU t.1),(p6 t.2 .shared)])],ar.cells [(hU without)],ar.cells ((List.replicate 6 (0:Int)).map hU),ar.cells (s3.map hU),ar.cells [(qi G' (.own 1))]] Q:=by
 unfold Rd;obtain ⟨KD,r0⟩:∃ c,Uw=c:=⟨_,rfl⟩;rw [r0];refine wp_loop bW ?_;refine .intro (fun m T H=>∃ (s3 G':p7) (rS:List ar),T=Hc 63 [(3,(.ptr 0 0)),(5,(.ptr 1 0)),(6,(.ptr 2 0)),(7,(.ptr 3 0)),(9,(.ptr 4 0))]∧H=(ar.cells [(.bT [(hU t.1),(p6 t.2 .shared)])]::ar.cells [(hU without)]::ar.cells ((List.replicate 6 (0:Int)).map hU)::ar.cells (s3.map hU)::ar.cells [(qi G' (.own 1))]::rS)∧MG t without qt m s3 G'=some v) p' ⟨s3,G',[],rfl,rfl,h⟩ ?_;clear h bW;rintro m T H ⟨s3,G',rS,rfl,rfl,h⟩;cases m
 ·exact ri h
 rename_i m;rw [MG.eq_2] at h;conv=>whnf
 refine bs h (fun qS h=>?_) fun qS h=>?_
 ·rw [qS];conv=>whnf
  refine qs h id fun qY h=>?_;rw [Hh hU G' (0:Int) qY];conv=>whnf
  refine Es (x:=ar.cells [(hU (0:Int))]) (by first | exact qn.h | rfl | (simp [se,I.settle];done)) ?_
  conv=>whnf
  rw [rK];obtain ⟨rJ,h⟩:=qB h;refine ⟨⟨rfl,rJ⟩,?_⟩;erw [aha hU G' (1:Int) rJ];conv=>whnf
  refine Es (x:=ar.cells [(hU (ix G' (0:Int)))]) (by first | exact qn.h | rfl | (simp [se,I.settle];done)) ?_
  conv=>whnf
  obtain ⟨r1,ra,h⟩:=qj h;refine ⟨ql.pl,_,ZF ra,?_⟩;conv=>whnf
  obtain ⟨dI,I8,h⟩:=qj h;obtain ⟨eI,Hz,h⟩:=qj h;obtain ⟨MP,Wb,Wc,bE⟩:=PF Hz;subst r0;unfold Uw;refine Xz (f:=fun (e1:(Int×Int))=>(.agg [(hU e1.1),(hU e1.2)])) (XJ I8) (fun i=>((ar.cells [(.bT [(hU t.1),(p6 t.2 .shared)])]::ar.cells [(hU without)]::ar.cells ((List.replicate 6 (0:Int)).map hU)::ar.cells (((MP i).2).map hU)::ar.cells [(qi ((MP i).1) (.own 1))]::rS)++[ar.cells [(hU (ix G' (0:Int)))]])) (by exact rfl) (by show ((ar.cells [(.bT [(hU t.1),(p6 t.2 .shared)])]::ar.cells [(hU without)]::ar.cells ((List.replicate 6 (0:Int)).map hU)::ar.cells (((MP 0).2).map hU)::ar.cells [(qi ((MP 0).1) (.own 1))]::rS)++[ar.cells [(hU (ix G' (0:Int)))]])=_;first | (rw [Wb];done) | (rw [Wb];rfl)) (fun _=>rfl) ?_ (rl:=none) (by exact rfl) (Hn:=((ar.cells [(.bT [(hU t.1),(p6 t.2 .shared)])]::ar.cells [(hU without)]::ar.cells ((List.replicate 6 (0:Int)).map hU)::ar.cells (eI.2.map hU)::ar.cells [(qi eI.1 (.own 1))]::rS)++[ar.cells [(hU (ix G' (0:Int)))]])) (by show ((ar.cells [(.bT [(hU t.1),(p6 t.2 .shared)])]::ar.cells [(hU without)]::ar.cells ((List.replicate 6 (0:Int)).map hU)::ar.cells (((MP dI.length).2).map hU)::ar.cells [(qi ((MP dI.length).1) (.own 1))]::rS)++[ar.cells [(hU (ix G' (0:Int)))]])=_;first | (rw [Wc];done) | (rw [Wc];rfl)) (fun ajW=>?_)
  ·intro i hi Y;exact ajx (s3:=s3) (bE i hi) Y
  conv=>whnf
  exact ⟨m,su m,eI.2,eI.1,_,rfl,rfl,h⟩
 ·rw [qS];conv=>whnf
  exact HK _ _ _ _ _ _ h ⟨rfl,rfl⟩
theorem ajv {t:qe} {to:Int} {without:Int} {v:p7} (h:O6 t to without=some v):qw 81 [(.bT [(hU t.1),(.ax (t.2.flatMap p2) t.2.length .shared)]),(hU to),(hU without)] (.agg ((v.map hU))):=by
 refine q7 eo aff rfl (JY (Qb (fun _=>rfl) _)) fun Q bo=>?_;have jB:qK [.cell 6 (.arr 6)] Q (fun v=>(.agg ((v.map hU)))) v:=fun T H bH=>bo _ T H bH;unfold O6 at h;unfold aah;obtain ⟨HV,qO⟩:∃ c,Rc=c:=⟨_,rfl⟩;rw [qO];obtain ⟨Ps,Ip⟩:∃ c,Rd=c:=⟨_,rfl⟩;rw [Ip];conv=>whnf
 subst qO;refine ajt ?_ (by exact rfl) h;intro yg p8 h qm;obtain ⟨rf,rfl⟩:=qm.ex;conv=>whnf
 obtain ⟨qo,h⟩:=qB h;refine ⟨⟨qo.1,qo.2.1⟩,?_⟩;replace qo:0≤to∧to<(yg.length:Int):=⟨qo.1,by have:=qo.2;omega⟩;conv=>whnf
 refine LH hU yg to (0:Int) qo ?_;conv=>whnf
 subst Ip;refine aju ?_ (by exact rfl) h;intro oH bD bQ hf rB p8 h qm;obtain ⟨rf,rfl⟩:=qm.ex;conv=>whnf
 obtain ⟨I9,h⟩:=qB h;refine ⟨by simp [I9],?_⟩;rw [Sz hU oH (fun _=>rfl) I9];conv=>whnf
 obtain ⟨Hr,h⟩:=qB h
 try rw [show List.map I.gY (List.map hU oH)=List.map hU oH from by rw [tp];rfl]
 first | (refine XU hU oH (n:=6) (l:=(List.replicate 6 (0:Int))) (sC _) (fun _=>rfl) (by first | exact qn.h | rfl | (simp [se,I.settle];done)) Hr.1 Hr.2 (by decide) ?_) | (rw [show Nat.beq (List.map hU oH).length 6=true from by rw [List.length_map,Hr.1] <;> exact Nat.beq_refl _];refine T5 hU (List.replicate 6 (0:Int)) oH (fun _=>rfl) (by rw [Hr.1,Hr.2]) ?_)
 conv=>whnf
 obtain ⟨Jv,h⟩:=qB h;obtain rfl:=Option.some.inj h;exact jB _ _ ⟨.inr rfl,_,agM (l:=oH) (by rfl) (by first | exact qn.h | rfl | (simp [se,I.settle];done)) Jv,_,o9 (JY (Qb (fun _=>rfl) _)),(by show I.agg (List.map I.gY (List.map _ _))=_;rw [tp];rfl)⟩
end Go.Proofs.YtfakoboiahbhaaaGreat.Ab


namespace Go.Proofs.YtfakoboiahbhaaaGreat.Ab
open Go
def Ht (b:p5) (wo f g:Int):Prop:=∃ p∈places b f,p.1≠wo∧fin b p=g
def Hk (b:p5) (wo:Int):Nat→Int→Int→Prop
 | 0,a,g=>a=g
 | n+1,a,g=>∃ f,Hk b wo n a f∧Ht b wo f g
def Qy (b:p5) (wo f:Int) (s:List Int×List Int) (p:Int×Int):List Int×List Int :=
 if p.1≠wo∧ix s.2 (fin b p)<0 then (s.1++[fin b p],s.2.set (fin b p).toNat (ix s.2 f+1)) else s
theorem afP {n r:Nat} (h:r<2*n):0≤(q9 r).1∧(q9 r).1<(n:Int)∧0≤(q9 r).2∧(q9 r).2≤1:=by
 unfold q9;simp only;omega
theorem SO {b:p5} {f:Int} {p:Int×Int} (h:p∈places b f):0≤p.1∧p.1<(b.2.length:Int)∧0≤p.2∧p.2≤1∧qx b p=f:=by
 unfold places at h;obtain ⟨r,aj,rfl⟩:=sk.1 h;obtain ⟨ad,af⟩:=sP.1 aj;have:=afP (sK.1 ad);exact ⟨this.1,this.2.1,this.2.2.1,this.2.2.2,by simpa [rH] using af⟩
theorem P2 {l:List (Int×Int)} {i:Int} (h:0≤i∧i<(l.length:Int)):ix l i∈l:=by
 obtain ⟨k,rfl⟩:∃ k:Nat,i=(k:Int):=⟨i.toNat,by omega⟩;rw [q3 (by omega)];exact sI _
theorem PD {b:p5} (p3:qA b) {f:Int} {p:Int×Int} (h:p∈places b f):0≤fin b p∧fin b p<b.1:=by
 have h:=SO h;have hm:=P2 (l:=b.2) ⟨h.1,h.2.1⟩;unfold fin;split
 ·exact p3.left _ hm
 ·exact p3.right _ hm
def IH (D:List Int):Nat:=D.countP fun x=>decide (x<0)
theorem RR:∀ (D:List Int) (j:Nat) (x:Int) (h:j<D.length),D[j]<0→0≤x→IH (D.set j x)+1=IH D
 | a::D,0,x,_,ad,af=>by
   have ad:a<0:=ad;simp [IH,List.countP_cons,ad,show ¬ x<0 by omega]
 | a::D,j+1,x,h,ad,af=>by
   have:=RR D j x (by simpa using h) ad af;simp only [IH,List.set_cons_succ,List.countP_cons] at this ⊢;omega
theorem ajw {b:p5} (p3:qA b) {wo f:Int} {Q0:List Int} (aP:ix Q0 (0:Int)=f∧0≤f∧f<b.1) {s:List Int×List Int} {p:Int×Int} (aB:p∈places b f) (ao:s.2.length=6) (aj:s.1.length+IH s.2≤1000) (a2:-1≤ix s.2 f∧ix s.2 f≤100) :
  MH b wo Q0 s p=some (Qy b wo f s p):=by
 obtain ⟨t1,t2⟩:=s;have g6:=SO aB;have pv:=PD p3 aB;have bS:=p3.f6;simp only at ao aj a2;rw [MH];simp only [Kr ⟨g6.1,g6.2.1⟩,sc,aP.1];unfold Qy;by_cases ad:p.1≠wo
 ·rw [if_pos (decide_eq_true ad),qg ⟨by omega,by omega,ao.symm⟩];by_cases af:ix t2 (fin b p)<0
  ·rw [if_pos (decide_eq_true af),qg ⟨by omega,by omega,ao.symm⟩,qg ⟨by omega,by omega,ao.symm⟩,qg (by omega),HT (by omega),if_pos ⟨ad,af⟩]
  ·rw [if_neg (by simpa using af),if_neg (by simp [af])]
 ·rw [if_neg (by simpa using ad),if_neg (by simp [ad])]
structure MO (b:p5) (wo f:Int) (Q0 D0:List Int) (HE:List (Int×Int)) (s:List Int×List Int):Prop where
 len:s.2.length=6
 VG:s.1.length+IH s.2=Q0.length+IH D0
 fN:∀ g:Nat,g<6→0≤ix D0 (g:Int)→ix s.2 (g:Int)=ix D0 (g:Int)
 new:∀ g:Nat,g<6→ix D0 (g:Int)<0→ix s.2 (g:Int)=ix D0 (g:Int)∨(ix s.2 (g:Int)=ix D0 f+1∧Ht b wo f (g:Int)∧(g:Int)∈s.1)
 akq:∃ N,s.1=Q0++N∧∀ g∈N,0≤g∧g<b.1∧ix s.2 g=ix D0 f+1
 HE:∀ p∈HE,p.1≠wo→0≤ix s.2 (fin b p)
theorem MO.step {b:p5} (p3:qA b) {wo f:Int} {Q0 D0:List Int} (aP:0≤f∧f<b.1) (a2:0≤ix D0 f) {HE:List (Int×Int)} {s:List Int×List Int} (h:MO b wo f Q0 D0 HE s) {p:Int×Int} (aB:p∈places b f):MO b wo f Q0 D0 (HE++[p]) (Qy b wo f s p):=by
 obtain ⟨Q,D⟩:=s;obtain ⟨ad,af,aG,a5,⟨N,bL,bS⟩,cI⟩:=h;simp only at ad af aG a5 bL bS cI;have pv:=PD p3 aB;have Ob:=p3.f6;obtain ⟨a,cb⟩:∃ a:Nat,fin b p=(a:Int):=⟨(fin b p).toNat,by omega⟩;obtain ⟨c,al⟩:∃ c:Nat,f=(c:Int):=⟨f.toNat,by omega⟩;have V':ix D f=ix D0 f:=by rw [al];exact aG c (by omega) (by rw [←al];exact a2)
 unfold Qy;by_cases ak:p.1≠wo∧ix D (fin b p)<0
 ·rw [if_pos ak,cb,th,V'];have Sw:ix D (a:Int)<0:=by rw [←cb];exact ak.2
  have Oc:ix D0 (a:Int)<0:=by
   refine Classical.byContradiction fun bH=>?_;have:=aG a (by omega) (by omega);omega
  have ac4:D[a]'(by omega)<0:=by rw [q3 (by omega)] at Sw;exact Sw
  have nN:ix (D.set a (ix D0 f+1)) (a:Int)=ix D0 f+1:=Md (by omega);refine ⟨by simpa using ad,?_,fun g aO y0=>?_,fun g aO y0=>?_,⟨N++[(a:Int)],by simp [bL],fun g aO=>?_⟩,fun q aZ PZ=>?_⟩
  ·have:=RR D a (ix D0 f+1) (by omega) ac4 (by omega);simp only [sr,List.length_singleton];omega
  ·(have bN:g≠a:=fun e=>by subst e;omega);simp only;rw [Ke bN];exact aG g aO y0
  ·by_cases On:g=a
   ·subst On;exact .inr ⟨nN,⟨p,aB,ak.1,cb⟩,by simp⟩
   ·simp only;rw [Ke On];rcases a5 g aO y0 with e | ⟨e,b',du⟩
    ·exact .inl e
    ·exact .inr ⟨e,b',by simp [du]⟩
  ·rcases sN.1 aO with aO | aO
   ·obtain ⟨aJ,aQ,cn⟩:=bS g aO;obtain ⟨GJ,rfl⟩:∃ GJ:Nat,g=(GJ:Int):=⟨g.toNat,by omega⟩;refine ⟨aJ,aQ,?_⟩;by_cases On:GJ=a
    ·subst On;exact nN
    ·simp only;rw [Ke On];exact cn
   ·simp only [sO] at aO;subst aO;exact ⟨by omega,by omega,nN⟩
  ·have key:0≤ix D (fin b q)∨fin b q=(a:Int):=by
    rcases sN.1 aZ with aZ | aZ
    ·exact .inl (cI q aZ PZ)
    ·simp only [sO] at aZ;subst aZ;exact .inr cb
   rcases key with key | key
   ·rcases Classical.em (fin b q=(a:Int)) with e | e
    ·simp only;rw [e,nN];omega
    ·have:ix (D.set a (ix D0 f+1)) (fin b q)=ix D (fin b q):=by
      unfold ix;rcases uJ (fin b q) 0 with aN | aN
      ·(have fY:(fin b q).toNat=0:=by omega);rw [fY];rw [sE];by_cases Wf:a=0
       ·subst Wf;exfalso;have k:=key;unfold ix at k;rw [fY,sE] at k;rw [q3 (by omega)] at Sw;rw [sm (by omega)] at k;simp at k;omega
       ·rw [sj Wf];rfl
      ·rw [sE,sj (by omega)];rfl
     simp only;rw [this];exact key
   ·simp only;rw [key,nN];omega
 ·rw [if_neg ak];refine ⟨ad,af,aG,a5,⟨N,bL,bS⟩,fun q aZ PZ=>?_⟩;rcases sN.1 aZ with aZ | aZ
  ·exact cI q aZ PZ
  ·simp only [sO] at aZ;subst aZ
   have:¬ ix D (fin b q)<0:=fun e=>ak ⟨PZ,e⟩
   simp only;omega
theorem V0 {b:p5} (p3:qA b) {wo f:Int} {Q0 D0:List Int} (aP:0≤f∧f<b.1) (a2:0≤ix D0 f) (ady:ix D0 f≤50) {Qh:List Int} (aZ:ix Qh (0:Int)=f) (et:Q0.length+IH D0≤100):∀ (l HE:List (Int×Int)) (s:List Int×List Int),(∀ p∈l,p∈places b f)→MO b wo f Q0 D0 HE s →
  ∃ aF,H9 (MH b wo Qh) l s=some aF∧MO b wo f Q0 D0 (HE++l) aF
 | [],HE,s,_,h=>⟨s,rfl,by simpa using h⟩
 | p::l,HE,s,ao,h=>by
   have aB:=ao p (by simp);have Ob:=p3.f6;obtain ⟨c,al⟩:∃ c:Nat,f=(c:Int):=⟨f.toNat,by omega⟩;(have V':ix s.2 f=ix D0 f:=by rw [al];exact h.fN c (by omega) (by rw [←al];exact a2));obtain ⟨aF,e1,b'⟩:=V0 p3 aP a2 ady aZ et l (HE++[p]) _ (fun q aZ=>ao q (by simp [aZ])) (h.step p3 aP a2 aB);have h0:=h.VG;refine ⟨aF,?_,by simpa using b'⟩;rw [H9,ajw p3 ⟨aZ,aP⟩ aB h.len (by omega) (by omega),sc];exact e1
structure JH (b:p5) (wo to:Int) (Q D:List Int):Prop where
 len:D.length=6
 q:∀ f∈Q,0≤f∧f<b.1∧0≤ix D f
 room:Q.length+IH D≤6
 small:∀ g:Nat,g<6→0≤ix D (g:Int)→ix D (g:Int)+IH D≤5
 walk:∀ g:Nat,g<6→0≤ix D (g:Int)→Hk b wo (ix D (g:Int)).toNat to (g:Int)
 sort:Q.Pairwise fun x y=>ix D x≤ix D y
 top:∀ f r,Q=f::r→∀ g:Nat,g<6→ix D (g:Int)≤ix D f+1
 proc:∀ g:Nat,g<6→0≤ix D (g:Int)→(g:Int) ∉ Q→∀ h,Ht b wo (g:Int) h→0≤ix D h∧ix D h≤ix D (g:Int)+1
 zero:0≤to∧to<6∧ix D to=0
theorem Ht.in {b:p5} (p3:qA b) {wo f g:Int} (h:Ht b wo f g):0≤g∧g<b.1:=by
 obtain ⟨p,ad,_,rfl⟩:=h;exact PD p3 ad
theorem JH.next {b:p5} (p3:qA b) {wo to f:Int} {r D:List Int} (h:JH b wo to (f::r) D) {s:List Int×List Int} (ai:MO b wo f r D (places b f) s):JH b wo to s.1 s.2:=by
 obtain ⟨cF,J8⟩:=s;obtain ⟨aJ,aQ,cn,mD,⟨N,DN,Me⟩,WC⟩:=ai;simp only at aJ aQ cn mD DN Me WC;subst DN;have Ob:=p3.f6;have Wj:=h.q f (by simp);obtain ⟨c,al⟩:∃ c:Nat,f=(c:Int):=⟨f.toNat,by omega⟩;have y8:∀ g:Int,0≤g→g<6→∃ n:Nat,g=(n:Int)∧n<6:=fun g ad af=>⟨g.toNat,by omega,by omega⟩;have hold:∀ g:Int,0≤g→g<6→0≤ix D g→ix J8 g=ix D g:=fun g ad af aG=>by
  obtain ⟨n,rfl,aN⟩:=y8 g ad af;exact cn n aN aG
 have hle:∀ g:Nat,g<6→ix J8 (g:Int)≤ix D f+1:=fun g aO=>by
  rcases uJ (ix D (g:Int)) 0 with aU | aU
  ·rcases mD g aO aU with e | e
   ·omega
   ·omega
  ·rw [cn g aO aU];exact h.top f r rfl g aO
 have aj:∀ x∈r,0≤x∧x<b.1∧0≤ix D x∧ix J8 x=ix D x:=fun x ak=>by
  have:=h.q x (by simp [ak]);exact ⟨this.1,this.2.1,this.2.2,hold x this.1 (by omega) this.2.2⟩
 have DE:=tB.1 h.sort;have et:=h.room;simp only [sM] at et;refine ⟨aJ,fun g aO=>?_,by simp only;omega,fun g aO aU=>?_,fun g aO aU=>?_,?_,fun N1 r' he g aO=>?_,fun g aO aU Sq aX he=>?_,⟨h.zero.1,h.zero.2.1,by simp only;rw [hold to h.zero.1 h.zero.2.1 (by have:=h.zero.2.2;omega)];exact h.zero.2.2⟩⟩
 ·rcases sN.1 aO with aO | aO
  ·have:=aj g aO;exact ⟨this.1,this.2.1,by simp only;omega⟩
  ·have:=Me g aO;exact ⟨this.1,this.2.1,by simp only;omega⟩
 ·have CY:=h.small c (by omega) (by rw [←al];omega);rw [←al] at CY;simp only [sr] at aQ;rcases uJ (ix D (g:Int)) 0 with ad | ad
  ·rcases mD g aO ad with e | e
   ·simp only at aU;omega
   ·have CC:1≤N.length:=by
     rcases sN.1 e.2.2 with du | du
     ·have:=(aj _ du).2.2.1;omega
     ·exact wj du
    simp only;omega
  ·have:=h.small g aO ad;simp only;rw [cn g aO ad];omega
 ·rcases uJ (ix D (g:Int)) 0 with ad | ad
  ·rcases mD g aO ad with e | ⟨e,b',_⟩
   ·simp only at aU;omega
   ·simp only;rw [e,show (ix D f+1).toNat=(ix D f).toNat+1 by omega];exact ⟨f,by have:=h.walk c (by omega) (by rw [←al];omega);rw [al];rw [←al] at this ⊢;exact this,b'⟩
  ·simp only;rw [cn g aO ad];exact h.walk g aO ad
 ·simp only;rw [uC];refine ⟨DE.2.imp_of_mem fun {x y} ak aY Ib=>by rw [(aj x ak).2.2.2,(aj y aY).2.2.2];exact Ib,?_,fun x ak y aY=>?_⟩
  ·exact List.Pairwise.imp_of_mem (R:=fun _ _=>True) (fun {x y} ak aY _=>by rw [(Me x ak).2.2,(Me y aY).2.2];omega) (List.pairwise_of_forall fun _ _=>trivial)
  ·obtain ⟨n,rfl,aN⟩:=y8 x (aj x ak).1 (by have:=(aj x ak).2.1;omega);rw [(Me y aY).2.2];exact hle n aN
 ·simp only at he ⊢;have akf:ix D f≤ix J8 N1:=by
   (have hm:N1∈r++N:=by rw [he];simp);rcases sN.1 hm with hm | hm
   ·rw [(aj N1 hm).2.2.2];exact DE.1 N1 hm
   ·rw [(Me N1 hm).2.2];omega
  have:=hle g aO;omega
 ·simp only at aU Sq ⊢;have bH:=Ht.in p3 he;rcases Classical.em ((g:Int)=f) with e | e
  ·rw [e] at he ⊢;obtain ⟨n,rfl,aN⟩:=y8 aX bH.1 (by omega);rw [hold f Wj.1 (by omega) Wj.2.2];obtain ⟨p,bR,bY,ea⟩:=he;exact ⟨by rw [←ea];exact WC p bR bY,hle n aN⟩
  ·rcases uJ (ix D (g:Int)) 0 with ad | ad
   ·rcases mD g aO ad with b' | ⟨_,_,du⟩
    ·omega
    ·exact absurd du Sq
   ·have:=h.proc g aO ad (fun hm=>by
     rcases sq.1 hm with b' | b'
     ·exact e b'
     ·exact Sq (List.mem_append_left _ b')) aX he
    rw [cn g aO ad,hold aX bH.1 (by omega) this.1];exact this
theorem Zz {b:p5} (p3:qA b) {wo to:Int} {k:List Int→Option (List Int)}:∀ (m:Nat) (Q D:List Int),JH b wo to Q D→Q.length+IH D<m→∃ J8,JH b wo to [] J8∧MG b wo k m D Q=k J8
 | 0,_,_,_,h=>absurd h (by omega)
 | m+1,Q,D,cl,hm=>by
   rw [MG];have Ob:=p3.f6;have ao:=p3.len;cases Q with
   | nil=>rw [if_neg (by simp)];exact ⟨D,cl,rfl⟩
   | cons f r =>
     have aP:=cl.q f (by simp);obtain ⟨c,al⟩:∃ c:Nat,f=(c:Int):=⟨f.toNat,by omega⟩;have aea:=cl.small c (by omega) (by rw [←al];omega);rw [←al] at aea;have et:=cl.room;simp only [sM] at et hm;obtain ⟨aF,e1,b'⟩:=V0 p3 ⟨aP.1,aP.2.1⟩ aP.2.2 (by omega) (Qh:=f::r) rfl (by omega) (Q0:=r) (D0:=D) (wo:=wo) (places b f) [] (r,D) (fun p h=>h) ⟨cl.len,rfl,fun _ _ _=>rfl,fun _ _ _=>.inl rfl,⟨[],by simp,by simp⟩,by simp⟩;rw [tN] at b';have h0:=b'.VG;obtain ⟨J8,d1,d2⟩:=Zz p3 m aF.1 aF.2 (JH.next p3 cl b') (by omega);refine ⟨J8,d1,?_⟩;rw [if_pos (decide_eq_true (by simp)),qg (by simp),qg ⟨by omega,by simp only [sM];omega⟩,show ix (f::r) (0:Int)=f from rfl,QP,sc,KZ,if_pos (by omega),sc];show ((H9 (MH b wo (f::r)) (places b f) (r,D)).bind _)=_;rw [e1,sc];exact d2
structure MQ (b:p5) (wo to:Int) (D:List Int):Prop where
 len:D.length=6
 walk:∀ g:Nat,g<6→0≤ix D (g:Int)→Hk b wo (ix D (g:Int)).toNat to (g:Int)
 least:∀ (n:Nat) (g:Int),Hk b wo n to g→0≤g∧g<6∧0≤ix D g∧ix D g≤n
 small:∀ g:Nat,g<6→ix D (g:Int)≤5
theorem JH.acI {b:p5} (p3:qA b) {wo to:Int} {D:List Int} (h:JH b wo to [] D):MQ b wo to D:=by
 have Ob:=p3.f6;refine ⟨h.len,h.walk,fun n=>?_,fun g aO=>?_⟩
 ·induction n with
  | zero =>
    intro g aO;have aO:to=g:=aO;subst aO;have:=h.zero;exact ⟨this.1,this.2.1,by omega,by omega⟩
  | succ n a9 =>
    rintro g ⟨f,ad,af⟩;obtain ⟨i1,i2,i3,i4⟩:=a9 f ad;obtain ⟨c,rfl⟩:∃ c:Nat,f=(c:Int):=⟨f.toNat,by omega⟩;have aB:=h.proc c (by omega) i3 (by simp) g af;have hi:=Ht.in p3 af;exact ⟨hi.1,by omega,aB.1,by omega⟩
 ·rcases uJ (ix D (g:Int)) 0 with ad | ad
  ·omega
  ·have:=h.small g aO ad;omega
theorem Zy {k:List Int→Option (List Int)}:∀ (m i:Nat) (z:Int) (D:List Int),z=i→i≤6→6-i<m→D.length=6→(∀ j:Nat,j<i→ix D (j:Int)=-1)→MF k m z D=k (List.replicate 6 (-1))
 | 0,i,_,_,_,_,h,_,_=>absurd h (by omega)
 | m+1,i,_,D,rfl,hi,hm,ao,qZ=>by
   rw [MF];by_cases h:i<6
   ·rw [if_pos (decide_eq_true (by omega)),qg ⟨by omega,by omega,ao.symm⟩,rG i (by omega),th];refine Zy m (i+1) _ _ rfl (by omega) (by omega) (by simpa using ao) fun j aw=>?_;by_cases g5:j=i
    ·subst g5;exact Md (by omega)
    ·rw [Ke g5];exact qZ j (by omega)
   ·rw [if_neg (by simp;omega)];congr 1;refine List.ext_getElem (by simp [ao]) fun j ad af=>?_;have:=qZ j (by omega);rw [q3 ad] at this;rw [this,wk]
theorem Zx {b:p5} (p3:qA b) {wo to:Int} (ay:0≤to∧to<b.1):∃ D,O6 b to wo=some D∧MQ b wo to D:=by
 have Ob:=p3.f6;obtain ⟨c,al⟩:∃ c:Nat,to=(c:Int):=⟨to.toNat,by omega⟩;subst al;have nN:ix ((List.replicate 6 (-1:Int)).set c 0) (c:Int)=0:=Md (by simp;omega);have PY:∀ g:Nat,g<6→g≠c→ix ((List.replicate 6 (-1:Int)).set c 0) (g:Int)=-1:=fun g aO bN=>by
  rw [Ke bN,q3 (by rw [List.length_replicate];omega),wk]
 have Sm:IH ((List.replicate 6 (-1:Int)).set c 0)=5:=by
  have:=RR (List.replicate 6 (-1:Int)) c 0 (by rw [List.length_replicate];omega) (by rw [wk];omega) (by omega);have e:IH (List.replicate 6 (-1:Int))=6:=by decide
  omega
 have cl:JH b wo (c:Int) [(c:Int)] ((List.replicate 6 (-1:Int)).set c 0):=by
  refine ⟨by simp,fun f aP=>?_,by rw [Sm];simp,fun g aO aU=>?_,fun g aO aU=>?_,by simp,fun f r he g aO=>?_,fun g aO aU aN h he=>?_,⟨by omega,by omega,nN⟩⟩
  ·simp only [sO] at aP;subst aP;exact ⟨ay.1,ay.2,by rw [nN];omega⟩
  ·by_cases e:g=c
   ·subst e;rw [nN,Sm];omega
   ·rw [PY g aO e] at aU;omega
  ·by_cases e:g=c
   ·subst e;rw [nN];exact rfl
   ·rw [PY g aO e] at aU;omega
  ·simp only [List.cons.injEq] at he;obtain ⟨rfl,_⟩:=he;rw [nN];by_cases e:g=c
   ·subst e;rw [nN];omega
   ·rw [PY g aO e];omega
  ·by_cases e:g=c
   ·subst e;simp at aN
   ·rw [PY g aO e] at aU;omega
 obtain ⟨D,d1,d2⟩:=Zz p3 (k:=fun oH =>
         p9 (oH.length=6) <|
         p9 (oH.length=6∧(List.replicate 6 (0:Int)).length=6) <|
         p9 (oH.length=6) <|
         some oH) p' _ _ cl (rL (by rw [Sm];simp))
 refine ⟨D,?_,JH.acI p3 d1⟩;rw [O6,Zy p' 0 0 _ rfl (by omega) (rL (by omega)) (by simp) (fun j aw=>absurd aw (by omega)),qg ⟨by omega,by omega,by simp⟩,th,d2];have:=d1.len;rw [qg this,qg ⟨this,by simp⟩,qg this]
end Go.Proofs.YtfakoboiahbhaaaGreat.Ab


namespace Go.Proofs.YtfakoboiahbhaaaGreat.Ab
open Go
set_option maxRecDepth 20000
set_option maxHeartbeats 4000000
end Go.Proofs.YtfakoboiahbhaaaGreat.Ab


namespace Go.Proofs.YtfakoboiahbhaaaGreat.Ab
open Go
theorem KT {b:p5} {f:Int} {p:Int×Int}:p∈places b f↔0≤p.1∧p.1<(b.2.length:Int)∧0≤p.2∧p.2≤1∧qx b p=f:=by
 refine ⟨SO,fun ⟨ad,af,aG,a5,bL⟩=>?_⟩;have e:q9 (2*p.1.toNat+p.2.toNat)=p:=by
  rw [P' (n:=b.2.length) (by omega) (by omega)];exact Prod.ext (by simp only;omega) (by simp only;omega)
 refine sk.2 ⟨2*p.1.toNat+p.2.toNat,sP.2 ⟨sK.2 (by omega),?_⟩,e⟩;rw [rH,e];exact decide_eq_true bL
def L2 (p:Int×Int):Int×Int:=(p.1,1-p.2)
theorem abP {b:p5} {p:Int×Int} (h:0≤p.2∧p.2≤1):qx b (L2 p)=fin b p:=by
 unfold qx fin L2;simp only;by_cases ad:0<p.2
 ·rw [if_neg (by omega),if_pos ad]
 ·rw [if_pos (by omega),if_neg ad]
theorem acP {b:p5} {p:Int×Int} (h:0≤p.2∧p.2≤1):fin b (L2 p)=qx b p:=by
 unfold qx fin L2;simp only;by_cases ad:0<p.2
 ·rw [if_neg (by omega),if_pos ad]
 ·rw [if_pos (by omega),if_neg ad]
theorem Ht.symm {b:p5} {wo f g:Int} (h:Ht b wo f g):Ht b wo g f:=by
 obtain ⟨p,ad,af,aG⟩:=h;have aB:=KT.1 ad;exact ⟨L2 p,KT.2 ⟨aB.1,aB.2.1,by simp only [L2];omega,by simp only [L2];omega,by rw [abP ⟨aB.2.2.1,aB.2.2.2.1⟩,aG]⟩,af,by rw [acP ⟨aB.2.2.1,aB.2.2.2.1⟩,aB.2.2.2.2]⟩
theorem Hk.cons {b:p5} {wo:Int}:∀ {n:Nat} {a c g:Int},Ht b wo a c→Hk b wo n c g→Hk b wo (n+1) a g
 | 0,a,c,g,h,(k:c=g)=>⟨a,rfl,k ▸ h⟩
 | n+1,a,c,g,h,⟨f,aJ,aQ⟩=>⟨f,Hk.cons h aJ,aQ⟩
theorem Hk.symm {b:p5} {wo:Int}:∀ {n:Nat} {a g:Int},Hk b wo n a g→Hk b wo n g a
 | 0,_,_,(h:_=_)=>h.symm
 | _+1,_,_,⟨_,ad,af⟩=>Hk.cons af.symm ad.symm
theorem Hk.gS {b:p5} {wo:Int} {n:Nat} {a g:Int} (h:Hk b wo (n+1) a g):∃ c,Ht b wo a c∧Hk b wo n c g:=by
 obtain ⟨f,ad,af⟩:=h.symm;exact ⟨f,af.symm,ad.symm⟩
theorem afw {b:p5} (p3:qA b) {wo to f:Int} {D:List Int} (qZ:MQ b wo to D) {n:Nat} (aP:0≤f∧f<6) (aN:ix D f=((n+1:Nat):Int)):∃ p∈places b f,p.1≠wo∧ix D (fin b p)=(n:Int):=by
 obtain ⟨c,rfl⟩:∃ c:Nat,f=(c:Int):=⟨f.toNat,by omega⟩;have hw:=qZ.walk c (by omega) (by omega);rw [aN] at hw;obtain ⟨e,he,hw⟩:=hw.symm.gS;have ao:=qZ.least n e hw.symm;have It:(n:Int)≤ix D e:=by
  refine Classical.byContradiction fun bH=>?_;have af:=qZ.walk e.toNat (by omega) (by rw [tS ao.1];exact ao.2.2.1);rw [tS ao.1] at af;have:=(qZ.least ((ix D e).toNat+1) (c:Int) ⟨e,af,he.symm⟩).2.2.2;omega
 obtain ⟨p,ad,af,aG⟩:=he;exact ⟨p,ad,af,by rw [aG];omega⟩
end Go.Proofs.YtfakoboiahbhaaaGreat.Ab


namespace Go.Proofs.YtfakoboiahbhaaaGreat.Ab
open Go
set_option maxRecDepth 20000
set_option maxHeartbeats 4000000

end Go.Proofs.YtfakoboiahbhaaaGreat.Ab


namespace Go.Proofs.YtfakoboiahbhaaaGreat.Ab
open Go
set_option maxRecDepth 20000
set_option maxHeartbeats 4000000

end Go.Proofs.YtfakoboiahbhaaaGreat.Ab


namespace Go.Proofs.YtfakoboiahbhaaaGreat.Ab
open Go
def akr (r:Row) (s:Int):Bool:=r.any fun q=>decide (q.1=s)
theorem VP {b:p5} (p3:qA b) {wo to:Int} {D:List Int} (qZ:MQ b wo to D):∀ (n:Nat) (f:Int),0≤f→f<b.1→ix D f=(n:Int)→∃ l:List Int,l.Nodup∧l.length=n+1∧∀ x∈l,0≤x∧x<b.1∧ix D x≤(n:Int)
 | 0,f,ad,af,h=>⟨[f],by simp,rfl,fun x ak=>by simp only [sO] at ak;subst ak;exact ⟨ad,af,by omega⟩⟩
 | n+1,f,ad,af,h=>by
   have bS:=p3.f6;obtain ⟨p,bR,_,bY⟩:=afw p3 qZ ⟨ad,by omega⟩ h;have aP:=PD p3 bR;obtain ⟨l,dI,kU,M7⟩:=VP p3 qZ n _ aP.1 aP.2 bY;refine ⟨f::l,uc.2 ⟨fun hm=>?_,dI⟩,by simp [kU],fun x ak=>?_⟩
   ·have:=(M7 f hm).2.2;omega
   ·rcases sq.1 ak with e | e
    ·subst e;exact ⟨ad,af,by omega⟩
    ·have:=M7 x e;exact ⟨this.1,this.2.1,by omega⟩
theorem acK {b:p5} (p3:qA b) {wo to f:Int} {D:List Int} (qZ:MQ b wo to D) (ad:0≤f) (af:f<b.1):ix D f<b.1:=by
 rcases uJ (ix D f) 0 with h | h
 ·omega
 ·obtain ⟨l,dI,kU,M7⟩:=VP p3 qZ (ix D f).toNat f ad af (by omega);have:=Mh (n:=b.1.toNat) dI fun x ak=>by have:=M7 x ak;omega
  omega
end Go.Proofs.YtfakoboiahbhaaaGreat.Ab


namespace Go.Proofs.YtfakoboiahbhaaaGreat.Ab
open Go
set_option maxRecDepth 20000
set_option maxHeartbeats 4000000
def QI (b:qe) (qb:p7→Option p7):Nat→Int→p7→Option p7
 | 0,_,_=>none
 | m+1,s1,s2 =>
   if (decide (s1<b.1))=true then
    p9 ((s2.length+1)*8≤140737488355328) <|
    QI b qb m (w (s1+(1:Int))) (s2++[s1])
   else
    qb s2
def O3 (b:qe) (but:Int) (rW:p7→Option p7):Nat→Int→p7→Option p7
 | 0,_,_=>none
 | m+1,qh,qp =>
   if (decide (qh<(b.2.length:Int)))=true then
    p9 (0≤qh∧qh<(b.2.length:Int)) <|
    p9 (0≤qh∧qh<(b.2.length:Int)) <|
    if (decide (qh≠but))=true then
     p9 (0≤(ix b.2 qh).1∧(ix b.2 qh).1<(qp.length:Int)) <|
     p9 (0≤(ix b.2 qh).2∧(ix b.2 qh).2<(qp.length:Int)) <|
     p9 (0≤(ix b.2 qh).1∧(ix b.2 qh).1<(qp.length:Int)) <|
     p9 (0≤(ix b.2 qh).2∧(ix b.2 qh).2<((qp.set ((ix b.2 qh).1).toNat (min (ix qp ((ix b.2 qh).1)) (ix qp ((ix b.2 qh).2)))).length:Int)) <|
     O3 b but rW m (w (qh+(1:Int))) ((qp.set ((ix b.2 qh).1).toNat (min (ix qp ((ix b.2 qh).1)) (ix qp ((ix b.2 qh).2)))).set ((ix b.2 qh).2).toNat (min (ix qp ((ix b.2 qh).1)) (ix qp ((ix b.2 qh).2))))
    else
     O3 b but rW m (w (qh+(1:Int))) qp
   else
    rW qp
def NB (b:qe) (but:Int) (qt:p7→Option p7):Nat→Int→p7→Option p7
 | 0,_,_=>none
 | m+1,s3,G' =>
   if (decide (s3<b.1))=true then
    O3 b but (fun oH =>
      NB b but qt m (w (s3+(1:Int))) oH) p' (0:Int) G'
   else
    qt G'
def Un (b:qe) (but:Int):Option p7 :=
 if (decide ((0:Int)<b.1))=true then
  QI b (fun yg =>
    NB b but (fun Gx =>
      some Gx) p' (0:Int) yg) p' (w ((0:Int)+(1:Int))) [(0:Int)]
 else
  none
end Go.Proofs.YtfakoboiahbhaaaGreat.Ab


namespace Go.Proofs.YtfakoboiahbhaaaGreat.Ab
open Go
def rT (b:p5) (wo f g:Int):Prop:=∃ n,Hk b wo n f g
theorem Hk.trans {b:p5} {wo:Int}:∀ {n m:Nat} {a c g:Int},Hk b wo n a c→Hk b wo m c g→Hk b wo (n+m) a g
 | n,0,a,c,g,h,(k:c=g)=>k ▸ h
 | n,m+1,a,c,g,h,⟨f,aJ,aQ⟩=>⟨f,Hk.trans h aJ,aQ⟩
theorem rT.refl {b:p5} {wo:Int} (f:Int):rT b wo f f:=⟨0,rfl⟩
theorem rT.symm {b:p5} {wo f g:Int} (h:rT b wo f g):rT b wo g f:=h.elim fun n h=>⟨n,h.symm⟩
theorem rT.trans {b:p5} {wo f g h:Int} (ad:rT b wo f g) (af:rT b wo g h):rT b wo f h:=by
 obtain ⟨n,ad⟩:=ad;obtain ⟨m,af⟩:=af;exact ⟨n+m,ad.trans af⟩
theorem Ht.LZ {b:p5} {wo f g:Int} (h:Ht b wo f g):rT b wo f g:=⟨1,f,rfl,h⟩
theorem Ht.of {b:p5} {wo:Int} {i:Nat} (hi:i<b.2.length) (hw:(i:Int)≠wo):Ht b wo (ix b.2 (i:Int)).1 (ix b.2 (i:Int)).2 :=
 ⟨((i:Int),0),KT.2 ⟨by simp only;omega,by simp only;omega,by simp only;omega,by simp only;omega,rfl⟩,hw,rfl⟩
theorem Ht.r3 {b:p5} {wo f g:Int} (h:Ht b wo f g):∃ i:Nat,i<b.2.length∧(i:Int)≠wo∧(((ix b.2 (i:Int)).1=f∧(ix b.2 (i:Int)).2=g)∨((ix b.2 (i:Int)).2=f∧(ix b.2 (i:Int)).1=g)):=by
 obtain ⟨p,ad,af,aG⟩:=h;have aB:=KT.1 ad;refine ⟨p.1.toNat,by omega,by omega,?_⟩;rw [tS aB.1];have a5:=aB.2.2.2.2;unfold qx at a5;unfold fin at aG;by_cases al:0<p.2
 ·rw [if_pos al] at a5 aG;exact .inr ⟨a5,aG⟩
 ·rw [if_neg al] at a5 aG;exact .inl ⟨a5,aG⟩
theorem rT.short {b:p5} (p3:qA b) {wo f g:Int} (aO:0≤g∧g<b.1) (aP:0≤f∧f<b.1) (h:rT b wo f g):∃ n:Nat,(n:Int)<b.1∧Hk b wo n f g:=by
 obtain ⟨D,_,qZ⟩:=Zx p3 (wo:=wo) aO;obtain ⟨n,h⟩:=h;have ao:=qZ.least n f h.symm;have bS:=p3.f6;have aS:=acK p3 qZ aP.1 aP.2;have hw:=qZ.walk f.toNat (by omega) (by rw [tS aP.1];exact ao.2.2.1);rw [tS aP.1] at hw;exact ⟨(ix D f).toNat,by omega,hw.symm⟩
theorem J2 {b:p5} (p3:qA b) {i:Nat} (hi:i<b.2.length):0≤(ix b.2 (i:Int)).1∧(ix b.2 (i:Int)).1<b.1∧0≤(ix b.2 (i:Int)).2∧(ix b.2 (i:Int)).2<b.1:=by
 have hm:=P2 (l:=b.2) (i:=(i:Int)) ⟨by omega,by omega⟩;have ad:=p3.left _ hm;have af:=p3.right _ hm;exact ⟨ad.1,ad.2,af.1,af.2⟩
def upto (n:Nat):List Int:=(List.range n).map fun (j:Nat)=>(j:Int)
theorem Hx (n:Nat):(upto n).length=n:=by simp [upto]
theorem Yy {n j:Nat} (h:j<n):ix (upto n) (j:Int)=(j:Int):=by
 rw [q3 (by rw [Hx];exact h)];simp [upto]
theorem QA (n:Nat):upto (n+1)=upto n++[(n:Int)]:=by simp [upto,List.range_succ]
theorem Zf {b:p5} (bS:b.1≤6) {k:List Int→Option (List Int)}:∀ (m i:Nat) (z:Int),z=i→(i:Int)≤b.1→b.1.toNat-i<m→QI b k m z (upto i)=k (upto b.1.toNat)
 | 0,i,_,_,_,h=>absurd h (by omega)
 | m+1,i,_,rfl,hi,hm=>by
   rw [QI];by_cases h:(i:Int)<b.1
   ·rw [if_pos (decide_eq_true h),qg (by rw [Hx];omega),rG i (by omega),←QA];exact Zf bS m (i+1) _ rfl (by omega) (by omega)
   ·rw [if_neg (by simpa using h),show i=b.1.toNat by omega]
structure NI (b:p5) (wo:Int) (S:List Int):Prop where
 len:S.length=b.1.toNat
 H8:∀ f:Int,0≤f→f<b.1→rT b wo f (ix S f)∧0≤ix S f∧ix S f<b.1
structure NR (b:p5) (wo:Int) (S0:List Int) (i:Nat) (S:List Int):Prop extends NI b wo S where
 mono:∀ f:Int,0≤f→f<b.1→ix S f≤ix S0 f
 done:∀ j:Nat,j<i→(j:Int)≠wo→ix S (ix b.2 (j:Int)).1≤ix S0 (ix b.2 (j:Int)).2∧ix S (ix b.2 (j:Int)).2≤ix S0 (ix b.2 (j:Int)).1
theorem aet {S:List Int} {x y f v:Int} (ak:0≤x∧x<(S.length:Int)) (aY:0≤y∧y<(S.length:Int)) (aP:0≤f∧f<(S.length:Int)):ix ((S.set x.toNat v).set y.toNat v) f=if f=x∨f=y then v else ix S f:=by
 obtain ⟨a,rfl⟩:∃ a:Nat,x=(a:Int):=⟨x.toNat,by omega⟩;obtain ⟨c,rfl⟩:∃ c:Nat,y=(c:Int):=⟨y.toNat,by omega⟩;obtain ⟨e,rfl⟩:∃ e:Nat,f=(e:Int):=⟨f.toNat,by omega⟩;rw [th,th];by_cases ad:e=c
 ·subst ad;rw [Md (by simp;omega),if_pos (.inr rfl)]
 ·rw [Ke ad];by_cases af:e=a
  ·subst af;rw [Md (by omega),if_pos (.inl rfl)]
  ·rw [Ke af,if_neg (by omega)]
theorem NR.step {b:p5} (p3:qA b) {wo:Int} {S0 S:List Int} {i:Nat} (h:NR b wo S0 i S) (hi:i<b.2.length) (hw:(i:Int)≠wo) :
  NR b wo S0 (i+1) ((S.set (ix b.2 (i:Int)).1.toNat (min (ix S (ix b.2 (i:Int)).1) (ix S (ix b.2 (i:Int)).2))).set (ix b.2 (i:Int)).2.toNat (min (ix S (ix b.2 (i:Int)).1) (ix S (ix b.2 (i:Int)).2))):=by
 have ai:=J2 p3 hi;have he:=Ht.of hi hw;obtain ⟨x,ak⟩:∃ x,x=(ix b.2 (i:Int)).1:=⟨_,rfl⟩;obtain ⟨y,aY⟩:∃ y,y=(ix b.2 (i:Int)).2:=⟨_,rfl⟩;rw [←ak,←aY] at ai he;rw [←ak,←aY];have ao:=h.len;have PV:∀ f:Int,0≤f→f<b.1→_:=fun f ad af=>aet (S:=S) (x:=x) (y:=y) (f:=f) (v:=min (ix S x) (ix S y)) ⟨ai.1,by omega⟩ ⟨ai.2.2.1,by omega⟩ ⟨ad,by omega⟩;have Si:=h.H8 x ai.1 ai.2.1;have Sj:=h.H8 y ai.2.2.1 ai.2.2.2;have hle:∀ f:Int,0≤f→f<b.1→ix ((S.set x.toNat (min (ix S x) (ix S y))).set y.toNat (min (ix S x) (ix S y))) f≤ix S f:=fun f ad af=>by
  rw [PV f ad af];split
  ·rename_i e;rcases e with rfl | rfl <;> omega
  ·exact vd _
 refine ⟨⟨by simpa using ao,fun f ad af=>?_⟩,fun f ad af=>vr (hle f ad af) (h.mono f ad af),fun j aw Sp=>?_⟩
 ·rw [PV f ad af];split
  ·rename_i e;rcases Int.le_total (ix S x) (ix S y) with hm | hm
   ·rw [Int.min_eq_left hm];refine ⟨?_,Si.2⟩;rcases e with rfl | rfl
    ·exact Si.1
    ·exact he.symm.LZ.trans Si.1
   ·rw [Int.min_eq_right hm];refine ⟨?_,Sj.2⟩;rcases e with rfl | rfl
    ·exact he.LZ.trans Sj.1
    ·exact Sj.1
  ·exact h.H8 f ad af
 ·have ed:j<i∨j=i:=by omega
  rcases ed with ed | rfl
  ·have M4:=J2 p3 (i:=j) (by omega);obtain ⟨d1,d2⟩:=h.done j ed Sp;exact ⟨vr (hle _ M4.1 M4.2.1) d1,vr (hle _ M4.2.2.1 M4.2.2.2) d2⟩
  ·rw [←ak,←aY,PV x ai.1 ai.2.1,PV y ai.2.2.1 ai.2.2.2,if_pos (.inl rfl),if_pos (.inr rfl)];have de:=h.mono x ai.1 ai.2.1;have df:=h.mono y ai.2.2.1 ai.2.2.2;omega
theorem Uo {b:p5} (p3:qA b) {wo:Int} {S0:List Int} {k:List Int→Option (List Int)}:∀ (m i:Nat) (z:Int) (S:List Int),z=i→i≤b.2.length→b.2.length-i<m→NR b wo S0 i S →
  ∃ S',NR b wo S0 b.2.length S'∧O3 b wo k m z S=k S'
 | 0,i,_,_,_,_,h,_=>absurd h (by omega)
 | m+1,i,_,S,rfl,hi,hm,h=>by
   have ao:=p3.len;rw [O3];by_cases aS:i<b.2.length
   ·have ai:=J2 p3 aS;have DD:=h.len;rw [I' aS,Hy aS,Hy aS];by_cases hw:(i:Int)≠wo
    ·rw [if_pos (decide_eq_true hw),qg ⟨ai.1,by omega⟩,qg ⟨ai.2.2.1,by omega⟩,qg ⟨ai.1,by omega⟩,qg ⟨ai.2.2.1,by rw [List.length_set];omega⟩,rG i (by omega)];exact Uo p3 m (i+1) _ _ rfl (by omega) (by omega) (h.step p3 aS hw)
    ·rw [if_neg (by simpa using hw),rG i (by omega)];exact Uo p3 m (i+1) _ _ rfl (by omega) (by omega) ⟨h.toNI,h.mono,fun j aw Sp=>h.done j (by omega) Sp⟩
   ·rw [I_ aS];(obtain rfl:i=b.2.length:=by omega);exact ⟨S,h,rfl⟩
theorem Zg {b:p5} (p3:qA b) {wo:Int} {k:List Int→Option (List Int)}:∀ (m r:Nat) (z:Int) (S:List Int),z=r→(r:Int)≤b.1→b.1.toNat-r<m→NI b wo S→(∀ (n:Nat) (f g:Int),n≤r→0≤f→f<b.1→Hk b wo n f g→ix S f≤g) →
  ∃ S',NI b wo S'∧(∀ (n:Nat) (f g:Int),(n:Int)≤b.1→0≤f→f<b.1→Hk b wo n f g→ix S' f≤g)∧NB b wo k m z S=k S'
 | 0,i,_,_,_,_,h,_,_=>absurd h (by omega)
 | m+1,r,_,S,rfl,aj,hm,h,hw=>by
   have bS:=p3.f6;rw [NB];by_cases aS:(r:Int)<b.1
   ·rw [if_pos (decide_eq_true aS)];obtain ⟨S',d1,d2⟩:=Uo p3 (wo:=wo) (S0:=S) (k:=fun oH=>NB b wo k m (w ((r:Int)+(1:Int))) oH) p' 0 0 S rfl (sC _) (rL (by have:=p3.len;omega)) ⟨h,fun _ _ _=>vd _,fun j aw=>absurd aw (by omega)⟩;rw [d2,rG r (by omega)];refine Zg p3 m (r+1) _ S' rfl (by omega) (by omega) d1.toNI fun n f g aN ad af KO=>?_;cases n with
    | zero =>
      have e:f=g:=KO;subst e;have:=hw 0 f f (by omega) ad af rfl;have:=d1.mono f ad af;omega
    | succ n =>
      obtain ⟨c,he,al⟩:=KO.gS;have Wh:=Ht.in p3 he;have:=hw n c g (by omega) Wh.1 Wh.2 al;obtain ⟨i,i1,i2,i3⟩:=he.r3;obtain ⟨e1,b'⟩:=d1.done i i1 i2;rcases i3 with ⟨rfl,rfl⟩ | ⟨rfl,rfl⟩ <;> omega
   ·rw [if_neg (by simpa using aS)];exact ⟨S,h,fun n f g aN ad af KO=>hw n f g (by omega) ad af KO,rfl⟩
structure Pk (b:p5) (wo:Int) (N:List Int):Prop extends NI b wo N where
 least:∀ f g:Int,0≤f→f<b.1→0≤g→g<b.1→rT b wo f g→ix N f≤g
theorem ajj {b:p5} (p3:qA b) (wo:Int):∃ N,Un b wo=some N∧Pk b wo N:=by
 have bS:=p3.f6;have ad:=p3.f1
 have CC:NI b wo (upto b.1.toNat):=⟨Hx _,fun f CV pt=>by
  obtain ⟨a,rfl⟩:∃ a:Nat,f=(a:Int):=⟨f.toNat,by omega⟩
  rw [Yy (by omega)];exact ⟨rT.refl _,CV,pt⟩⟩
 obtain ⟨S',d1,d2,d3⟩:=Zg p3 (wo:=wo) (k:=fun Gx=>some Gx) p' 0 0 (upto b.1.toNat) rfl (by omega) (rL (by omega)) CC (fun n f g aN CV pt KO=>by
  obtain rfl:n=0:=by omega
  have e:f=g:=KO;subst e;obtain ⟨a,rfl⟩:∃ a:Nat,f=(a:Int):=⟨f.toNat,by omega⟩
  rw [Yy (by omega)];exact vd _)
 refine ⟨S',?_,d1,fun f g f1 f2 ca b5 al=>?_⟩
 ·rw [Un,if_pos (decide_eq_true (by omega))];have:=Zf bS (k:=fun yg=>NB b wo (fun Gx=>some Gx) p' (0:Int) yg) p' 1 1 rfl (by omega) (rL (by omega));rw [show upto 1=[(0:Int)] from rfl] at this;rw [show w ((0:Int)+(1:Int))=1 from rfl,this,d3]
 ·obtain ⟨n,aN,KO⟩:=al.short p3 ⟨ca,b5⟩ ⟨f1,f2⟩;exact d2 n f g (by omega) f1 f2 KO
theorem Pk.iff {b:p5} {wo:Int} {N:List Int} (h:Pk b wo N) {f g:Int} (aP:0≤f∧f<b.1) (aO:0≤g∧g<b.1):ix N f=ix N g↔rT b wo f g:=by
 have a:=h.H8 f aP.1 aP.2;have c:=h.H8 g aO.1 aO.2;refine ⟨fun e=>a.1.trans (by rw [e];exact c.1.symm),fun e=>?_⟩;have dI:=h.least f (ix N g) aP.1 aP.2 c.2.1 c.2.2 (e.trans c.1);have kU:=h.least g (ix N f) aO.1 aO.2 a.2.1 a.2.2 (e.symm.trans a.1);omega
end Go.Proofs.YtfakoboiahbhaaaGreat.Ab


namespace Go.Proofs.YtfakoboiahbhaaaGreat.Ab
open Go
theorem Xy:∀ {a b:List Int},a.Pairwise (·<·)→b.Pairwise (·<·)→(∀ x,x∈a↔x∈b)→a=b
 | [],[],_,_,_=>rfl
 | [],y::b,_,_,h=>by have:=(h y).2 (by simp);simp at this
 | x::a,[],_,_,h=>by have:=(h x).1 (by simp);simp at this
 | x::a,y::b,cb,ag,h=>by
   obtain ⟨aC,aI⟩:=tB.1 cb;obtain ⟨bp,cH⟩:=tB.1 ag;have Ib:x=y:=by
    rcases sq.1 ((h x).1 (by simp)) with e | e
    ·exact e
    ·rcases sq.1 ((h y).2 (by simp)) with b' | b'
     ·exact b'.symm
     ·have:=aC y b';have:=bp x e;omega
   subst Ib;rw [Xy aI cH fun z=>?_];constructor
   ·intro bj;rcases sq.1 ((h z).1 (by simp [bj])) with e | e
    ·have:=aC z bj;omega
    ·exact e
   ·intro bj;rcases sq.1 ((h z).2 (by simp [bj])) with e | e
    ·have:=bp z bj;omega
    ·exact e
theorem OP {α:Type} [Inhabited α] {lt:α→α→Bool} (ai:Sort.SWO lt) (l:List α):((Sort.insertionSort lt l.toArray 0 l.length).toList).Perm l∧((Sort.insertionSort lt l.toArray 0 l.length).toList).Pairwise (fun x y=>lt y x=false):=by
 obtain ⟨⟨ad,_,aG⟩,a5⟩:=Sort.insertionSort_holds (lt:=lt) ai l.toArray 0 l.length (sC _) (by simp);generalize Sort.insertionSort lt l.toArray 0 l.length=d at ad aG a5;have ad:d.size=l.length:=by simpa using ad
 have e1:(d.extract 0 l.length).toList=d.toList:=by rw [←ad];simp
 have b':(l.toArray.extract 0 l.length).toList=l:=by simp
 rw [e1,b'] at aG;refine ⟨aG,ti.2 fun i j hi aw g3=>?_⟩;have hi':i<d.size:=by simpa using hi
 have ed:j<d.size:=by simpa using aw
 have:=a5 i j (sC _) g3 (by omega);rw [getElem!_pos d i hi',getElem!_pos d j ed] at this;simpa using this
theorem XR (l:List Int):(r9 l).Perm l:=(OP Sort.swo_ltInt l).1
theorem ahe {l:List Int} (h:l.Nodup):(r9 l).Pairwise (·<·):=by
 have aP:=OP Sort.swo_ltInt l;have aN:(r9 l).Nodup:=aP.1.nodup_iff.2 h;refine ti.2 fun i j hi aw g3=>?_;have ad:=ti.1 aP.2 i j hi aw g3;have af:=ti.1 aN i j hi aw g3;simp only [Sort.ltInt,decide_eq_false_iff_not] at ad;have ad:¬ (r9 l)[j]<(r9 l)[i]:=ad;omega
theorem XY:Sort.SWO HQ:=by
 constructor
 all_goals intros
 all_goals simp only [HQ,decide_eq_true_eq,decide_eq_false_iff_not] at *
 all_goals omega
theorem ahi (l:List (List Int)):(Iy l).Perm l:=(OP XY l).1
theorem ahj {l:List (List Int)} (h:l.Pairwise fun x y=>ix x 0≠ix y 0):(Iy l).Pairwise fun x y=>ix x 0<ix y 0:=by
 have aP:=OP XY l;have aN:(Iy l).Pairwise fun x y=>ix x 0≠ix y 0:=aP.1.symm.pairwise h fun {x y} Ib=>Ne.symm Ib;refine ti.2 fun i j hi aw g3=>?_;have ad:=ti.1 aP.2 i j hi aw g3;have af:=ti.1 aN i j hi aw g3;simp only [HQ,decide_eq_false_iff_not] at ad;have ad:¬ ix (Iy l)[j] 0<ix (Iy l)[i] 0:=ad;omega
theorem XB:∀ {P Q:List (List Int)},P.Pairwise (fun x y=>ix x 0<ix y 0)→Q.Pairwise (fun x y=>ix x 0<ix y 0)→(∀ r,r∈P↔r∈Q)→P=Q
 | [],[],_,_,_=>rfl
 | [],y::b,_,_,h=>by have:=(h y).2 (by simp);simp at this
 | x::a,[],_,_,h=>by have:=(h x).1 (by simp);simp at this
 | x::a,y::b,cb,ag,h=>by
   obtain ⟨aC,aI⟩:=tB.1 cb;obtain ⟨bp,cH⟩:=tB.1 ag;have Ib:x=y:=by
    rcases sq.1 ((h x).1 (by simp)) with e | e
    ·exact e
    ·rcases sq.1 ((h y).2 (by simp)) with b' | b'
     ·exact b'.symm
     ·have:=aC y b';have:=bp x e;omega
   subst Ib;rw [XB aI cH fun z=>?_];constructor
   ·intro bj;rcases sq.1 ((h z).1 (by simp [bj])) with e | e
    ·subst e;have:=aC z bj;omega
    ·exact e
   ·intro bj;rcases sq.1 ((h z).2 (by simp [bj])) with e | e
    ·subst e;have:=bp z bj;omega
    ·exact e
end Go.Proofs.YtfakoboiahbhaaaGreat.Ab


namespace Go.Proofs.YtfakoboiahbhaaaGreat.Ab
open Go
def qC (b:p5) (i f:Int):Prop:=(ix b.2 i).1=f∨(ix b.2 i).2=f
inductive qT (b:p5) (S:List Int) (f:Int):Int→Prop
 | refl:qT b S f f
 | step {g h:Int} (i:Int):qT b S f g→i∈S→qC b i g→qC b i h→qT b S f h
theorem qT.trans {b:p5} {S:List Int} {f g h:Int} (ad:qT b S f g) (af:qT b S g h):qT b S f h:=by
 induction af with
 | refl=>exact ad
 | step i _ hi aC aI a9=>exact .step i a9 hi aC aI
theorem qT.one {b:p5} {S:List Int} {f g i:Int} (hi:i∈S) (ad:qC b i f) (af:qC b i g):qT b S f g:=.step i .refl hi ad af
theorem qT.symm {b:p5} {S:List Int} {f g:Int} (h:qT b S f g):qT b S g f:=by
 induction h with
 | refl=>exact .refl
 | step i _ hi aC aI a9=>exact (qT.one hi aI aC).trans a9
theorem qT.mono {b:p5} {S S':List Int} {f g:Int} (cl:∀ x∈S,x∈S') (h:qT b S f g):qT b S' f g:=by
 induction h with
 | refl=>exact .refl
 | step i _ hi aC aI a9=>exact .step i a9 (cl i hi) aC aI
def Qz (b:p5) (i k:Int):Bool:=Jh (ix b.2 i) (ix b.2 k)
theorem Yr {b:p5} {i k:Int}:Qz b i k=true↔∃ f,qC b i f∧qC b k f:=by
 unfold Qz Jh qC;simp only [tI,decide_eq_true_eq];constructor
 ·rintro (((h | h) | h) | h)
  ·exact ⟨_,.inl rfl,.inl h.symm⟩
  ·exact ⟨_,.inl rfl,.inr h.symm⟩
  ·exact ⟨_,.inr rfl,.inl h.symm⟩
  ·exact ⟨_,.inr rfl,.inr h.symm⟩
 ·rintro ⟨f,ad | ad,af | af⟩ <;> omega
def Ia (b:p5) (s:Int) (r:List Int):Bool:=r.any (Qz b s)
structure rb (b:p5) (S:List Int) (out:List (List Int)):Prop where
 ne:∀ r∈out,r≠[]
 so:∀ r∈out,r.Pairwise (·<·)
 mem:∀ x,x∈S↔∃ r∈out,x∈r
 rk:out.Pairwise fun r q=>∀ x∈r,x ∉ q
 H8:∀ r∈out,∀ x∈r,∀ y∈r,∀ f g,qC b x f→qC b y g→qT b S f g
 sep:∀ r∈out,∀ q∈out,∀ x∈r,∀ y∈q,∀ f,qC b x f→qC b y f→r=q
def own (b:p5) (out:List (List Int)) (s:Int):List Int:=s::(out.filter (Ia b s)).flatten
def zY (b:p5) (out:List (List Int)) (s:Int):List (List Int):=(out.filter fun r=>!Ia b s r)++[r9 (own b out s)]
section
variable {b:p5} {S:List Int} {out:List (List Int)} {s:Int}
theorem rb.uniq (h:rb b S out) {r q:List Int} {x:Int} (aj:r∈out) (aZ:q∈out) (ad:x∈r) (af:x∈q):r=q:=h.sep r aj q aZ x ad x af _ (.inl rfl) (.inl rfl)
theorem WY {x:Int}:x∈own b out s↔x=s∨∃ r∈out,Ia b s r=true∧x∈r:=by
 unfold own;simp only [sq,uZ,sP,and_assoc]
theorem rb.W5 (h:rb b S out) (ai:s ∉ S):(own b out s).Nodup:=by
 unfold own;refine uc.2 ⟨fun hm=>?_,?_⟩
 ·obtain ⟨r,aj,ak⟩:=uZ.1 hm;exact ai ((h.mem s).2 ⟨r,(sP.1 aj).1,ak⟩)
 ·refine List.pairwise_flatten.2 ⟨fun r aj=>(h.so r (sP.1 aj).1).imp fun Ib e=>by omega,(h.rk.filter _).imp fun Mb x ak y aY e=>Mb x ak (by rw [e];exact aY)⟩
theorem rb.step (h:rb b S out) (ai:s ∉ S):rb b (S++[s]) (zY b out s):=by
 have jP:=h.W5 ai;have M3:∀ x,x∈r9 (own b out s)↔x=s∨∃ r∈out,Ia b s r=true∧x∈r:=fun x=>by rw [(XR _).mem_iff];exact WY
 have JR:∀ r,r∈zY b out s↔(r∈out∧Ia b s r=false)∨r=r9 (own b out s):=fun r=>by
  unfold zY;simp only [sN,sP,sO,Bool.not_eq_true']
 have JV:∀ x∈S,x∈S++[s]:=fun x ak=>by simp [ak]
 have Ws:∀ x∈r9 (own b out s),∀ f,qC b x f→qT b (S++[s]) (ix b.2 s).1 f:=fun x ak f aP=>by
  rcases (M3 x).1 ak with rfl | ⟨r,aj,bH,HL⟩
  ·exact .one (by simp) (.inl rfl) aP
  ·obtain ⟨k,av,ay⟩:=uY.1 bH;obtain ⟨g,ca,b5⟩:=Yr.1 ay;exact (qT.one (i:=s) (by simp) (.inl rfl) ca).trans ((h.H8 r aj k av x HL g f b5 aP).mono JV)
 have eS:∀ r∈out,Ia b s r=false→∀ x∈r,∀ y∈r9 (own b out s),∀ f,qC b x f→qC b y f→False:=fun r aj bH x ak y aY f f1 f2=>by
  rcases (M3 y).1 aY with rfl | ⟨q,aZ,Dp,aej⟩
  ·have:Ia b y r=true:=uY.2 ⟨x,ak,Yr.2 ⟨f,f2,f1⟩⟩
   rw [this] at bH;cases bH
  ·obtain rfl:=h.sep r aj q aZ x ak y aej f f1 f2;rw [Dp] at bH;cases bH
 refine ⟨fun r aj=>?_,fun r aj=>?_,fun x=>?_,?_,fun r aj x ak y aY f g aP aO=>?_,fun r aj q aZ x ak y aY f aP aO=>?_⟩
 ·rcases (JR r).1 aj with ⟨ad,_⟩ | rfl
  ·exact h.ne r ad
  ·intro e;have:=(M3 s).2 (.inl rfl);rw [e] at this;cases this
 ·rcases (JR r).1 aj with ⟨ad,_⟩ | rfl
  ·exact h.so r ad
  ·exact ahe jP
 ·constructor
  ·intro ak;rcases sN.1 ak with ak | ak
   ·obtain ⟨r,aj,HL⟩:=(h.mem x).1 ak;cases bH:Ia b s r with
    | true=>exact ⟨_,(JR _).2 (.inr rfl),(M3 x).2 (.inr ⟨r,aj,bH,HL⟩)⟩
    | false=>exact ⟨r,(JR r).2 (.inl ⟨aj,bH⟩),HL⟩
   ·exact ⟨_,(JR _).2 (.inr rfl),(M3 x).2 (.inl (by simpa using ak))⟩
  ·rintro ⟨r,aj,HL⟩;rcases (JR r).1 aj with ⟨ad,_⟩ | rfl
   ·exact JV x ((h.mem x).2 ⟨r,ad,HL⟩)
   ·rcases (M3 x).1 HL with rfl | ⟨q,aZ,_,JW⟩
    ·simp
    ·exact JV x ((h.mem x).2 ⟨q,aZ,JW⟩)
 ·unfold zY;refine uC.2 ⟨h.rk.filter _,by simp,fun r aj q aZ x ak JW=>?_⟩;simp only [sO] at aZ;subst aZ;have aj:=sP.1 aj;exact eS r aj.1 (by simpa using aj.2) x ak x JW _ (.inl rfl) (.inl rfl)
 ·rcases (JR r).1 aj with ⟨ad,_⟩ | rfl
  ·exact (h.H8 r ad x ak y aY f g aP aO).mono JV
  ·exact (Ws x ak f aP).symm.trans (Ws y aY g aO)
 ·rcases (JR r).1 aj with ⟨ad,af⟩ | rfl
  ·rcases (JR q).1 aZ with ⟨aG,_⟩ | rfl
   ·exact h.sep r ad q aG x ak y aY f aP aO
   ·exact (eS r ad af x ak y aY f aP aO).elim
  ·rcases (JR q).1 aZ with ⟨aG,a5⟩ | rfl
   ·exact (eS q aG a5 y aY x ak f aO aP).elim
   ·rfl
theorem rb.perm {r_:List (List Int)} (h:rb b S out) (aB:r_.Perm out):rb b S r_:=by
 refine ⟨fun r aj=>h.ne r (aB.mem_iff.1 aj),fun r aj=>h.so r (aB.mem_iff.1 aj),fun x=>?_,aB.symm.pairwise h.rk fun {r q} Mb x ak g'=>Mb x g' ak,fun r aj=>h.H8 r (aB.mem_iff.1 aj),fun r aj q aZ=>h.sep r (aB.mem_iff.1 aj) q (aB.mem_iff.1 aZ)⟩;rw [h.mem x];exact ⟨fun ⟨r,aj,ak⟩=>⟨r,aB.mem_iff.2 aj,ak⟩,fun ⟨r,aj,ak⟩=>⟨r,aB.mem_iff.1 aj,ak⟩⟩
theorem rb.closed (h:rb b S out) {q:List Int} (aZ:q∈out) {x:Int} (ak:x∈q) {f g:Int} (aP:qC b x f) (al:qT b S f g):∀ z∈S,qC b z g→z∈q:=by
 induction al with
 | refl =>
   intro z bj Sx;obtain ⟨r,aj,fK⟩:=(h.mem z).1 bj;rw [h.sep q aZ r aj x ak z fK f aP Sx];exact fK
 | step i _ hi aC aI a9 =>
   intro z bj Sx;have mc:=a9 i hi aC;obtain ⟨r,aj,fK⟩:=(h.mem z).1 bj;rw [h.sep q aZ r aj i mc z fK _ aI Sx];exact fK
theorem rb.same {P Q:List (List Int)} (CD:rb b S P) (bo:rb b S Q) (ad:P.Pairwise fun x y=>ix x 0<ix y 0) (af:Q.Pairwise fun x y=>ix x 0<ix y 0):P=Q:=by
 have key:∀ {P Q:List (List Int)},rb b S P→rb b S Q→∀ r∈P,r∈Q:=fun {P Q} CD bo r aj=>by
  obtain ⟨x,ak⟩:=List.exists_mem_of_ne_nil r (CD.ne r aj);have aeh:=(CD.mem x).2 ⟨r,aj,ak⟩;obtain ⟨q,aZ,JW⟩:=(bo.mem x).1 aeh;have e:r=q:=Xy (CD.so r aj) (bo.so q aZ) fun y=>by
   constructor
   ·intro aY;exact bo.closed aZ JW (.inl rfl) (CD.H8 r aj x ak y aY _ _ (.inl rfl) (.inl rfl)) y ((CD.mem y).2 ⟨r,aj,aY⟩) (.inl rfl)
   ·intro aY;exact CD.closed aj ak (.inl rfl) (bo.H8 q aZ x JW y aY _ _ (.inl rfl) (.inl rfl)) y ((bo.mem y).2 ⟨q,aZ,aY⟩) (.inl rfl)
  rw [e];exact aZ
 exact XB ad af fun r=>⟨key CD bo r,key bo CD r⟩
end
end Go.Proofs.YtfakoboiahbhaaaGreat.Ab


namespace Go.Proofs.YtfakoboiahbhaaaGreat.Ab
open Go
def rD (b:p5) (l:List Int):Prop:=∀ x∈l,0≤x∧x<(b.2.length:Int)
section
variable {b:p5} {S:List Int} {out:List (List Int)} {s:Int}
theorem ZI {r:List Int} (ag:b.2.length≤1000) (aj:rD b r) (ai:0≤s∧s<(b.2.length:Int)) (ao:r.length≤1000):ML r b s=some (Ia b s r):=by
 rw [ML,Us (p:=Qz b s) (fun k av=>by
  rw [QS,T_,qg ai,qg (aj k av)];rfl) (by omega),sc];rfl
theorem KS {l:List Int} (aN:l.Nodup) (ao:rD b l):l.length≤b.2.length:=Mh aN ao
theorem Sb (ag:b.2.length≤1000) (ai:0≤s∧s<(b.2.length:Int)):∀ (out:List (List Int)) (acc:List Int),(∀ r∈out,rD b r∧r.length≤1000)→(acc++(out.filter (Ia b s)).flatten).length≤1000 →
  H9 (PQ b s) out acc=some (acc++(out.filter (Ia b s)).flatten)
 | [],acc,_,_=>by simp [H9]
 | r::out,acc,h,ao=>by
   have aj:=h r (by simp);rw [H9,PQ,ZI ag aj.1 ai aj.2,sc];rw [tP] at ao ⊢;cases bH:Ia b s r with
   | true =>
     rw [bH,if_pos rfl,ub,←sD] at ao;have gb:acc.length+r.length≤1000:=by
      rw [sr,sr] at ao;omega
     rw [if_pos rfl,qg (by omega),sc,Sb ag ai out _ (fun q aZ=>h q (by simp [aZ])) ao,if_pos rfl,ub,sD]
   | false =>
     rw [bH] at ao;rw [if_neg (by decide),sc,Sb ag ai out _ (fun q aZ=>h q (by simp [aZ])) (by simpa using ao),if_neg (by decide)]
theorem VH {f:List Int→Option Bool} {p:List Int→Bool}:∀ (l:List (List Int)),(∀ r∈l,f r=some (p r))→L0 f l=some (l.filter fun r=>!p r)
 | [],_=>rfl
 | r::l,h=>by
   rw [L0,h r (by simp),sc,VH l fun q aZ=>h q (by simp [aZ]),sc,tP];cases p r <;> rfl
theorem W':∀ (l:List (List Int)),(∀ r∈l,r≠[])→l.length≤l.flatten.length
 | [],_=>Nat.le_refl _
 | r::l,h=>by
   have:=W' l fun q aZ=>h q (by simp [aZ]);have:=List.length_pos_iff.2 (h r (by simp));simp only [ub,sr,sM];omega
theorem rb.VX (h:rb b S out):out.flatten.Nodup :=
 List.pairwise_flatten.2 ⟨fun r aj=>(h.so r aj).imp fun Ib e=>by omega,h.rk.imp fun Mb x ak y aY e=>Mb x ak (by rw [e];exact aY)⟩
theorem rb.Mc (h:rb b S out) (cl:rD b S):∀ r∈out,rD b r:=fun r aj x ak=>cl x ((h.mem x).2 ⟨r,aj,ak⟩)
theorem rb.few (h:rb b S out) (cl:rD b S):out.length≤b.2.length:=by
 refine Nat.le_trans (W' out h.ne) (KS h.VX fun x ak=>?_);obtain ⟨r,aj,ak⟩:=uZ.1 ak;exact h.Mc cl r aj x ak
theorem afG (ag:b.2.length≤10) (cl:rD b S) (h:rb b S out) (ai:s ∉ S) (dL:0≤s∧s<(b.2.length:Int)):OB b out s=some (zY b out s):=by
 have g4:=h.Mc cl;have Dw:∀ r∈out,r.length≤10:=fun r aj=>by
  have:=KS ((h.so r aj).imp fun Ib e=>by omega:r.Nodup) (g4 r aj);omega
 have fH:(own b out s).length≤10:=by
  have ad3:rD b (own b out s):=fun x ak=>by
   rcases WY.1 ak with e | ⟨r,aj,_,HL⟩
   ·rw [e];exact dL
   ·exact g4 r aj x HL
  have:=KS (h.W5 ai) ad3;omega
 have aP:=h.few cl;have Wi:=Sb (by omega) dL out [s] (fun r aj=>⟨g4 r aj,by have:=Dw r aj;omega⟩) (by have:[s]++(out.filter (Ia b s)).flatten=own b out s:=rfl;rw [this];omega);rw [show [s]++(out.filter (Ia b s)).flatten=own b out s from rfl] at Wi;rw [OB,Wi,sc,qg ⟨by omega,by unfold own;simp,by omega⟩,VH (p:=Ia b s) out (fun r aj=>ZI (by omega) (g4 r aj) dL (by have:=Dw r aj;omega)),sc];rfl
theorem Xb (ag:b.2.length≤10):∀ (R S:List Int) (out:List (List Int)),(S++R).Nodup→rD b (S++R)→rb b S out→∃ r_,H9 (OB b) R out=some r_∧rb b (S++R) r_
 | [],S,out,_,_,h=>⟨out,rfl,by simpa using h⟩
 | s::R,S,out,aN,g4,h=>by
   have ai:s ∉ S:=fun ai=>by
    have:=(tX.1 aN).2.2 s ai s (by simp);exact this rfl
   (have e:S++s::R=(S++[s])++R:=by simp);obtain ⟨r_,ad,af⟩:=Xb ag R (S++[s]) (zY b out s) (by rw [←e];exact aN) (by rw [←e];exact g4) (h.step ai);refine ⟨r_,?_,by rw [e];exact af⟩;rw [H9,afG ag (fun x ak=>g4 x (by simp [ak])) h ai (g4 s (by simp)),sc,ad]
theorem rb.nil:rb b [] []:=⟨fun r aj=>absurd aj (by simp),fun r aj=>absurd aj (by simp),fun x=>by simp,.nil,fun r aj=>absurd aj (by simp),fun r aj=>absurd aj (by simp)⟩
theorem head_mem {r:List Int} (h:r≠[]):ix r 0∈r:=by
 cases r with
 | nil=>exact absurd rfl h
 | cons a r=>simp [ix]
theorem Zv (ag:b.2.length≤10) (aN:S.Nodup) (g4:rD b S):∃ out,Ku b S=some out∧rb b S out∧out.Pairwise fun x y=>ix x 0<ix y 0:=by
 obtain ⟨out,ad,af⟩:=Xb ag S [] [] (by simpa using aN) (by simpa using g4) rb.nil;rw [tN] at af;have aB:=af.perm (ahi out);have ao:=KS aN g4;refine ⟨Iy out,?_,aB,ahj (af.rk.imp_of_mem fun {r q} aj aZ Mb e=>Mb _ (head_mem (af.ne r aj)) (by rw [e];exact head_mem (af.ne q aZ)))⟩;have aP:=af.few g4;have cT:out.all Nn=true:=List.all_eq_true.2 fun r aj=>by
  have hm:=head_mem (af.ne r aj);have hi:=af.Mc g4 r aj _ hm;have he:(!r.isEmpty)=true:=by
   cases r with
   | nil=>exact absurd rfl (af.ne [] aj)
   | cons a r=>rfl
  rw [Nn,he,decide_eq_true hi.1,decide_eq_true (by omega)];rfl
 rw [Ku,qg (by omega),ad,sc,qg ⟨by omega,cT⟩]
end
end Go.Proofs.YtfakoboiahbhaaaGreat.Ab
