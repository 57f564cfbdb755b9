
import Derived.Test.YtfakoboiahbhaaaGreatJj5
import Derived.KernelRfl
import Derived.Test.YtfakoboiahbhaaaGreatJj6
import Derived.Test.YtfakoboiahbhaaaGreatJj7
import Derived.Test.YtfakoboiahbhaaaGreatJj4
set_option linter.unusedSimpArgs false
set_option linter.unusedVariables false
set_option linter.unusedSectionVars false

open Bool renaming false_or→uX,or_eq_false_iff→vF,or_eq_true→tP,or_false→vH,true_or→wk
open Int renaming le_refl→vr,le_trans→vo,lt_or_le→uJ,toNat_natCast→tB,toNat_of_nonneg→tb
open List renaming any_cons→ud,any_eq_false→uT,any_nil→vG,drop_eq_getElem_cons→sW,drop_eq_nil_of_le→tu,drop_zero→sQ,getD_eq_getElem?_getD→sG,getElem?_append→sc,getElem?_eq_getElem→sq,getElem?_set_ne→sg,getElem_mem→sD,getElem_replicate→wq,length_append→su,length_cons→sI,length_map→sZ,length_pos_of_mem→vJ,map_cons→ss,map_map→tx,mem_append→sS,mem_cons→sk,mem_filter→sK,mem_map→sv,mem_range→sJ,mem_singleton→sN,nil_append→uh,nodup_cons→ue,take_zero→tg
open Nat renaming beq_refl→uG,lt_succ_self→sm,zero_le→sr
open Option renaming bind_some→sb
namespace Go.Proofs.YtfakoboiahbhaaaGreat.Ab
open Go
def aJ:qx:=.pure 18 [.agg [.int .i64 4,.ay [.int .i64 0,.int .i64 1,.int .i64 1,.int .i64 2,.int .i64 2,.int .i64 0,.int .i64 2,.int .i64 3] 4 .shared],.ay [.int .i64 1,.int .i64 1,.int .i64 0,.int .i64 1,.int .i64 2,.int .i64 1,.int .i64 3,.int .i64 0] 4 .shared] (.tuple [.int .i64 2,.int .i64 3,.int .i64 0])
def aP:qx:=.pure 22 [.agg [.int .i64 4,.ay [.int .i64 0,.int .i64 1,.int .i64 1,.int .i64 2,.int .i64 2,.int .i64 0,.int .i64 2,.int .i64 3] 4 .shared],.ay [.int .i64 1,.int .i64 1,.int .i64 0,.int .i64 1,.int .i64 2,.int .i64 1,.int .i64 3,.int .i64 0] 4 .shared] (.int .i64 27)
def cj:qx:=.pure 27 [.agg [.int .i64 5,.ay [.int .i64 0,.int .i64 1,.int .i64 2,.int .i64 3,.int .i64 4,.int .i64 4] 3 .shared]] (.tuple [.ay [.int .i64 0,.int .i64 1,.int .i64 2,.int .i64 3] 4 .full,.int .i64 0])
def jM:qx:=.pure 29 [.agg [.int .i64 4,.ay [.int .i64 0,.int .i64 1,.int .i64 1,.int .i64 2,.int .i64 2,.int .i64 0,.int .i64 2,.int .i64 3] 4 .shared]] (.tuple [.ay [.ay [.int .i64 0,.int .i64 1,.int .i64 2,.int .i64 3] 4 .shared] 1 .shared,.int .i64 0])
def Dh:qx:=.pure 35 [.agg [.int .i64 4,.ay [.int .i64 0,.int .i64 1,.int .i64 1,.int .i64 2,.int .i64 2,.int .i64 0,.int .i64 2,.int .i64 3] 4 .shared]] (.tuple [.int .i64 1,.int .i64 0])
def Md:qx:=.pure 35 [.agg [.int .i64 2,.ay [.int .i64 0,.int .i64 1,.int .i64 1,.int .i64 0] 2 .shared]] (.tuple [.int .i64 1,.int .i64 0])
end Go.Proofs.YtfakoboiahbhaaaGreat.Ab


namespace Go.Proofs.YtfakoboiahbhaaaGreat.Ab
open Go
def ZU:List qx:=[bC,bT,rZ,J2,Nn,ZO,ZP,ZQ,ZR,ZA,ZB,ZC,ZD,ZE,ZF,ZG,ZH,ZI,ZJ,ZK,ZL,ZM,ZN]
theorem ajW:∀ e∈ZU,qI Go.Proofs.Tryz.prog e:=by
 simp only [ZU,List.forall_mem_cons];exact ⟨ajH,ajM,ajN,ajO,ajP,ajQ,ajR,ajS,ajT,ajx,ajy,ajz,ajA,ajB,ajC,ajD,ajE,ajF,ajG,ajI,ajJ,ajK,ajL,by simp⟩
abbrev abO:Prop:=ql 17 [] (B true)
theorem ajX:abO:=GO ajW (by kernel_rfl)
end Go.Proofs.YtfakoboiahbhaaaGreat.Ab


namespace Go.Proofs.YtfakoboiahbhaaaGreat.Ab
open Go
def JJ:Option Bool:=some true
theorem JK {v:Bool} (h:JJ=some v):ql 17 [] (B v):=by
 obtain rfl:=Option.some.inj h;exact ajX
end Go.Proofs.YtfakoboiahbhaaaGreat.Ab


namespace Go.Proofs.YtfakoboiahbhaaaGreat.Ab
open Go
set_option maxRecDepth 20000
set_option maxHeartbeats 4000000
noncomputable def aa8:ez :=
 Gz [gM 1 [.hG 0] .box,gM 2 [.iA (.bool false)] .iQ] (Gz [F6 3 1 1,Gl 4 3,Gk 5 4,F0 6 5 14 .gtr,Gp 2 6] .ret)
theorem af3:zf Tryz.prog VO 16=some (aa8,7,[.tmp 2]):=by kernel_rfl
def Ph (b:qa):Option Bool :=
 some (decide ((14:Int)<(b.2.length:Int)))
theorem akl {b:qa} {v:Bool} (h:Ph b=some v):ql 16 [(.agg [(hP b.1),(.ay (b.2.flatMap p1) b.2.length .shared)])] (B v):=by
 refine qM dI af3 rfl rfl fun Q bl=>?_;have jw:qu [.tmp 2] Q (fun v=>(B v)) v:=fun T H bI=>bl _ T H bI;unfold Ph at h;unfold aa8;conv=>whnf
 exact p7 h jw rfl rfl

noncomputable def abG:ez :=
 Gz [gM 4 [.iA (.bool false)] .iQ] (Gz [Gn 5 0,Gl 6 1,F1 7 5 6 .lss,Gp 8 7,cP 9 [.hG 0] 8 false .iQ,cP 10 [.hJ 2] 8 false (.pT .one),cP 11 [.hJ 9,.hJ 10] 8 false (.bin .gtr),gM 12 [.hJ 8,.iA (.bool true),.hJ 11] .pick,Gp 4 12] .ret)
theorem agA:zf Tryz.prog V8 93=some (abG,13,[.tmp 4]):=by kernel_rfl
def Px (n c0 a':Int):Option Bool :=
 if (decide (n<c0))=true then
  some true
 else
  some (decide (a'<n))
theorem alm {n:Int} {c0:Int} {a':Int} {v:Bool} (h:Px n c0 a'=some v):ql 93 [(hP n),(.bU [(hP c0)]),(.bU [(hP a')])] (B v):=by
 refine qM dI agA rfl rfl fun Q bl=>?_;have jw:qu [.tmp 4] Q (fun v=>(B v)) v:=fun T H bI=>bl _ T H bI;unfold Px at h;unfold abG;conv=>whnf
 refine bs h (fun eU h=>?_) fun eU h=>?_
 ·rw [eU];conv=>whnf
  exact p7 h jw rfl rfl
 ·rw [eU];conv=>whnf
  exact p7 h jw rfl rfl

noncomputable def abr:ez :=
 Gz [gM 3 [.hG 0] .box,gM 4 [.hG 1] .box,gM 6 [.iA (.bool false)] .iQ] (Gz [Gp 7 2,gM 8 [.hJ 3,.hJ 4] (.zv 93 0 2),gM 9 [.iA (.func 92 [] []),.sl 7,.sl 8] (.call 6),gM 10 [.hJ 9] (.un .not),Gp 6 10] .ret)
theorem agm:zf Tryz.prog VY 66=some (abr,11,[.tmp 6]):=by kernel_rfl
def Kt (lo hi:Int) (l:p5):Option Bool :=
 (K6 l (fun qA=>Px qA lo hi)).bind fun r1 =>
 some (!r1)
theorem NC {lo:Int} {hi:Int} {l:p5} {v:Bool} (h:Kt lo hi l=some v):ql 66 [(hP lo),(hP hi),(.ay (l.map hP) l.length .shared)] (B v):=by
 refine qM dI agm rfl rfl fun Q bl=>?_;have jw:qu [.tmp 6] Q (fun v=>(B v)) v:=fun T H bI=>bl _ T H bI;unfold Kt at h;unfold abr;conv=>whnf
 obtain ⟨r1,eU,h⟩:=qd h;refine ⟨_,_,IU (cs:=[(qe l .shared),(.func 93 [] [(.bU [(hP lo)]),(.bU [(hP hi)])])]) (bs:=[(qe l .shared),(.func 93 [] [(.bU [(hP lo)]),(.bU [(hP hi)])])]) (qX rfl (qX (Kp ry (qX (I5 (cs:=[(hP lo)]) (by first | exact qi.h | rfl | (simp [sc,I.settle];done)) rfl) (qX (I5 (cs:=[(hP hi)]) (by first | exact qi.h | rfl | (simp [sc,I.settle];done)) rfl) ry))) ry)) (by rfl) (by exact (pY (rp (fun _=>rfl) _ _ _) (pY (JX rfl (pY (qO (pY rfl rfl)) (pY (qO (pY rfl rfl)) rfl))) rfl))) (Rc ⟨(pY (qO (pY rfl rfl)) (pY (qO (pY rfl rfl)) rfl)),by simp⟩ (fun _ _ a0=>alm a0) eU) rfl,?_⟩
 conv=>whnf
 exact p7 h jw rfl rfl

noncomputable def abx:ez :=
 Gz [gM 2 [.hG 0] .box,gM 3 [.iA (.bool false)] .iQ] (Gz [F6 4 1 0,Gl 5 4,F0 6 5 1 .sub,gM 7 [.sl 2] (.oP 0),Gl 8 7,F6 9 2 1,Gl 10 9,gM 11 [.hJ 8,.hJ 10] (.x' 2 1 [.int .i64 0] [0,1]),gM 12 [.iA (.func 66 [] []),.iA (.int .i64 0),.sl 6,.sl 11] (.call 3),gM 13 [.hJ 12] (.un .not),Gp 3 13] .ret)
theorem agr:zf Tryz.prog V2 71=some (abx,14,[.tmp 3]):=by kernel_rfl
def Q_ (s:(Int×Int)) (c0:qa):Option Bool :=
 (Kt (0:Int) (w (c0.1-(1:Int))) [s.1,s.2]).bind fun r1 =>
 some (!r1)
theorem ak4 {s:(Int×Int)} {c0:qa} {v:Bool} (h:Q_ s c0=some v):ql 71 [(.agg [(hP s.1),(hP s.2)]),(.bU [(hP c0.1),(.ay (c0.2.flatMap p1) c0.2.length .shared)])] (B v):=by
 refine qM dI agr rfl rfl fun Q bl=>?_;have jw:qu [.tmp 3] Q (fun v=>(B v)) v:=fun T H bI=>bl _ T H bI;unfold Q_ at h;unfold abx;conv=>whnf
 obtain ⟨r1,eU,h⟩:=qd h;refine ⟨(pY rfl (pY rfl (pY rfl rfl))),_,NC eU,?_⟩;conv=>whnf
 exact p7 h jw rfl rfl

noncomputable def RK:ez :=
 .loop (some (Ez false [0,2,5,2,10])) (Gz [gM 9 [.sl 8,.sl 7] (.bin .lss)] (.seq (.cond (.sl 9) .skip (.exit 0)) (.seq (.block 1 (Gz [Gn 10 8,Gp 5 10] (Gz [Gn 11 1,Gn 12 0,Gn 13 5,Gh 14 12 13 2,gM 15 [.hJ 14] (.pT (.str 2)),gM 16 [.sl 11,.sl 15] (.call 6)] (.cond (.sl 16) (Gz [Gp 17 5,Gp 4 17] .ret) .skip)))) (Gs [FZ 18 8 1,Gp 8 18]))))
noncomputable def abI:ez :=
 Gz [Gm 4 0] (.seq (Gz [Gn 6 0,Gk 7 6,Gm 8 0] (.block 0 RK)) (Gz [Gm 4 (-1)] .ret))
theorem agC:zf Tryz.prog R7 95=some (abI,19,[.tmp 4]):=by kernel_rfl
def MH (s:qb) (f:((Int×Int)→Option Bool)) (p9:Unit→Option Int):Nat→Int→Option Int
 | 0,_=>none
 | m+1,s1 =>
   if (decide (s1<(s.length:Int)))=true then
    p8 (0≤s1∧s1<(s.length:Int)) <|
    (f (ix s s1)).bind fun r1 =>
    if r1=true then
     some s1
    else
     MH s f p9 m (w (s1+(1:Int)))
   else
    p9 ()
def Re (s:qb) (f:((Int×Int)→Option Bool)):Option Int :=
 MH s f (fun _ =>
   some (-1:Int)) p_ (0:Int)
theorem alp {s:qb} {f:((Int×Int)→Option Bool)} {p9:Unit→Option Int} {s1:Int} {rq:FuncId} {qR:List I} (rG:rS qR) (Ij:∀ (qA:(Int×Int)) (r:Bool),f qA=some r→ql rq ((.agg [(hP qA.1),(hP qA.2)])::qR) (B r)) {v:Int} {Q:q'}   (jw:qu [.tmp 4] Q (fun v=>(hP v)) v) (q8:∀ (p6:List I),p9 ()=some v→qU 19 [] p6→Q (.exit 0) p6 []) {T:List I} (bX:eR (Ez false [0,2,5,2,10]) T=GG 19 [(0,(p3 s .shared)),(1,(.func rq [] qR)),(7,(hP (s.length:Int))),(8,(hP s1))]) (h:MH s f p9 p_ s1=some v) :
  dC Tryz.prog R7 95 0 none RK T [] Q:=by
 unfold RK;refine wp_loop bX ?_;refine .intro (fun m T H=>∃ (s1:Int),T=GG 19 [(0,(p3 s .shared)),(1,(.func rq [] qR)),(7,(hP (s.length:Int))),(8,(hP s1))]∧H=[]∧MH s f p9 m s1=some v) p_ ⟨s1,rfl,rfl,h⟩ ?_;clear h bX;rintro m T H ⟨s1,rfl,rfl,h⟩;cases m
 ·exact q7 h
 rename_i m;rw [MH.eq_2] at h;conv=>whnf
 refine bs h (fun eU h=>?_) fun eU h=>?_
 ·rw [eU];conv=>whnf
  refine qk h id fun fk h=>?_;rw [qW p1 2 qw s s1 fk];conv=>whnf
  obtain ⟨r1,qf,h⟩:=qd h;refine ⟨_,_,call6 (bs:=((.agg [(hP (ix s s1).1),(hP (ix s s1).2)])::qR)) (by simp only [ss,rG.ij,rG.cr];rfl) (by simp only [ss,rG.ij];exact (pY (I1 (pY rfl (pY rfl rfl))) rG.MO)) (Ij _ _ qf) rfl,?_⟩;conv=>whnf
  cases r1
  ·(conv=>whnf);replace h:=Hf rfl h;exact ⟨m,sm m,(w (s1+(1:Int))),rfl,rfl,h⟩
  ·(conv=>whnf);replace h:=Hg rfl h;exact p7 h jw rfl rfl
 ·rw [eU];conv=>whnf
  exact q8  _ h ⟨rfl,rfl⟩
theorem alq {s:qb} {f:((Int×Int)→Option Bool)} {rq:FuncId} {qR:List I} (rG:rS qR) (Ij:∀ (qA:(Int×Int)) (r:Bool),f qA=some r→ql rq ((.agg [(hP qA.1),(hP qA.2)])::qR) (B r)) {v:Int} (h:Re s f=some v):ql 95 [(.ay (s.flatMap p1) s.length .shared),(.func rq [] qR)] (hP v):=by
 refine qM dI agC rfl rfl fun Q bl=>?_;have jw:qu [.tmp 4] Q (fun v=>(hP v)) v:=fun T H bI=>bl _ T H bI;unfold Re at h;unfold abI;obtain ⟨Ho,qz⟩:∃ c,RK=c:=⟨_,rfl⟩;rw [qz];conv=>whnf
 subst qz;refine alp rG Ij ?_ ?_ (by exact rfl) h
 ·exact fun T H bI=>jw T H bI
 ·intro  p6 h qh;obtain ⟨qS,rfl⟩:=qh.ex;conv=>whnf
  exact p7 h jw rfl rfl

noncomputable def aby:ez :=
 Gz [gM 4 [.iA (.bool false)] .iQ] (Gz [Gp 5 0,Gp 6 1,gM 7 [.iA (.func 95 [] []),.sl 5,.sl 6] (.call 6),F0 8 7 0 .geq,Gp 4 8] .ret)
theorem ags:zf Tryz.prog V3 72=some (aby,9,[.tmp 4]):=by kernel_rfl
def Pu (s:qb) (f:((Int×Int)→Option Bool)):Option Bool :=
 (Re s f).bind fun r1 =>
 some (decide ((0:Int)≤r1))
theorem ak6 {s:qb} {f:((Int×Int)→Option Bool)} {rq:FuncId} {qR:List I} (rG:rS qR) (Ij:∀ (qA:(Int×Int)) (r:Bool),f qA=some r→ql rq ((.agg [(hP qA.1),(hP qA.2)])::qR) (B r)) {v:Bool} (h:Pu s f=some v):ql 72 [(.ay (s.flatMap p1) s.length .shared),(.func rq [] qR)] (B v):=by
 refine qM dI ags rfl rfl fun Q bl=>?_;have jw:qu [.tmp 4] Q (fun v=>(B v)) v:=fun T H bI=>bl _ T H bI;unfold Pu at h;unfold aby;conv=>whnf
 obtain ⟨r1,eU,h⟩:=qd h;refine ⟨_,_,IU (cs:=[(p3 s .shared),(.func rq [] qR)]) (bs:=[(p3 s .shared),(.func rq [] qR)]) (qX rfl (qX (rG.fn _ _) ry)) (by rfl) (by exact (pY (qL (fun _=>(pY rfl (pY rfl rfl))) _ _ _) (pY (rG.OH _) rfl))) (alq rG Ij eU) rfl,?_⟩;conv=>whnf
 exact p7 h jw rfl rfl

noncomputable def aba:ez :=
 Gz [gM 1 [.hG 0] .box,Gm 2 0] (Gz [gM 4 [.sl 1] (.zv 71 0 1),Gp 3 4] (.seq (.block 0 (Gz [gM 6 [.sl 1] (.oP 0),Gl 7 6,gM 8 [.hJ 7] (.x' 1 1 [.int .i64 0] [0]),gM 9 [.iA (.func 66 [] []),.iA (.int .i64 1),.iA (.int .i64 6),.sl 8] (.call 3),gM 10 [.hJ 9] (.un .not),Gp 11 10,cP 12 [.sl 1] 11 false (.oP 1),cP 13 [.hJ 12] 11 false (.pT .one),cP 14 [.hG 13] 11 false .pV,cP 15 [.hJ 14,.iA (.int .i64 10)] 11 false (.bin .gtr),gM 16 [.hJ 11,.iA (.bool true),.hJ 15] .pick,Gp 5 16] (.cond (.sl 5) (Gz [Gm 2 6] .ret) (Gz [F6 18 1 1,Gl 19 18,Gp 20 3,gM 21 [.iA (.func 72 [] []),.sl 19,.sl 20] (.call 6),Gp 17 21] (.cond (.sl 17) (Gz [Gm 2 3] .ret) .skip))))) (Gz [Gm 2 0] .ret)))
theorem af6:zf Tryz.prog VP 20=some (aba,22,[.tmp 2]):=by kernel_rfl
def Nu (b:qa):Option Int :=
 (Kt (1:Int) (6:Int) [b.1]).bind fun r1 =>
 if r1=true then
  if (decide ((10:Int)<(b.2.length:Int)))=true then
   some (6:Int)
  else
   (Pu b.2 (fun qA=>Q_ qA b)).bind fun r2 =>
   if r2=true then
    some (3:Int)
   else
    some (0:Int)
 else
  some (6:Int)
theorem akv {b:qa} {v:Int} (h:Nu b=some v):ql 20 [(.agg [(hP b.1),(.ay (b.2.flatMap p1) b.2.length .shared)])] (hP v):=by
 refine qM dI af6 rfl rfl fun Q bl=>?_;have jw:qu [.tmp 2] Q (fun v=>(hP v)) v:=fun T H bI=>bl _ T H bI;unfold Nu at h;unfold aba;conv=>whnf
 obtain ⟨r1,eU,h⟩:=qd h;refine ⟨(pY rfl (pY rfl (pY rfl rfl))),_,NC eU,?_⟩;conv=>whnf
 cases r1
 ·conv=>whnf
  replace h:=Hf rfl h;exact p7 h jw rfl rfl
 ·conv=>whnf
  replace h:=Hg rfl h;refine bs h (fun fk h=>?_) fun fk h=>?_
  ·rw [fk];(conv=>whnf);exact p7 h jw rfl rfl
  ·rw [fk];(conv=>whnf);obtain ⟨r2,qf,h⟩:=qd h;refine ⟨_,_,IU (cs:=[(p3 b.2 .shared),(.func 71 [] [(.bU [(hP b.1),(p3 b.2 .shared)])])]) (bs:=[(p3 b.2 .shared),(.func 71 [] [(.bU [(hP b.1),(p3 b.2 .shared)])])]) (qX rfl (qX (Kp ry (qX (I5 (cs:=[(hP b.1),(p3 b.2 .shared)]) (by first | exact qi.h | rfl | (simp [sc,I.settle];done)) rfl) ry)) ry)) (by rfl) (by exact (pY (qL (fun _=>(pY rfl (pY rfl rfl))) _ _ _) (pY (JX rfl (pY (qO (pY rfl (pY (qL (fun _=>(pY rfl (pY rfl rfl))) _ _ _) rfl))) rfl)) rfl))) (ak6 ⟨(pY (qO (pY rfl (pY (qL (fun _=>(pY rfl (pY rfl rfl))) _ _ _) rfl))) rfl),by simp⟩ (fun _ _ a0=>ak4 a0) qf) rfl,?_⟩
   (conv=>whnf);cases r2
   ·(conv=>whnf);replace h:=Hf rfl h;exact p7 h jw rfl rfl
   ·(conv=>whnf);replace h:=Hg rfl h;exact p7 h jw rfl rfl

def RM (x:qa):List I:=[(hP x.1),(p3 x.2 .shared)]
instance {d:Nat} {x:qa}:qj (d+2) (RM x):=⟨(inferInstance:qj (d+2) [(hP x.1),(p3 x.2 .shared)]).pl⟩
noncomputable def abp:ez :=
 Gz [gM 1 [.hG 0] .box,gM 2 [.iA .eC] .iQ,Gm 3 0] (.seq (Gz [gM 5 [.sl 1] (.pT (.str 2)),gM 6 [.iA (.func 20 [] []),.sl 5] (.call 3),Gp 4 6] (Gz [Gn 7 4,F0 8 7 0 .neq] (.cond (.sl 8) (Gz [Gp 9 4,gM 2 [.iA .eC] .iQ,Gp 3 9] .ret) .skip))) (Gz [gM 10 [.hJ 1] (.pT (.str 2)),gM 11 [.hJ 10] (.build [.int .i64 0,.ay [] 0 .full] [(0,2)]),gM 12 [.hG 11] .x9,Gp 2 12,Gm 3 0] .ret))
theorem agk:zf Tryz.prog VW 64=some (abp,13,[.tmp 2,.tmp 3]):=by kernel_rfl
def I_ (b:qa):Option ((Option qa)×Int) :=
 (Nu b).bind fun r1 =>
 if (decide (r1≠(0:Int)))=true then
  some (none,r1)
 else
  some ((some b),(0:Int))
theorem Ks {b:qa} {v:((Option qa)×Int)} (h:I_ b=some v):ql 64 [(.agg [(hP b.1),(.ay (b.2.flatMap p1) b.2.length .shared)])] (.tuple [(Qp RM v.1),(hP v.2)]):=by
 refine qM dI agk rfl (Kl (pY (Yb (fun _=>(pY rfl (pY (qL (fun _=>(pY rfl (pY rfl rfl))) _ _ _) rfl))) _) (pY rfl rfl))) fun Q bl=>?_;have jw:qu [.tmp 2,.tmp 3] Q (fun v=>(.tuple [(Qp RM v.1),(hP v.2)])) v:=fun T H bI=>bl _ T H bI;unfold I_ at h;unfold abp;conv=>whnf
 obtain ⟨r1,eU,h⟩:=qd h;refine ⟨qj.pl,_,akv eU,?_⟩;conv=>whnf
 refine bs h (fun fk h=>?_) fun fk h=>?_
 ·rw [fk];conv=>whnf
  exact p7 h jw rfl rfl
 ·rw [fk];conv=>whnf
  refine ⟨rfl,?_⟩;conv=>whnf
  exact p7 h jw rfl rfl

noncomputable def abq:ez :=
 Gz [gM 2 [.hG 0] .box,gM 3 [.iA (.bool false)] .iQ] (Gz [F6 4 1 1,Gl 5 4,Gk 6 5,F0 7 6 1 .sub,gM 8 [.sl 2] (.oP 0),Gl 9 8,gM 10 [.hJ 9] (.x' 1 1 [.int .i64 0] [0]),gM 11 [.iA (.func 66 [] []),.iA (.int .i64 0),.sl 7,.sl 10] (.call 3),gM 12 [.hJ 11] (.un .not),Gp 13 12,cP 14 [.hJ 2] 13 false (.oP 1),cP 15 [.hJ 14] 13 false (.pT .one),⟨some 16,[.hJ 15],some (13,false),none,.x' 1 1 [.int .i64 0] [0]⟩,⟨some 17,[.iA (.func 66 [] []),.iA (.int .i64 0),.iA (.int .i64 1),.sl 16],some (13,false),none,.call 3⟩,cP 18 [.hJ 17] 13 false (.un .not),gM 19 [.hJ 13,.iA (.bool true),.hJ 18] .pick,Gp 3 19] .ret)
theorem agl:zf Tryz.prog VX 65=some (abq,20,[.tmp 3]):=by kernel_rfl
def NA (p:(Int×Int)) (c0:qa):Option Bool :=
 (Kt (0:Int) (w ((c0.2.length:Int)-(1:Int))) [p.1]).bind fun r1 =>
 if r1=true then
  (Kt (0:Int) (1:Int) [p.2]).bind fun r2 =>
  some (!r2)
 else
  some true
theorem aay {p:(Int×Int)} {c0:qa} {v:Bool} (h:NA p c0=some v):ql 65 [(.agg [(hP p.1),(hP p.2)]),(.bU [(hP c0.1),(.ay (c0.2.flatMap p1) c0.2.length .shared)])] (B v):=by
 refine qM dI agl rfl rfl fun Q bl=>?_;have jw:qu [.tmp 3] Q (fun v=>(B v)) v:=fun T H bI=>bl _ T H bI;unfold NA at h;unfold abq;conv=>whnf
 obtain ⟨r1,eU,h⟩:=qd h;refine ⟨(pY rfl (pY rfl (pY rfl rfl))),_,NC eU,?_⟩;conv=>whnf
 cases r1
 ·conv=>whnf
  replace h:=Hf rfl h;exact p7 h jw rfl rfl
 ·conv=>whnf
  replace h:=Hg rfl h;obtain ⟨r2,fk,h⟩:=qd h;refine ⟨(pY rfl (pY rfl (pY rfl rfl))),_,NC fk,?_⟩;conv=>whnf
  exact p7 h jw rfl rfl

noncomputable def RJ:ez :=
 .loop (some (Ez false [0,2,5,2,10])) (Gz [gM 9 [.sl 8,.sl 7] (.bin .lss)] (.seq (.cond (.sl 9) .skip (.exit 0)) (.seq (.block 1 (Gz [Gn 10 8,Gp 5 10] (Gz [Gn 11 1,Gn 12 0,Gn 13 5,Gh 14 12 13 2,gM 15 [.hJ 14] (.pT (.str 2)),gM 16 [.sl 11,.sl 15] (.call 6)] (.cond (.sl 16) (Gz [Gp 17 5,Gp 4 17] .ret) .skip)))) (Gs [FZ 18 8 1,Gp 8 18]))))
noncomputable def abH:ez :=
 Gz [Gm 4 0] (.seq (Gz [Gn 6 0,Gk 7 6,Gm 8 0] (.block 0 RJ)) (Gz [Gm 4 (-1)] .ret))
theorem agB:zf Tryz.prog R6 94=some (abH,19,[.tmp 4]):=by kernel_rfl
def MG (s:qb) (f:((Int×Int)→Option Bool)) (p9:Unit→Option Int):Nat→Int→Option Int
 | 0,_=>none
 | m+1,s1 =>
   if (decide (s1<(s.length:Int)))=true then
    p8 (0≤s1∧s1<(s.length:Int)) <|
    (f (ix s s1)).bind fun r1 =>
    if r1=true then
     some s1
    else
     MG s f p9 m (w (s1+(1:Int)))
   else
    p9 ()
def LP (s:qb) (f:((Int×Int)→Option Bool)):Option Int :=
 MG s f (fun _ =>
   some (-1:Int)) p_ (0:Int)
theorem alo {s:qb} {f:((Int×Int)→Option Bool)} {p9:Unit→Option Int} {s1:Int} {rq:FuncId} {qR:List I} (rG:rS qR) (Ij:∀ (qA:(Int×Int)) (r:Bool),f qA=some r→ql rq ((.agg [(hP qA.1),(hP qA.2)])::qR) (B r)) {v:Int} {Q:q'}   (jw:qu [.tmp 4] Q (fun v=>(hP v)) v) (q8:∀ (p6:List I),p9 ()=some v→qU 19 [] p6→Q (.exit 0) p6 []) {T:List I} (bX:eR (Ez false [0,2,5,2,10]) T=GG 19 [(0,(p3 s .shared)),(1,(.func rq [] qR)),(7,(hP (s.length:Int))),(8,(hP s1))]) (h:MG s f p9 p_ s1=some v) :
  dC Tryz.prog R6 94 0 none RJ T [] Q:=by
 unfold RJ;refine wp_loop bX ?_;refine .intro (fun m T H=>∃ (s1:Int),T=GG 19 [(0,(p3 s .shared)),(1,(.func rq [] qR)),(7,(hP (s.length:Int))),(8,(hP s1))]∧H=[]∧MG s f p9 m s1=some v) p_ ⟨s1,rfl,rfl,h⟩ ?_;clear h bX;rintro m T H ⟨s1,rfl,rfl,h⟩;cases m
 ·exact q7 h
 rename_i m;rw [MG.eq_2] at h;conv=>whnf
 refine bs h (fun eU h=>?_) fun eU h=>?_
 ·rw [eU];conv=>whnf
  refine qk h id fun fk h=>?_;rw [qW p1 2 qw s s1 fk];conv=>whnf
  obtain ⟨r1,qf,h⟩:=qd h;refine ⟨_,_,call6 (bs:=((.agg [(hP (ix s s1).1),(hP (ix s s1).2)])::qR)) (by simp only [ss,rG.ij,rG.cr];rfl) (by simp only [ss,rG.ij];exact (pY (I1 (pY rfl (pY rfl rfl))) rG.MO)) (Ij _ _ qf) rfl,?_⟩;conv=>whnf
  cases r1
  ·(conv=>whnf);replace h:=Hf rfl h;exact ⟨m,sm m,(w (s1+(1:Int))),rfl,rfl,h⟩
  ·(conv=>whnf);replace h:=Hg rfl h;exact p7 h jw rfl rfl
 ·rw [eU];conv=>whnf
  exact q8  _ h ⟨rfl,rfl⟩
theorem Rd {s:qb} {f:((Int×Int)→Option Bool)} {rq:FuncId} {qR:List I} (rG:rS qR) (Ij:∀ (qA:(Int×Int)) (r:Bool),f qA=some r→ql rq ((.agg [(hP qA.1),(hP qA.2)])::qR) (B r)) {v:Int} (h:LP s f=some v):ql 94 [(.ay (s.flatMap p1) s.length .shared),(.func rq [] qR)] (hP v):=by
 refine qM dI agB rfl rfl fun Q bl=>?_;have jw:qu [.tmp 4] Q (fun v=>(hP v)) v:=fun T H bI=>bl _ T H bI;unfold LP at h;unfold abH;obtain ⟨Ho,qz⟩:∃ c,RJ=c:=⟨_,rfl⟩;rw [qz];conv=>whnf
 subst qz;refine alo rG Ij ?_ ?_ (by exact rfl) h
 ·exact fun T H bI=>jw T H bI
 ·intro  p6 h qh;obtain ⟨qS,rfl⟩:=qh.ex;conv=>whnf
  exact p7 h jw rfl rfl

noncomputable def abt:ez :=
 Gz [gM 4 [.iA (.bool false)] .iQ] (Gz [Gp 5 0,Gp 6 1,gM 7 [.iA (.func 94 [] []),.sl 5,.sl 6] (.call 6),F0 8 7 0 .geq,Gp 4 8] .ret)
theorem agn:zf Tryz.prog VZ 67=some (abt,9,[.tmp 4]):=by kernel_rfl
def ND (s:qb) (f:((Int×Int)→Option Bool)):Option Bool :=
 (LP s f).bind fun r1 =>
 some (decide ((0:Int)≤r1))
theorem aaz {s:qb} {f:((Int×Int)→Option Bool)} {rq:FuncId} {qR:List I} (rG:rS qR) (Ij:∀ (qA:(Int×Int)) (r:Bool),f qA=some r→ql rq ((.agg [(hP qA.1),(hP qA.2)])::qR) (B r)) {v:Bool} (h:ND s f=some v):ql 67 [(.ay (s.flatMap p1) s.length .shared),(.func rq [] qR)] (B v):=by
 refine qM dI agn rfl rfl fun Q bl=>?_;have jw:qu [.tmp 4] Q (fun v=>(B v)) v:=fun T H bI=>bl _ T H bI;unfold ND at h;unfold abt;conv=>whnf
 obtain ⟨r1,eU,h⟩:=qd h;refine ⟨_,_,IU (cs:=[(p3 s .shared),(.func rq [] qR)]) (bs:=[(p3 s .shared),(.func rq [] qR)]) (qX rfl (qX (rG.fn _ _) ry)) (by rfl) (by exact (pY (qL (fun _=>(pY rfl (pY rfl rfl))) _ _ _) (pY (rG.OH _) rfl))) (Rd rG Ij eU) rfl,?_⟩;conv=>whnf
 exact p7 h jw rfl rfl

noncomputable def NL:ez :=
 .loop (some (Ez false [1,1,5,1,2,1,28,3,40])) (Gz [gM 42 [.sl 41,.sl 40] (.bin .lss)] (.seq (.cond (.sl 42) .skip (.exit 1)) (.seq (.block 2 (Gz [gM 43 [.sl 39,.sl 41] (.pM 2),gM 44 [.hJ 43] (.pT (.str 2)),gM 12 [] (.alloc [.int .i64 0,.int .i64 0]),⟨none,[.sl 12,.hG 44],none,none,.st 2⟩] (.seq (Gz [gM 45 [.sl 12] (.oP 0),Gl 46 45,gM 47 [.sl 10,.hJ 46] (.y3 10 1),Gl 48 47,F0 49 48 0 .gtr] (.cond (.sl 49) (Gz [Gm 4 0,Gm 5 0,Gm 6 11] .ret) .skip)) (Gs [F6 50 12 0,Gl 51 50,gM 52 [.sl 10,.hJ 51] (.y3 10 1),⟨none,[.hG 52,.iA (.int .i64 1)],none,none,.st 1⟩])))) (Gs [FZ 53 41 1,Gp 41 53]))))
noncomputable def Rm:ez :=
 .loop (some (Ez false [7,1,5,1,1,1,47,3,16])) (Gz [gM 66 [.sl 65,.sl 64] (.bin .lss)] (.seq (.cond (.sl 66) .skip (.exit 3)) (.seq (.block 4 (Gz [gM 67 [.sl 63,.sl 65] (.pM 2),gM 68 [.hJ 67] (.pT (.str 2)),gM 17 [] (.alloc [.int .i64 0,.int .i64 0]),⟨none,[.sl 17,.hG 68],none,none,.st 2⟩] (Gz [Gn 70 7,gM 71 [.hJ 17] (.pT (.str 2)),gM 72 [.iA (.func 68 [] []),.sl 70,.sl 71] (.call 3),Gp 69 72,GJ 73 69 0,gM 74 [.hJ 69] (.ext 1),Gp 18 73,Gp 19 74] (.seq (Gz [Gp 75 18,Gp 76 15,F1 77 75 76 .neq] (.cond (.sl 77) (Gz [Gm 4 0,Gm 5 0,Gm 6 27] .ret) .skip)) (Gs [Gp 78 19,Gp 15 78]))))) (Gs [FZ 79 65 1,Gp 65 79]))))
noncomputable def aa9:ez :=
 Gz [gM 2 [.hG 0] .box, Gm 4 0, Gm 5 0, Gm 6 0] (Gz [gM 21 [.sl 2] (.pT (.str 2)), gM 22 [.iA (.func 64 [] []), .sl 21] (.call 3), Gp 20 22, GJ 23 20 0, gM 24 [.hJ 20] (.ext 1), Gp 7 23, Gp 8 24] (Gz [gM 25 [.hJ 2] (.zv 65 0 1), Gp 9 25] (.seq (.block 0 (Gz [Gn 27 8, F0 28 27 0 .neq, Gp 26 28] (.cond (.sl 26) (Gz [Gp 29 8, Gm 4 0, Gm 5 0, Gp 6 29] .ret) (Gz [Gn 31 1, Gk 32 31, F0 33 32 0 .eql, Gp 30 33] (.cond (.sl 30) (Gz [Gm 4 0, Gm 5 0, Gm 6 6] .ret) (Gz [Gn 35 1, Gp 36 9, gM 37 [.iA (.func 67 [] []), .sl 35, .sl 36] (.call 6), Gp 34 37] (.cond (.sl 34) (Gz [Gm 4 0, Gm 5 0, Gm 6 3] .ret) .skip))))))) (Gz [gM 10 [] (.alloc [.int .i64 0, .int .i64 0, .int .i64 0, .int .i64 0, .int .i64 0, .int .i64 0, .int .i64 0, .int .i64 0, .int .i64 0, .int .i64 0])] (Gz [gM 38 [.sl 10] (.other (Oper.mk (some 38) (Op.slice 89 (Operand.tmp 10) none none none) 38 "match.go:50" (Array.mk []) none) 0), ⟨none, [.hG 38], none, none, .other (Oper.mk none (Op.call (Call.mk (Callee.builtin Builtin.clear) (Array.mk [Operand.tmp 38]) (Array.mk [38]))) 0 "match.go:50" (Array.mk [Edge.mk 0 Ground.data]) none) 0⟩] (.seq (Gz [Gn 39 1, gM 40 [.sl 39] .pV, Gm 41 0] (.block 1 NL)) (Gz [Gn 55 7, Gn 56 1, gM 57 [.hJ 56, .iA (.int .i64 0)] (.pM 2), gM 58 [.hJ 57] (.pT (.str 2)), gM 59 [.iA (.func 68 [] []), .sl 55, .sl 58] (.call 3), Gp 54 59, GJ 60 54 0, gM 61 [.hJ 54] (.ext 1), Gp 13 60, Gp 14 61] (Gz [Gn 62 13, Gp 15 62] (.seq (Gz [Gp 63 1, gM 64 [.sl 63] .pV, Gm 65 0] (.block 3 Rm)) (Gz [Gp 80 13, Gp 81 15, Gp 4 80, Gp 5 81, Gm 6 0] .ret))))))))))
theorem af4:zf Tryz.prog NW 18=some (aa9,82,[.tmp 4,.tmp 5,.tmp 6]):=by kernel_rfl
def Pj (row:qb) (p9:Unit→Option (Int×Int×Int)):Nat→Int→p5→Option (Int×Int×Int)
 | 0,_,_=>none
 | m+1,s1,s2 =>
   if (decide (s1<(row.length:Int)))=true then
    p8 (0≤s1∧s1<(row.length:Int)) <|
    p8 (0≤(ix row s1).1∧(ix row s1).1<(10:Int)∧10=s2.length) <|
    if (decide ((0:Int)<(ix s2 ((ix row s1).1))))=true then
     some ((0:Int),(0:Int),(11:Int))
    else
     p8 (0≤(ix row s1).1∧(ix row s1).1<(10:Int)∧10=s2.length) <|
     Pj row p9 m (w (s1+(1:Int))) (s2.set ((ix row s1).1).toNat (1:Int))
   else
    p9 ()
def Mm (row:qb) (qB:Unit→Option (Int×Int×Int)):Nat→Int→p5→Option (Int×Int×Int)
 | 0,_,_=>none
 | m+1,s3,Gy =>
   if (decide (s3<(row.length:Int)))=true then
    p8 (0≤s3∧s3<(row.length:Int)) <|
    p8 (0≤(ix row s3).1∧(ix row s3).1<(10:Int)∧10=Gy.length) <|
    if (decide ((0:Int)<(ix Gy ((ix row s3).1))))=true then
     some ((0:Int),(0:Int),(11:Int))
    else
     p8 (0≤(ix row s3).1∧(ix row s3).1<(10:Int)∧10=Gy.length) <|
     Mm row qB m (w (s3+(1:Int))) (Gy.set ((ix row s3).1).toNat (1:Int))
   else
    qB ()
def Mn (row:qb) (bR:qa) (rV:Int→Option (Int×Int×Int)):Nat→Int→Int→Option (Int×Int×Int)
 | 0,_,_=>none
 | m+1,qg,qp =>
   if (decide (qp<(row.length:Int)))=true then
    p8 (0≤qp∧qp<(row.length:Int)) <|
    (K3 bR (ix row qp)).bind fun qC =>
    if (decide (qC.1≠qg))=true then
     some ((0:Int),(0:Int),(27:Int))
    else
     Mn row bR rV m qC.2 (w (qp+(1:Int)))
   else
    rV qg
def Nt (b:qa) (row:qb):Option (Int×Int×Int) :=
 (I_ b).bind fun r1 =>
 match r1 with
 | (none,q1) =>
   if (decide (q1≠(0:Int)))=true then
    some ((0:Int),(0:Int),q1)
   else
    if (decide ((row.length:Int)=(0:Int)))=true then
     some ((0:Int),(0:Int),(6:Int))
    else
     (ND row (fun qA=>NA qA b)).bind fun r2 =>
     if r2=true then
      some ((0:Int),(0:Int),(3:Int))
     else
      p8 ((List.replicate 10 (0:Int)).length=10) <|
      Pj row (fun _ =>
        p8 (0≤(0:Int)∧(0:Int)<(row.length:Int)) <|
        none) p_ (0:Int) (List.replicate 10 (0:Int))
 | (some bR,q1) =>
   if (decide (q1≠(0:Int)))=true then
    some ((0:Int),(0:Int),q1)
   else
    if (decide ((row.length:Int)=(0:Int)))=true then
     some ((0:Int),(0:Int),(6:Int))
    else
     (ND row (fun qA=>NA qA b)).bind fun r3 =>
     if r3=true then
      some ((0:Int),(0:Int),(3:Int))
     else
      p8 ((List.replicate 10 (0:Int)).length=10) <|
      Mm row (fun _ =>
        p8 (0≤(0:Int)∧(0:Int)<(row.length:Int)) <|
        (K3 bR (ix row (0:Int))).bind fun r4 =>
        Mn row bR (fun xZ =>
          some (r4.1,xZ,(0:Int))) p_ r4.1 (0:Int)) p_ (0:Int) (List.replicate 10 (0:Int))
theorem akn {row:qb} {p9:Unit→Option (Int×Int×Int)} {s1:Int} {s2:p5} {v:(Int×Int×Int)} {Q:q'} {bA:au}  (jw:qu [.tmp 4,.tmp 5,.tmp 6] Q (fun v=>(.tuple [(hP v.1),(hP v.2.1),(hP v.2.2)])) v) (q8:∀ (bQ:au) (q_:List au) (p6:List I),p9 ()=some v→qU 82 [(1,(p3 row .shared)),(7,.eC)] p6→Q (.exit 1) p6 (bA::bQ::q_)) {T:List I} (bX:eR (Ez false [1,1,5,1,2,1,28,3,40]) T=GG 82 [(1,(p3 row .shared)),(7,.eC),(10,(.ptr 1 0)),(39,(p3 row .shared)),(40,(hP (row.length:Int))),(41,(hP s1))]) (h:Pj row p9 p_ s1 s2=some v) :
  dC Tryz.prog NW 18 0 none NL T [bA,au.cells (s2.map hP)] Q:=by
 unfold NL;refine wp_loop bX ?_;refine .intro (fun m T H=>∃ (s1:Int) (s2:p5) (NU:List au),T=GG 82 [(1,(p3 row .shared)),(7,.eC),(10,(.ptr 1 0)),(39,(p3 row .shared)),(40,(hP (row.length:Int))),(41,(hP s1))]∧H=(bA::au.cells (s2.map hP)::NU)∧Pj row p9 m s1 s2=some v) p_ ⟨s1,s2,[],rfl,rfl,h⟩ ?_;clear h bX;rintro m T H ⟨s1,s2,NU,rfl,rfl,h⟩;cases m
 ·exact q7 h
 rename_i m;rw [Pj.eq_2] at h;conv=>whnf
 refine bs h (fun rr h=>?_) fun rr h=>?_
 ·rw [rr];conv=>whnf
  refine qk h id fun qN h=>?_;rw [qW p1 2 qw row s1 qN];conv=>whnf
  refine DW (x:=au.cells [(hP (0:Int)),(hP (0:Int))]) (by first | exact qi.h | rfl | (simp [sc,I.settle];done)) ?_
  conv=>whnf
  rw [rk];refine DW (x:=au.cells [(hP (ix row s1).1),(hP (ix row s1).2)]) (by first | exact qi.h | rfl | (simp [sc,I.settle];done)) ?_
  conv=>whnf
  obtain ⟨qQ,h⟩:=qn h;refine ⟨⟨qQ.1,qQ.2.1⟩,?_⟩;replace qQ:0≤(ix row s1).1∧(ix row s1).1<(s2.length:Int):=⟨qQ.1,by have:=qQ.2;omega⟩;conv=>whnf
  refine IL hP s2 ((ix row s1).1) qQ ?_;conv=>whnf
  refine bs h (fun q5 h=>?_) fun q5 h=>?_
  ·rw [q5];(conv=>whnf);exact p7 h jw rfl rfl
  ·rw [q5];(conv=>whnf);refine DW (x:=au.cells [(hP (ix row s1).1),(hP (ix row s1).2)]) (by first | exact qi.h | rfl | (simp [sc,I.settle];done)) ?_
   (conv=>whnf);obtain ⟨qV,h⟩:=qn h;refine ⟨⟨qV.1,qV.2.1⟩,?_⟩;replace qV:0≤(ix row s1).1∧(ix row s1).1<(s2.length:Int):=⟨qV.1,by have:=qV.2;omega⟩;(conv=>whnf);refine Kq hP s2 ((ix row s1).1) (1:Int) qV ?_;(conv=>whnf);exact ⟨m,sm m,(w (s1+(1:Int))),(s2.set ((ix row s1).1).toNat (1:Int)),_,rfl,rfl,h⟩
 ·rw [rr];conv=>whnf
  exact q8 _ _ _ h ⟨rfl,rfl⟩
theorem ako {row:qb} {qB:Unit→Option (Int×Int×Int)} {s3:Int} {Gy:p5} {bR:qa} {v:(Int×Int×Int)} {Q:q'} {bA:au}  (jw:qu [.tmp 4,.tmp 5,.tmp 6] Q (fun v=>(.tuple [(hP v.1),(hP v.2.1),(hP v.2.2)])) v) (IK:∀ (h_:au) (q_:List au) (p6:List I),qB ()=some v→qU 82 [(1,(p3 row .shared)),(7,(.bU [(hP bR.1),(p3 bR.2 .shared)]))] p6→Q (.exit 1) p6 (bA::h_::q_)) {T:List I} (bX:eR (Ez false [1,1,5,1,2,1,28,3,40]) T=GG 82 [(1,(p3 row .shared)),(7,(.bU [(hP bR.1),(p3 bR.2 .shared)])),(10,(.ptr 1 0)),(39,(p3 row .shared)),(40,(hP (row.length:Int))),(41,(hP s3))]) (h:Mm row qB p_ s3 Gy=some v) :
  dC Tryz.prog NW 18 0 none NL T [bA,au.cells (Gy.map hP)] Q:=by
 unfold NL;refine wp_loop bX ?_;refine .intro (fun m T H=>∃ (s3:Int) (Gy:p5) (NU:List au),T=GG 82 [(1,(p3 row .shared)),(7,(.bU [(hP bR.1),(p3 bR.2 .shared)])),(10,(.ptr 1 0)),(39,(p3 row .shared)),(40,(hP (row.length:Int))),(41,(hP s3))]∧H=(bA::au.cells (Gy.map hP)::NU)∧Mm row qB m s3 Gy=some v) p_ ⟨s3,Gy,[],rfl,rfl,h⟩ ?_;clear h bX;rintro m T H ⟨s3,Gy,NU,rfl,rfl,h⟩;cases m
 ·exact q7 h
 rename_i m;rw [Mm.eq_2] at h;conv=>whnf
 refine bs h (fun q9 h=>?_) fun q9 h=>?_
 ·rw [q9];conv=>whnf
  refine qk h id fun GM h=>?_;rw [qW p1 2 qw row s3 GM];conv=>whnf
  refine DW (x:=au.cells [(hP (0:Int)),(hP (0:Int))]) (by first | exact qi.h | rfl | (simp [sc,I.settle];done)) ?_
  conv=>whnf
  rw [rk];refine DW (x:=au.cells [(hP (ix row s3).1),(hP (ix row s3).2)]) (by first | exact qi.h | rfl | (simp [sc,I.settle];done)) ?_
  conv=>whnf
  obtain ⟨ru,h⟩:=qn h;refine ⟨⟨ru.1,ru.2.1⟩,?_⟩;replace ru:0≤(ix row s3).1∧(ix row s3).1<(Gy.length:Int):=⟨ru.1,by have:=ru.2;omega⟩;conv=>whnf
  refine IL hP Gy ((ix row s3).1) ru ?_;conv=>whnf
  refine bs h (fun Hr h=>?_) fun Hr h=>?_
  ·rw [Hr];(conv=>whnf);exact p7 h jw rfl rfl
  ·rw [Hr];(conv=>whnf);refine DW (x:=au.cells [(hP (ix row s3).1),(hP (ix row s3).2)]) (by first | exact qi.h | rfl | (simp [sc,I.settle];done)) ?_
   (conv=>whnf);obtain ⟨G9,h⟩:=qn h;refine ⟨⟨G9.1,G9.2.1⟩,?_⟩;replace G9:0≤(ix row s3).1∧(ix row s3).1<(Gy.length:Int):=⟨G9.1,by have:=G9.2;omega⟩;(conv=>whnf);refine Kq hP Gy ((ix row s3).1) (1:Int) G9 ?_;(conv=>whnf);exact ⟨m,sm m,(w (s3+(1:Int))),(Gy.set ((ix row s3).1).toNat (1:Int)),_,rfl,rfl,h⟩
 ·rw [q9];conv=>whnf
  exact IK _ _ _ h ⟨rfl,rfl⟩
theorem akp {row:qb} {bR:qa} {rV:Int→Option (Int×Int×Int)} {qg:Int} {qp:Int} {r4:(Int×Int)} {v:(Int×Int×Int)} {Q:q'} {bA:au} {h_:au} {q_:List au} (jw:qu [.tmp 4,.tmp 5,.tmp 6] Q (fun v=>(.tuple [(hP v.1),(hP v.2.1),(hP v.2.2)])) v) (L_:∀ (xZ:Int) (q_:List au) (p6:List I),rV xZ=some v→qU 82 [(13,(hP r4.1)),(15,(hP xZ))] p6→Q (.exit 3) p6 (bA::h_::q_)) {T:List I} (bX:eR (Ez false [7,1,5,1,1,1,47,3,16]) T=GG 82 [(7,(.bU [(hP bR.1),(p3 bR.2 .shared)])),(13,(hP r4.1)),(15,(hP qg)),(63,(p3 row .shared)),(64,(hP (row.length:Int))),(65,(hP qp))]) (h:Mn row bR rV p_ qg qp=some v) :
  dC Tryz.prog NW 18 0 none Rm T (bA::h_::q_) Q:=by
 unfold Rm;refine wp_loop bX ?_;refine .intro (fun m T H=>∃ (qg qp:Int) (Vo:List au),T=GG 82 [(7,(.bU [(hP bR.1),(p3 bR.2 .shared)])),(13,(hP r4.1)),(15,(hP qg)),(63,(p3 row .shared)),(64,(hP (row.length:Int))),(65,(hP qp))]∧H=(bA::h_::Vo)∧Mn row bR rV m qg qp=some v) p_ ⟨qg,qp,q_,rfl,rfl,h⟩ ?_;clear h bX;rintro m T H ⟨qg,qp,Vo,rfl,rfl,h⟩;cases m
 ·exact q7 h
 rename_i m;rw [Mn.eq_2] at h;conv=>whnf
 refine bs h (fun Jl h=>?_) fun Jl h=>?_
 ·rw [Jl];conv=>whnf
  refine qk h id fun Kf h=>?_;rw [qW p1 2 qw row qp Kf];conv=>whnf
  refine DW (x:=au.cells [(hP (0:Int)),(hP (0:Int))]) (by first | exact qi.h | rfl | (simp [sc,I.settle];done)) ?_
  conv=>whnf
  rw [rk];refine DW (x:=au.cells [(hP (ix row qp).1),(hP (ix row qp).2)]) (by first | exact qi.h | rfl | (simp [sc,I.settle];done)) ?_
  conv=>whnf
  obtain ⟨qC,IZ,h⟩:=qd h;refine ⟨qj.pl,_,Jv IZ,?_⟩;conv=>whnf
  refine bs h (fun Ii h=>?_) fun Ii h=>?_
  ·rw [Ii];(conv=>whnf);exact p7 h jw rfl rfl
  ·rw [Ii];(conv=>whnf);exact ⟨m,sm m,qC.2,(w (qp+(1:Int))),_,rfl,rfl,h⟩
 ·rw [Jl];conv=>whnf
  exact L_ _ _ _ h ⟨rfl,rfl⟩
theorem akq {b:qa} {row:qb} {v:(Int×Int×Int)} (h:Nt b row=some v):ql 18 [(.agg [(hP b.1),(.ay (b.2.flatMap p1) b.2.length .shared)]),(.ay (row.flatMap p1) row.length .shared)] (.tuple [(hP v.1),(hP v.2.1),(hP v.2.2)]):=by
 refine qM dI af4 rfl (Kl (pY rfl (pY rfl (pY rfl rfl)))) fun Q bl=>?_;have jw:qu [.tmp 4,.tmp 5,.tmp 6] Q (fun v=>(.tuple [(hP v.1),(hP v.2.1),(hP v.2.2)])) v:=fun T H bI=>bl _ T H bI;unfold Nt at h;unfold aa9;obtain ⟨Ho,qz⟩:∃ c,NL=c:=⟨_,rfl⟩;rw [qz];obtain ⟨J8,rm⟩:∃ c,Rm=c:=⟨_,rfl⟩;rw [rm];conv=>whnf
 obtain ⟨r1,eU,h⟩:=qd h;rcases r1 with ⟨_ | bR,q1⟩
 ·refine ⟨qj.pl,_,Ks eU,?_⟩;conv=>whnf
  refine bs h (fun fk h=>?_) fun fk h=>?_
  ·rw [fk];(conv=>whnf);exact p7 h jw rfl rfl
  ·rw [fk];(conv=>whnf);refine bs h (fun qf h=>?_) fun qf h=>?_
   ·rw [qf];(conv=>whnf);exact p7 h jw rfl rfl
   ·rw [qf];(conv=>whnf);obtain ⟨r2,qo,h⟩:=qd h;refine ⟨_,_,IU (cs:=[(p3 row .shared),(.func 65 [] [(.bU [(hP b.1),(p3 b.2 .shared)])])]) (bs:=[(p3 row .shared),(.func 65 [] [(.bU [(hP b.1),(p3 b.2 .shared)])])]) (qX rfl (qX (Kp ry (qX (I5 (cs:=[(hP b.1),(p3 b.2 .shared)]) (by first | exact qi.h | rfl | (simp [sc,I.settle];done)) rfl) ry)) ry)) (by rfl) (by exact (pY (qL (fun _=>(pY rfl (pY rfl rfl))) _ _ _) (pY (JX rfl (pY (qO (pY rfl (pY (qL (fun _=>(pY rfl (pY rfl rfl))) _ _ _) rfl))) rfl)) rfl))) (aaz ⟨(pY (qO (pY rfl (pY (qL (fun _=>(pY rfl (pY rfl rfl))) _ _ _) rfl))) rfl),by simp⟩ (fun _ _ a0=>aay a0) qo) rfl,?_⟩
    (conv=>whnf);cases r2
    ·(conv=>whnf);replace h:=Hf rfl h;refine ⟨_,_,fun C=>X1 rfl (e:=3) (len:=10) (by kernel_rfl) (by kernel_rfl) (by decide),?_⟩;(conv=>whnf);obtain ⟨qD,h⟩:=qn h;refine ⟨_,_,fun C=>(OB rfl).trans (Wp (e:=3) (l:=(List.replicate 10 (0:Int))) (by kernel_rfl) (by kernel_rfl) (by kernel_rfl) (sr _) (by first | exact qi.h | rfl | (simp [sc,I.settle];done)) qD),?_⟩
     (conv=>whnf);subst qz;refine akn ?_ ?_ (by exact rfl) h
     ·exact fun T H bI=>jw T H bI
     ·intro bQ q_ p6 h qh;obtain ⟨qS,rfl⟩:=qh.ex;(conv=>whnf);refine qk h id fun rK h=>?_;rw [qW p1 2 qw row (0:Int) rK];(conv=>whnf);exact q7 h
    ·(conv=>whnf);replace h:=Hg rfl h;exact p7 h jw rfl rfl
 ·refine ⟨qj.pl,_,Ks eU,?_⟩;conv=>whnf
  refine bs h (fun rj h=>?_) fun rj h=>?_
  ·rw [rj];(conv=>whnf);exact p7 h jw rfl rfl
  ·rw [rj];(conv=>whnf);refine bs h (fun rA h=>?_) fun rA h=>?_
   ·rw [rA];(conv=>whnf);exact p7 h jw rfl rfl
   ·rw [rA];(conv=>whnf);obtain ⟨r3,rW,h⟩:=qd h;refine ⟨_,_,IU (cs:=[(p3 row .shared),(.func 65 [] [(.bU [(hP b.1),(p3 b.2 .shared)])])]) (bs:=[(p3 row .shared),(.func 65 [] [(.bU [(hP b.1),(p3 b.2 .shared)])])]) (qX rfl (qX (Kp ry (qX (I5 (cs:=[(hP b.1),(p3 b.2 .shared)]) (by first | exact qi.h | rfl | (simp [sc,I.settle];done)) rfl) ry)) ry)) (by rfl) (by exact (pY (qL (fun _=>(pY rfl (pY rfl rfl))) _ _ _) (pY (JX rfl (pY (qO (pY rfl (pY (qL (fun _=>(pY rfl (pY rfl rfl))) _ _ _) rfl))) rfl)) rfl))) (aaz ⟨(pY (qO (pY rfl (pY (qL (fun _=>(pY rfl (pY rfl rfl))) _ _ _) rfl))) rfl),by simp⟩ (fun _ _ a0=>aay a0) rW) rfl,?_⟩
    (conv=>whnf);cases r3
    ·(conv=>whnf);replace h:=Hf rfl h;refine ⟨_,_,fun C=>X1 rfl (e:=3) (len:=10) (by kernel_rfl) (by kernel_rfl) (by decide),?_⟩;(conv=>whnf);obtain ⟨rH,h⟩:=qn h;refine ⟨_,_,fun C=>(OB rfl).trans (Wp (e:=3) (l:=(List.replicate 10 (0:Int))) (by kernel_rfl) (by kernel_rfl) (by kernel_rfl) (sr _) (by first | exact qi.h | rfl | (simp [sc,I.settle];done)) rH),?_⟩
     (conv=>whnf);subst qz;refine ako ?_ ?_ (by exact rfl) h
     ·exact fun T H bI=>jw T H bI
     ·intro h_ q_ p6 h qh;obtain ⟨qS,rfl⟩:=qh.ex;(conv=>whnf);refine qk h id fun Jk h=>?_;rw [qW p1 2 qw row (0:Int) Jk];(conv=>whnf);obtain ⟨r4,JP,h⟩:=qd h;refine ⟨qj.pl,_,Jv JP,?_⟩;(conv=>whnf);subst rm;refine akp ?_ ?_ (by exact rfl) h
      ·exact fun T H bI=>jw T H bI
      ·intro xZ q_ p6 h qh;obtain ⟨qS,rfl⟩:=qh.ex;(conv=>whnf);exact p7 h jw rfl rfl
    ·(conv=>whnf);replace h:=Hg rfl h;exact p7 h jw rfl rfl

noncomputable def Rq:ez :=
 .loop (some (Ez false [1,1,1,1,49])) (.seq (Gz [Gn 19 3,gM 20 [.sl 1] (.oP 1),Gl 21 20,Gk 22 21,F1 23 19 22 .lss] (.cond (.sl 23) .skip (.exit 0))) (.seq (.block 1 (Gz [gM 26 [.sl 1] (.oP 1),Gl 27 26,Gn 28 3,Gh 29 27 28 2,gM 30 [.hJ 29] (.pT (.str 2)),gM 4 [] (.alloc [.int .i64 0,.int .i64 0]),⟨none,[.sl 4,.hG 30],none,none,.st 2⟩] (Gz [gM 31 [.sl 4] (.oP 0),Gl 32 31,F0 33 32 0 .lss,Gp 34 33,cP 35 [.sl 4] 34 false (.oP 0),cP 36 [.hJ 35] 34 false (.pT .one),cP 37 [.sl 1] 34 false (.oP 0),cP 38 [.hJ 37] 34 false (.pT .one),cP 39 [.hJ 36,.hJ 38] 34 false (.bin .geq),gM 40 [.hJ 34,.iA (.bool true),.hJ 39] .pick,Gp 41 40,cP 42 [.sl 4] 41 false (.oP 1),cP 43 [.hJ 42] 41 false (.pT .one),cP 44 [.hJ 43,.iA (.int .i64 0)] 41 false (.bin .lss),gM 45 [.hJ 41,.iA (.bool true),.hJ 44] .pick,Gp 46 45,cP 47 [.hJ 4] 46 false (.oP 1),cP 48 [.hJ 47] 46 false (.pT .one),cP 49 [.sl 1] 46 false (.oP 0),cP 50 [.hJ 49] 46 false (.pT .one),cP 51 [.hJ 48,.hJ 50] 46 false (.bin .geq),gM 52 [.hJ 46,.iA (.bool true),.hJ 51] .pick] (.cond (.sl 52) (Gz [Gm 2 3] .ret) .skip)))) (Gs [Gp 24 3,FZ 25 24 1,Gp 3 25])))
noncomputable def abb:ez :=
 Gz [gM 1 [.hG 0] .box,Gm 2 0] (.seq (Gz [gM 5 [.sl 1] (.oP 0),Gl 6 5,F0 7 6 1 .lss,Gp 8 7,cP 9 [.sl 1] 8 false (.oP 0),cP 10 [.hJ 9] 8 false (.pT .one),cP 11 [.hJ 10,.iA (.int .i64 6)] 8 false (.bin .gtr),gM 12 [.hJ 8,.iA (.bool true),.hJ 11] .pick,Gp 13 12,cP 14 [.sl 1] 13 false (.oP 1),cP 15 [.hJ 14] 13 false (.pT .one),cP 16 [.hG 15] 13 false .pV,cP 17 [.hJ 16,.iA (.int .i64 10)] 13 false (.bin .gtr),gM 18 [.hJ 13,.iA (.bool true),.hJ 17] .pick] (.cond (.sl 18) (Gz [Gm 2 6] .ret) .skip)) (.seq (Gz [Gm 3 0] (.block 0 Rq)) (Gz [Gm 2 0] .ret)))
theorem af7:zf Tryz.prog RZ 21=some (abb,53,[.tmp 2]):=by kernel_rfl
def Ms (b:qa) (p9:Unit→Option Int):Nat→Int→Option Int
 | 0,_=>none
 | m+1,s1 =>
   if (decide (s1<(b.2.length:Int)))=true then
    p8 (0≤s1∧s1<(b.2.length:Int)) <|
    if (decide ((ix b.2 s1).1<(0:Int)))=true then
     some (3:Int)
    else
     if (decide (b.1≤(ix b.2 s1).1))=true then
      some (3:Int)
     else
      if (decide ((ix b.2 s1).2<(0:Int)))=true then
       some (3:Int)
      else
       if (decide (b.1≤(ix b.2 s1).2))=true then
        some (3:Int)
       else
        Ms b p9 m (w (s1+(1:Int)))
   else
    p9 ()
def LJ (b:qa):Option Int :=
 if (decide (b.1<(1:Int)))=true then
  some (6:Int)
 else
  if (decide ((6:Int)<b.1))=true then
   some (6:Int)
  else
   if (decide ((10:Int)<(b.2.length:Int)))=true then
    some (6:Int)
   else
    Ms b (fun _ =>
      some (0:Int)) p_ (0:Int)
theorem akw {b:qa} {p9:Unit→Option Int} {s1:Int} {v:Int} {Q:q'}   (jw:qu [.tmp 2] Q (fun v=>(hP v)) v) (q8:∀ (bA:au) (q_:List au) (p6:List I),p9 ()=some v→qU 53 [] p6→Q (.exit 0) p6 (bA::q_)) {T:List I} (bX:eR (Ez false [1,1,1,1,49]) T=GG 53 [(1,(.ptr 0 0)),(3,(hP s1))]) (h:Ms b p9 p_ s1=some v) :
  dC Tryz.prog RZ 21 0 none Rq T [Hv b] Q:=by
 unfold Rq;refine wp_loop bX ?_;refine .intro (fun m T H=>∃ (s1:Int) (Vp:List au),T=GG 53 [(1,(.ptr 0 0)),(3,(hP s1))]∧H=(Hv b::Vp)∧Ms b p9 m s1=some v) p_ ⟨s1,[],rfl,rfl,h⟩ ?_;clear h bX;rintro m T H ⟨s1,Vp,rfl,rfl,h⟩;cases m
 ·exact q7 h
 rename_i m;rw [Ms.eq_2] at h;conv=>whnf
 refine bs h (fun qo h=>?_) fun qo h=>?_
 ·rw [qo];conv=>whnf
  refine qk h id fun qD h=>?_;rw [qW p1 2 qw b.2 s1 qD];conv=>whnf
  refine DW (x:=au.cells [(hP (0:Int)),(hP (0:Int))]) (by first | exact qi.h | rfl | (simp [sc,I.settle];done)) ?_
  conv=>whnf
  rw [rk];refine DW (x:=au.cells [(hP (ix b.2 s1).1),(hP (ix b.2 s1).2)]) (by first | exact qi.h | rfl | (simp [sc,I.settle];done)) ?_
  conv=>whnf
  refine bs h (fun rr h=>?_) fun rr h=>?_
  ·rw [rr];(conv=>whnf);exact p7 h jw rfl rfl
  ·rw [rr];(conv=>whnf);refine DW (x:=au.cells [(hP (ix b.2 s1).1),(hP (ix b.2 s1).2)]) (by first | exact qi.h | rfl | (simp [sc,I.settle];done)) ?_
   (conv=>whnf);refine bs h (fun qN h=>?_) fun qN h=>?_
   ·rw [qN];(conv=>whnf);exact p7 h jw rfl rfl
   ·rw [qN];(conv=>whnf);refine DW (x:=au.cells [(hP (ix b.2 s1).1),(hP (ix b.2 s1).2)]) (by first | exact qi.h | rfl | (simp [sc,I.settle];done)) ?_
    (conv=>whnf);refine bs h (fun qQ h=>?_) fun qQ h=>?_
    ·rw [qQ];(conv=>whnf);exact p7 h jw rfl rfl
    ·rw [qQ];(conv=>whnf);refine DW (x:=au.cells [(hP (ix b.2 s1).1),(hP (ix b.2 s1).2)]) (by first | exact qi.h | rfl | (simp [sc,I.settle];done)) ?_
     (conv=>whnf);refine bs h (fun q5 h=>?_) fun q5 h=>?_
     ·rw [q5];(conv=>whnf);exact p7 h jw rfl rfl
     ·rw [q5];(conv=>whnf);exact ⟨m,sm m,(w (s1+(1:Int))),_,rfl,rfl,h⟩
 ·rw [qo];conv=>whnf
  exact q8 _ _ _ h ⟨rfl,rfl⟩
theorem UY {b:qa} {v:Int} (h:LJ b=some v):ql 21 [(.agg [(hP b.1),(.ay (b.2.flatMap p1) b.2.length .shared)])] (hP v):=by
 refine qM dI af7 rfl rfl fun Q bl=>?_;have jw:qu [.tmp 2] Q (fun v=>(hP v)) v:=fun T H bI=>bl _ T H bI;unfold LJ at h;unfold abb;obtain ⟨Ho,qz⟩:∃ c,Rq=c:=⟨_,rfl⟩;rw [qz];conv=>whnf
 refine bs h (fun eU h=>?_) fun eU h=>?_
 ·rw [eU];conv=>whnf
  exact p7 h jw rfl rfl
 ·rw [eU];conv=>whnf
  refine bs h (fun fk h=>?_) fun fk h=>?_
  ·rw [fk];(conv=>whnf);exact p7 h jw rfl rfl
  ·rw [fk];(conv=>whnf);refine bs h (fun qf h=>?_) fun qf h=>?_
   ·rw [qf];(conv=>whnf);exact p7 h jw rfl rfl
   ·rw [qf];(conv=>whnf);subst qz;refine akw ?_ ?_ (by exact rfl) h
    ·exact fun T H bI=>jw T H bI
    ·intro bA q_ p6 h qh;obtain ⟨qS,rfl⟩:=qh.ex;(conv=>whnf);exact p7 h jw rfl rfl

noncomputable def abo:ez :=
 Gz [gM 2 [.hG 0] .box,gM 3 [.hG 1] .box,Gm 4 0] (.seq (Gz [gM 5 [.sl 3] (.oP 1),Gl 6 5,F0 7 6 1 .eql] (.cond (.sl 7) (Gz [F6 8 2 1,Gl 9 8,F6 10 3 0,Gl 11 10,Gh 12 9 11 2,F6 13 12 1,Gl 14 13,Gp 4 14] .ret) .skip)) (Gz [F6 15 2 1,Gl 16 15,F6 17 3 0,Gl 18 17,Gh 19 16 18 2,F6 20 19 0,Gl 21 20,Gp 4 21] .ret))
theorem agj:zf Tryz.prog VV 57=some (abo,22,[.tmp 4]):=by kernel_rfl
def Nz (b:qa) (p:(Int×Int)):Option Int :=
 if (decide (p.2=(1:Int)))=true then
  p8 (0≤p.1∧p.1<(b.2.length:Int)) <|
  some ((ix b.2 p.1).2)
 else
  p8 (0≤p.1∧p.1<(b.2.length:Int)) <|
  some ((ix b.2 p.1).1)
theorem aax {b:qa} {p:(Int×Int)} {v:Int} (h:Nz b p=some v):ql 57 [(.agg [(hP b.1),(.ay (b.2.flatMap p1) b.2.length .shared)]),(.agg [(hP p.1),(hP p.2)])] (hP v):=by
 refine qM dI agj rfl rfl fun Q bl=>?_;have jw:qu [.tmp 4] Q (fun v=>(hP v)) v:=fun T H bI=>bl _ T H bI;unfold Nz at h;unfold abo;conv=>whnf
 refine bs h (fun eU h=>?_) fun eU h=>?_
 ·rw [eU];conv=>whnf
  refine qk h id fun fk h=>?_;rw [qW p1 2 qw b.2 p.1 fk];conv=>whnf
  exact p7 h jw rfl rfl
 ·rw [eU];conv=>whnf
  refine qk h id fun qf h=>?_;rw [qW p1 2 qw b.2 p.1 qf];conv=>whnf
  exact p7 h jw rfl rfl

noncomputable def RA:ez :=
 .loop (some (Ez false [0,2,3,1,13])) (.seq (Gz [Gn 6 5,Gn 7 0,Gk 8 7,F1 9 6 8 .lss] (.cond (.sl 9) .skip (.exit 0))) (.seq (.block 1 (Gz [Gn 12 0,Gn 13 5,Gh 14 12 13 2,F6 15 14 0,Gl 16 15,Gn 17 1,F1 18 16 17 .eql] (.cond (.sl 18) (Gz [gM 4 [.iA (.bool true)] .iQ] .ret) .skip))) (Gs [Gp 10 5,FZ 11 10 1,Gp 5 11])))
noncomputable def abv:ez :=
 Gz [gM 4 [.iA (.bool false)] .iQ] (.seq (Gz [Gm 5 0] (.block 0 RA)) (Gz [gM 4 [.iA (.bool false)] .iQ] .ret))
theorem agp:zf Tryz.prog R3 69=some (abv,19,[.tmp 4]):=by kernel_rfl
def My (row:qb) (r0:Int) (p9:Unit→Option Bool):Nat→Int→Option Bool
 | 0,_=>none
 | m+1,s1 =>
   if (decide (s1<(row.length:Int)))=true then
    p8 (0≤s1∧s1<(row.length:Int)) <|
    if (decide ((ix row s1).1=r0))=true then
     some true
    else
     My row r0 p9 m (w (s1+(1:Int)))
   else
    p9 ()
def Pt (row:qb) (r0:Int):Option Bool :=
 My row r0 (fun _ =>
   some false) p_ (0:Int)
theorem ak2 {row:qb} {r0:Int} {p9:Unit→Option Bool} {s1:Int} {v:Bool} {Q:q'}   (jw:qu [.tmp 4] Q (fun v=>(B v)) v) (q8:∀ (p6:List I),p9 ()=some v→qU 19 [] p6→Q (.exit 0) p6 []) {T:List I} (bX:eR (Ez false [0,2,3,1,13]) T=GG 19 [(0,(p3 row .shared)),(1,(hP r0)),(5,(hP s1))]) (h:My row r0 p9 p_ s1=some v) :
  dC Tryz.prog R3 69 0 none RA T [] Q:=by
 unfold RA;refine wp_loop bX ?_;refine .intro (fun m T H=>∃ (s1:Int),T=GG 19 [(0,(p3 row .shared)),(1,(hP r0)),(5,(hP s1))]∧H=[]∧My row r0 p9 m s1=some v) p_ ⟨s1,rfl,rfl,h⟩ ?_;clear h bX;rintro m T H ⟨s1,rfl,rfl,h⟩;cases m
 ·exact q7 h
 rename_i m;rw [My.eq_2] at h;conv=>whnf
 refine bs h (fun eU h=>?_) fun eU h=>?_
 ·rw [eU];conv=>whnf
  refine qk h id fun fk h=>?_;rw [qW p1 2 qw row s1 fk];conv=>whnf
  refine bs h (fun qf h=>?_) fun qf h=>?_
  ·rw [qf];(conv=>whnf);exact p7 h jw rfl rfl
  ·rw [qf];(conv=>whnf);exact ⟨m,sm m,(w (s1+(1:Int))),rfl,rfl,h⟩
 ·rw [eU];conv=>whnf
  exact q8  _ h ⟨rfl,rfl⟩
theorem ak3 {row:qb} {r0:Int} {v:Bool} (h:Pt row r0=some v):ql 69 [(.ay (row.flatMap p1) row.length .shared),(hP r0)] (B v):=by
 refine qM dI agp rfl rfl fun Q bl=>?_;have jw:qu [.tmp 4] Q (fun v=>(B v)) v:=fun T H bI=>bl _ T H bI;unfold Pt at h;unfold abv;obtain ⟨Ho,qz⟩:∃ c,RA=c:=⟨_,rfl⟩;rw [qz];conv=>whnf
 subst qz;refine ak2 ?_ ?_ (by exact rfl) h
 ·exact fun T H bI=>jw T H bI
 ·intro  p6 h qh;obtain ⟨qS,rfl⟩:=qh.ex;conv=>whnf
  exact p7 h jw rfl rfl

noncomputable def abw:ez :=
 Gz [gM 2 [.hG 0] .box,gM 3 [.hG 1] .box,Gm 4 0] (.seq (Gz [gM 5 [.sl 3] (.oP 1),Gl 6 5,F0 7 6 1 .eql] (.cond (.sl 7) (Gz [F6 8 2 1,Gl 9 8,F6 10 3 0,Gl 11 10,Gh 12 9 11 2,F6 13 12 0,Gl 14 13,Gp 4 14] .ret) .skip)) (Gz [F6 15 2 1,Gl 16 15,F6 17 3 0,Gl 18 17,Gh 19 16 18 2,F6 20 19 1,Gl 21 20,Gp 4 21] .ret))
theorem agq:zf Tryz.prog V1 70=some (abw,22,[.tmp 4]):=by kernel_rfl
def NF (b:qa) (p:(Int×Int)):Option Int :=
 if (decide (p.2=(1:Int)))=true then
  p8 (0≤p.1∧p.1<(b.2.length:Int)) <|
  some ((ix b.2 p.1).1)
 else
  p8 (0≤p.1∧p.1<(b.2.length:Int)) <|
  some ((ix b.2 p.1).2)
theorem aaC {b:qa} {p:(Int×Int)} {v:Int} (h:NF b p=some v):ql 70 [(.agg [(hP b.1),(.ay (b.2.flatMap p1) b.2.length .shared)]),(.agg [(hP p.1),(hP p.2)])] (hP v):=by
 refine qM dI agq rfl rfl fun Q bl=>?_;have jw:qu [.tmp 4] Q (fun v=>(hP v)) v:=fun T H bI=>bl _ T H bI;unfold NF at h;unfold abw;conv=>whnf
 refine bs h (fun eU h=>?_) fun eU h=>?_
 ·rw [eU];conv=>whnf
  refine qk h id fun fk h=>?_;rw [qW p1 2 qw b.2 p.1 fk];conv=>whnf
  exact p7 h jw rfl rfl
 ·rw [eU];conv=>whnf
  refine qk h id fun qf h=>?_;rw [qW p1 2 qw b.2 p.1 qf];conv=>whnf
  exact p7 h jw rfl rfl

noncomputable def Rn:ez :=
 .loop (some (Ez false [1,2,4,2,94])) (.seq (Gz [Gn 20 8,Gn 21 7,F1 22 20 21 .lss] (.cond (.sl 22) .skip (.exit 0))) (.seq (.block 1 (.seq (Gt [Gn 25 1,Gn 26 8,Gh 27 25 26 2,F6 28 27 0,Gl 29 28,F0 30 29 0 .lss,Gp 31 30,cP 32 [.sl 1] 31 false .iQ,cP 33 [.sl 8] 31 false .iQ,cP 34 [.hJ 32,.hJ 33] 31 false (.pM 2),cP 35 [.hJ 34] 31 false (.oP 0),cP 36 [.hJ 35] 31 false (.pT .one),cP 37 [.sl 2] 31 false (.oP 1),cP 38 [.hJ 37] 31 false (.pT .one),cP 39 [.hG 38] 31 false .pV,cP 40 [.hJ 36,.hJ 39] 31 false (.bin .geq),gM 41 [.sl 31,.iA (.bool true),.hJ 40] .pick,Gp 42 41,cP 43 [.sl 1] 42 false .iQ,cP 44 [.sl 8] 42 false .iQ,cP 45 [.hJ 43,.hJ 44] 42 false (.pM 2),cP 46 [.hJ 45] 42 false (.oP 1),cP 47 [.hJ 46] 42 false (.pT .one),cP 48 [.hJ 47,.iA (.int .i64 0)] 42 false (.bin .lss),gM 49 [.sl 42,.iA (.bool true),.hJ 48] .pick,Gp 50 49,cP 51 [.sl 1] 50 false .iQ,cP 52 [.sl 8] 50 false .iQ,cP 53 [.hJ 51,.hJ 52] 50 false (.pM 2),cP 54 [.hJ 53] 50 false (.oP 1),cP 55 [.hJ 54] 50 false (.pT .one),cP 56 [.hJ 55,.iA (.int .i64 1)] 50 false (.bin .gtr),gM 57 [.sl 50,.iA (.bool true),.hJ 56] .pick]) (.cond (.sl 57) (Gz [Gm 4 0,Gm 5 0,Gm 6 3] .ret) .skip))) (Gs [Gp 23 8,FZ 24 23 1,Gp 8 24])))
noncomputable def Ro:ez :=
 .loop (some (Ez false [1,2,4,1,1,1,93])) (.seq (Gz [Gn 58 9,Gn 59 7,F1 60 58 59 .lss] (.cond (.sl 60) .skip (.exit 2))) (.seq (.block 3 (.seq (Gt [Gn 63 1,Gn 64 9,gM 65 [.hG 63,.hG 64] (.AX 2 false true false),Gn 66 1,Gn 67 9,Gh 68 66 67 2,F6 69 68 0,Gl 70 69,gM 71 [.iA (.func 69 [] []),.sl 65,.sl 70] (.call 3)]) (.cond (.sl 71) (Gz [Gm 4 0,Gm 5 0,Gm 6 11] .ret) .skip))) (Gs [Gp 61 9,FZ 62 61 1,Gp 9 62])))
noncomputable def Rp:ez :=
 .loop (some (Ez false [1,2,4,1,2,1,92])) (.seq (Gz [Gn 72 10,Gn 73 7,F1 74 72 73 .lss] (.cond (.sl 74) .skip (.exit 4))) (.seq (.block 5 (.seq (Gt [gM 77 [.sl 2] (.pT (.str 2)),Gn 78 1,Gn 79 10,F0 80 79 1 .sub,Gh 81 78 80 2,gM 82 [.hJ 81] (.pT (.str 2)),gM 83 [.iA (.func 70 [] []),.sl 77,.sl 82] (.call 3),gM 84 [.sl 2] (.pT (.str 2)),Gn 85 1,Gn 86 10,Gh 87 85 86 2,gM 88 [.hJ 87] (.pT (.str 2)),gM 89 [.iA (.func 57 [] []),.sl 84,.sl 88] (.call 3),F1 90 83 89 .neq]) (.cond (.sl 90) (Gz [Gm 4 0,Gm 5 0,Gm 6 27] .ret) .skip))) (Gs [Gp 75 10,FZ 76 75 1,Gp 10 76])))
noncomputable def aa_:ez :=
 Gz [gM 2 [.hG 0] .box,Gm 4 0,Gm 5 0,Gm 6 0] (.seq (Gz [gM 11 [.sl 2] (.pT (.str 2)),gM 12 [.iA (.func 21 [] []),.sl 11] (.call 3),F0 13 12 0 .neq] (.cond (.sl 13) (Gz [gM 14 [.hJ 2] (.pT (.str 2)),gM 15 [.iA (.func 21 [] []),.sl 14] (.call 3),Gm 4 0,Gm 5 0,Gp 6 15] .ret) .skip)) (Gz [Gn 16 1,Gk 17 16,Gp 7 17] (.seq (Gz [Gn 18 7,F0 19 18 0 .eql] (.cond (.sl 19) (Gz [Gm 4 0,Gm 5 0,Gm 6 6] .ret) .skip)) (.seq (Gz [Gm 8 0] (.block 0 Rn)) (.seq (Gz [Gm 9 0] (.block 2 Ro)) (.seq (Gz [Gm 10 1] (.block 4 Rp)) (.seq (Gt [gM 91 [.sl 2] (.pT (.str 2)),Gn 92 1,gM 93 [.hJ 92,.iA (.int .i64 0)] (.pM 2),gM 94 [.hJ 93] (.pT (.str 2)),gM 95 [.iA (.func 57 [] []),.sl 91,.sl 94] (.call 3),gM 96 [.sl 2] (.pT (.str 2)),Gn 97 1,Gp 98 7,F0 99 98 1 .sub,Gh 100 97 99 2,gM 101 [.hJ 100] (.pT (.str 2)),gM 102 [.iA (.func 70 [] []),.sl 96,.sl 101] (.call 3),Gp 4 95,Gp 5 102,Gm 6 0]) .ret)))))))
theorem af5:zf Tryz.prog NY 19=some (aa_,103,[.tmp 4,.tmp 5,.tmp 6]):=by kernel_rfl
def Mp (b:qa) (row:qb) (p9:Unit→Option (Int×Int×Int)):Nat→Int→Option (Int×Int×Int)
 | 0,_=>none
 | m+1,s1 =>
   if (decide (s1<(row.length:Int)))=true then
    p8 (0≤s1∧s1<(row.length:Int)) <|
    if (decide ((ix row s1).1<(0:Int)))=true then
     some ((0:Int),(0:Int),(3:Int))
    else
     p8 (0≤s1∧s1<(row.length:Int)) <|
     if (decide ((b.2.length:Int)≤(ix row s1).1))=true then
      some ((0:Int),(0:Int),(3:Int))
     else
      p8 (0≤s1∧s1<(row.length:Int)) <|
      if (decide ((ix row s1).2<(0:Int)))=true then
       some ((0:Int),(0:Int),(3:Int))
      else
       p8 (0≤s1∧s1<(row.length:Int)) <|
       if (decide ((1:Int)<(ix row s1).2))=true then
        some ((0:Int),(0:Int),(3:Int))
       else
        Mp b row p9 m (w (s1+(1:Int)))
   else
    p9 ()
def Mq (row:qb) (qB:Unit→Option (Int×Int×Int)):Nat→Int→Option (Int×Int×Int)
 | 0,_=>none
 | m+1,s2 =>
   if (decide (s2<(row.length:Int)))=true then
    p8 (0≤s2∧s2≤(row.length:Int)) <|
    p8 (0≤s2∧s2<(row.length:Int)) <|
    (Pt (row.take s2.toNat) ((ix row s2).1)).bind fun r3 =>
    if r3=true then
     some ((0:Int),(0:Int),(11:Int))
    else
     Mq row qB m (w (s2+(1:Int)))
   else
    qB ()
def Mr (b:qa) (row:qb) (rV:Unit→Option (Int×Int×Int)):Nat→Int→Option (Int×Int×Int)
 | 0,_=>none
 | m+1,s3 =>
   if (decide (s3<(row.length:Int)))=true then
    p8 (0≤(w (s3-(1:Int)))∧(w (s3-(1:Int)))<(row.length:Int)) <|
    (NF b (ix row (w (s3-(1:Int))))).bind fun r4 =>
    p8 (0≤s3∧s3<(row.length:Int)) <|
    (Nz b (ix row s3)).bind fun qC =>
    if (decide (r4≠qC))=true then
     some ((0:Int),(0:Int),(27:Int))
    else
     Mr b row rV m (w (s3+(1:Int)))
   else
    rV ()
def Mo (b:qa) (row:qb):Option (Int×Int×Int) :=
 (LJ b).bind fun r1 =>
 if (decide (r1≠(0:Int)))=true then
  (LJ b).bind fun r2 =>
  some ((0:Int),(0:Int),r2)
 else
  if (decide ((row.length:Int)=(0:Int)))=true then
   some ((0:Int),(0:Int),(6:Int))
  else
   Mp b row (fun _ =>
     Mq row (fun _ =>
       Mr b row (fun _ =>
         p8 (0≤(0:Int)∧(0:Int)<(row.length:Int)) <|
         (Nz b (ix row (0:Int))).bind fun qs =>
         p8 (0≤(w ((row.length:Int)-(1:Int)))∧(w ((row.length:Int)-(1:Int)))<(row.length:Int)) <|
         (NF b (ix row (w ((row.length:Int)-(1:Int))))).bind fun qK =>
         some (qs,qK,(0:Int))) p_ (1:Int)) p_ (0:Int)) p_ (0:Int)
theorem aks {b:qa} {row:qb} {p9:Unit→Option (Int×Int×Int)} {s1:Int} {v:(Int×Int×Int)} {Q:q'}   (jw:qu [.tmp 4,.tmp 5,.tmp 6] Q (fun v=>(.tuple [(hP v.1),(hP v.2.1),(hP v.2.2)])) v) (q8:∀ (p6:List I),p9 ()=some v→qU 103 [(1,(p3 row .shared)),(2,(.ptr 0 0)),(7,(hP (row.length:Int)))] p6→Q (.exit 0) p6 [Hv b]) {T:List I} (bX:eR (Ez false [1,2,4,2,94]) T=GG 103 [(1,(p3 row .shared)),(2,(.ptr 0 0)),(7,(hP (row.length:Int))),(8,(hP s1))]) (h:Mp b row p9 p_ s1=some v) :
  dC Tryz.prog NY 19 0 none Rn T [Hv b] Q:=by
 unfold Rn;refine wp_loop bX ?_;refine .intro (fun m T H=>∃ (s1:Int),T=GG 103 [(1,(p3 row .shared)),(2,(.ptr 0 0)),(7,(hP (row.length:Int))),(8,(hP s1))]∧H=[Hv b]∧Mp b row p9 m s1=some v) p_ ⟨s1,rfl,rfl,h⟩ ?_;clear h bX;rintro m T H ⟨s1,rfl,rfl,h⟩;cases m
 ·exact q7 h
 rename_i m;rw [Mp.eq_2] at h;conv=>whnf
 refine bs h (fun qD h=>?_) fun qD h=>?_
 ·rw [qD];conv=>whnf
  refine qk h id fun rr h=>?_;rw [qW p1 2 qw row s1 rr];conv=>whnf
  refine bs h (fun qN h=>?_) fun qN h=>?_
  ·rw [qN];(conv=>whnf);exact p7 h jw rfl rfl
  ·rw [qN];(conv=>whnf);refine qk h id fun qQ h=>?_;rw [qW p1 2 qw row s1 qQ];(conv=>whnf);refine bs h (fun q5 h=>?_) fun q5 h=>?_
   ·rw [q5];(conv=>whnf);exact p7 h jw rfl rfl
   ·rw [q5];(conv=>whnf);refine qk h id fun qV h=>?_;rw [qW p1 2 qw row s1 qV];(conv=>whnf);refine bs h (fun rK h=>?_) fun rK h=>?_
    ·rw [rK];(conv=>whnf);exact p7 h jw rfl rfl
    ·rw [rK];(conv=>whnf);refine qk h id fun rj h=>?_;rw [qW p1 2 qw row s1 rj];(conv=>whnf);refine bs h (fun rA h=>?_) fun rA h=>?_
     ·rw [rA];(conv=>whnf);exact p7 h jw rfl rfl
     ·rw [rA];(conv=>whnf);exact ⟨m,sm m,(w (s1+(1:Int))),rfl,rfl,h⟩
 ·rw [qD];conv=>whnf
  exact q8  _ h ⟨rfl,rfl⟩
theorem akt {row:qb} {qB:Unit→Option (Int×Int×Int)} {s2:Int} {b:qa} {v:(Int×Int×Int)} {Q:q'}   (jw:qu [.tmp 4,.tmp 5,.tmp 6] Q (fun v=>(.tuple [(hP v.1),(hP v.2.1),(hP v.2.2)])) v) (IK:∀ (p6:List I),qB ()=some v→qU 103 [(1,(p3 row .shared)),(2,(.ptr 0 0)),(7,(hP (row.length:Int)))] p6→Q (.exit 2) p6 [Hv b]) {T:List I} (bX:eR (Ez false [1,2,4,1,1,1,93]) T=GG 103 [(1,(p3 row .shared)),(2,(.ptr 0 0)),(7,(hP (row.length:Int))),(9,(hP s2))]) (h:Mq row qB p_ s2=some v) :
  dC Tryz.prog NY 19 0 none Ro T [Hv b] Q:=by
 unfold Ro;refine wp_loop bX ?_;refine .intro (fun m T H=>∃ (s2:Int),T=GG 103 [(1,(p3 row .shared)),(2,(.ptr 0 0)),(7,(hP (row.length:Int))),(9,(hP s2))]∧H=[Hv b]∧Mq row qB m s2=some v) p_ ⟨s2,rfl,rfl,h⟩ ?_;clear h bX;rintro m T H ⟨s2,rfl,rfl,h⟩;cases m
 ·exact q7 h
 rename_i m;rw [Mq.eq_2] at h;conv=>whnf
 refine bs h (fun rW h=>?_) fun rW h=>?_
 ·rw [rW];conv=>whnf
  refine qk h id fun rH h=>?_;erw [QP p1 2 qw row s2 rH];conv=>whnf
  refine qk h id fun q9 h=>?_;rw [qW p1 2 qw row s2 q9];conv=>whnf
  obtain ⟨r3,GM,h⟩:=qd h;refine ⟨qj.pl,_,ak3 GM,Kz,?_⟩;conv=>whnf
  cases r3
  ·(conv=>whnf);replace h:=Hf rfl h;exact ⟨m,sm m,(w (s2+(1:Int))),rfl,rfl,h⟩
  ·(conv=>whnf);replace h:=Hg rfl h;exact p7 h jw rfl rfl
 ·rw [rW];conv=>whnf
  exact IK  _ h ⟨rfl,rfl⟩
theorem aku {b:qa} {row:qb} {rV:Unit→Option (Int×Int×Int)} {s3:Int} {v:(Int×Int×Int)} {Q:q'}   (jw:qu [.tmp 4,.tmp 5,.tmp 6] Q (fun v=>(.tuple [(hP v.1),(hP v.2.1),(hP v.2.2)])) v) (L_:∀ (p6:List I),rV ()=some v→qU 103 [(1,(p3 row .shared)),(2,(.ptr 0 0)),(7,(hP (row.length:Int)))] p6→Q (.exit 4) p6 [Hv b]) {T:List I} (bX:eR (Ez false [1,2,4,1,2,1,92]) T=GG 103 [(1,(p3 row .shared)),(2,(.ptr 0 0)),(7,(hP (row.length:Int))),(10,(hP s3))]) (h:Mr b row rV p_ s3=some v) :
  dC Tryz.prog NY 19 0 none Rp T [Hv b] Q:=by
 unfold Rp;refine wp_loop bX ?_;refine .intro (fun m T H=>∃ (s3:Int),T=GG 103 [(1,(p3 row .shared)),(2,(.ptr 0 0)),(7,(hP (row.length:Int))),(10,(hP s3))]∧H=[Hv b]∧Mr b row rV m s3=some v) p_ ⟨s3,rfl,rfl,h⟩ ?_;clear h bX;rintro m T H ⟨s3,rfl,rfl,h⟩;cases m
 ·exact q7 h
 rename_i m;rw [Mr.eq_2] at h;conv=>whnf
 refine bs h (fun ru h=>?_) fun ru h=>?_
 ·rw [ru];conv=>whnf
  refine qk h id fun Hr h=>?_;rw [qW p1 2 qw row (w (s3-(1:Int))) Hr];conv=>whnf
  obtain ⟨r4,G9,h⟩:=qd h;refine ⟨qj.pl,_,aaC G9,Kz,?_⟩;conv=>whnf
  refine qk h id fun Jk h=>?_;rw [qW p1 2 qw row s3 Jk];conv=>whnf
  obtain ⟨qC,JP,h⟩:=qd h;refine ⟨qj.pl,_,aax JP,Vs rfl,?_⟩;conv=>whnf
  refine bs h (fun Jl h=>?_) fun Jl h=>?_
  ·rw [Jl];(conv=>whnf);exact p7 h jw rfl rfl
  ·rw [Jl];(conv=>whnf);exact ⟨m,sm m,(w (s3+(1:Int))),rfl,rfl,h⟩
 ·rw [ru];conv=>whnf
  exact L_  _ h ⟨rfl,rfl⟩
theorem aaf {b:qa} {row:qb} {v:(Int×Int×Int)} (h:Mo b row=some v):ql 19 [(.agg [(hP b.1),(.ay (b.2.flatMap p1) b.2.length .shared)]),(.ay (row.flatMap p1) row.length .shared)] (.tuple [(hP v.1),(hP v.2.1),(hP v.2.2)]):=by
 refine qM dI af5 rfl (Kl (pY rfl (pY rfl (pY rfl rfl)))) fun Q bl=>?_;have jw:qu [.tmp 4,.tmp 5,.tmp 6] Q (fun v=>(.tuple [(hP v.1),(hP v.2.1),(hP v.2.2)])) v:=fun T H bI=>bl _ T H bI;unfold Mo at h;unfold aa_;obtain ⟨Ho,qz⟩:∃ c,Rn=c:=⟨_,rfl⟩;rw [qz];obtain ⟨J8,rm⟩:∃ c,Ro=c:=⟨_,rfl⟩;rw [rm];obtain ⟨NZ,Hq⟩:∃ c,Rp=c:=⟨_,rfl⟩;rw [Hq];conv=>whnf
 obtain ⟨r1,eU,h⟩:=qd h;refine ⟨qj.pl,_,UY eU,?_⟩;conv=>whnf
 refine bs h (fun fk h=>?_) fun fk h=>?_
 ·rw [fk];conv=>whnf
  obtain ⟨r2,qf,h⟩:=qd h;refine ⟨qj.pl,_,UY qf,?_⟩;conv=>whnf
  exact p7 h jw rfl rfl
 ·rw [fk];conv=>whnf
  refine bs h (fun qo h=>?_) fun qo h=>?_
  ·rw [qo];(conv=>whnf);exact p7 h jw rfl rfl
  ·rw [qo];(conv=>whnf);subst qz;refine aks ?_ ?_ (by exact rfl) h
   ·exact fun T H bI=>jw T H bI
   ·intro  p6 h qh;obtain ⟨qS,rfl⟩:=qh.ex;(conv=>whnf);subst rm;refine akt ?_ ?_ (by exact rfl) h
    ·exact fun T H bI=>jw T H bI
    ·intro  p6 h qh;obtain ⟨qS,rfl⟩:=qh.ex;(conv=>whnf);subst Hq;refine aku ?_ ?_ (by exact rfl) h
     ·exact fun T H bI=>jw T H bI
     ·intro  p6 h qh;obtain ⟨qS,rfl⟩:=qh.ex;(conv=>whnf);refine qk h id fun Kf h=>?_;rw [qW p1 2 qw row (0:Int) Kf];(conv=>whnf);obtain ⟨qs,IZ,h⟩:=qd h;refine ⟨qj.pl,_,aax IZ,Kz,?_⟩;(conv=>whnf);refine qk h id fun Ii h=>?_;rw [qW p1 2 qw row (w ((row.length:Int)-(1:Int))) Ii];(conv=>whnf);obtain ⟨qK,JC,h⟩:=qd h;refine ⟨qj.pl,_,aaC JC,Vs rfl,?_⟩;(conv=>whnf);exact p7 h jw rfl rfl

noncomputable def abd:ez :=
 Gz [gM 2 [.hG 0] .box,Gm 4 0] (Gz [gM 9 [.sl 2] (.pT (.str 2)),Gn 10 1,gM 11 [.iA (.func 18 [] []),.sl 9,.sl 10] (.call 3),Gp 8 11,GJ 12 8 0,GJ 13 8 1,gM 14 [.hJ 8] (.ext 2),Gp 5 12,Gp 6 13,Gp 7 14] (.seq (.block 0 (Gz [Gn 16 7,F0 17 16 0 .neq,Gp 15 17] (.cond (.sl 15) (Gz [Gp 18 7,Gp 4 18] .ret) (Gz [Gp 20 1,Gk 21 20,F6 22 2 1,Gl 23 22,Gk 24 23,F1 25 21 24 .lss,Gp 19 25] (.cond (.sl 19) (Gz [Gm 4 15] .ret) (Gz [Gp 27 5,Gp 28 6,F1 29 27 28 .neq,Gp 26 29] (.cond (.sl 26) (Gz [Gm 4 27] .ret) .skip))))))) (Gz [Gm 4 0] .ret)))
theorem af8:zf Tryz.prog VQ 22=some (abd,30,[.tmp 4]):=by kernel_rfl
def Nv (b:qa) (row:qb):Option Int :=
 (Nt b row).bind fun r1 =>
 if (decide (r1.2.2≠(0:Int)))=true then
  some r1.2.2
 else
  if (decide ((row.length:Int)<(b.2.length:Int)))=true then
   some (15:Int)
  else
   if (decide (r1.1≠r1.2.1))=true then
    some (27:Int)
   else
    some (0:Int)
theorem aky {b:qa} {row:qb} {v:Int} (h:Nv b row=some v):ql 22 [(.agg [(hP b.1),(.ay (b.2.flatMap p1) b.2.length .shared)]),(.ay (row.flatMap p1) row.length .shared)] (hP v):=by
 refine qM dI af8 rfl rfl fun Q bl=>?_;have jw:qu [.tmp 4] Q (fun v=>(hP v)) v:=fun T H bI=>bl _ T H bI;unfold Nv at h;unfold abd;conv=>whnf
 obtain ⟨r1,eU,h⟩:=qd h;refine ⟨qj.pl,_,akq eU,?_⟩;conv=>whnf
 refine bs h (fun fk h=>?_) fun fk h=>?_
 ·rw [fk];conv=>whnf
  exact p7 h jw rfl rfl
 ·rw [fk];conv=>whnf
  refine bs h (fun qf h=>?_) fun qf h=>?_
  ·rw [qf];(conv=>whnf);exact p7 h jw rfl rfl
  ·rw [qf];(conv=>whnf);refine bs h (fun qo h=>?_) fun qo h=>?_
   ·rw [qo];(conv=>whnf);exact p7 h jw rfl rfl
   ·rw [qo];(conv=>whnf);exact p7 h jw rfl rfl

def akz (b:qa) (row:qb):Option Int :=
 (Mo b row).bind fun r1 =>
 if (decide (r1.2.2≠(0:Int)))=true then
  some r1.2.2
 else
  if (decide ((row.length:Int)≠(b.2.length:Int)))=true then
   some (15:Int)
  else
   if (decide (r1.1≠r1.2.1))=true then
    some (27:Int)
   else
    some (0:Int)

def FV (b:qa) (l:qb):Option Bool :=
 (Ph b).bind fun r1 =>
 if r1=true then
  (JJ).bind fun r2 =>
  some r2
 else
  if (decide ((14:Int)<(l.length:Int)))=true then
   (JJ).bind fun r3 =>
   some r3
  else
   (Nt b l).bind fun r4 =>
   (Mo b l).bind fun qC =>
   (Nu b).bind fun qs =>
   (LJ b).bind fun qK =>
   if (decide (qs=qK))=true then
    if (decide (r4.1=qC.1))=true then
     if (decide (r4.2.1=qC.2.1))=true then
      if (decide (r4.2.2=qC.2.2))=true then
       (Nv b l).bind fun rE =>
       (akz b l).bind fun Lx =>
       if (decide (rE=Lx))=true then
        (JJ).bind fun Io =>
        some Io
       else
        some false
      else
       some false
     else
      some false
    else
     some false
   else
    some false
end Go.Proofs.YtfakoboiahbhaaaGreat.Ab


namespace Go.Proofs.YtfakoboiahbhaaaGreat.Ab
open Go
def Hx (lo hi x:Int):Bool:=decide (x<lo) || decide (hi<x)
theorem KQ {lo hi x:Int}:Hx lo hi x=false↔lo≤x∧x≤hi:=by
 simp only [Hx,vF,decide_eq_false_iff_not];omega
theorem OA {lo hi x:Int}:Hx lo hi x=true↔x<lo∨hi<x:=by
 simp only [Hx,tP,decide_eq_true_eq]
def posOf {α:Type} (p:α→Bool):List α→Nat→Int
 | [],_ => -1
 | x::l,i=>if p x=true then (i:Int) else posOf p l (i+1)
theorem OK {α:Type} (p:α→Bool):∀ (l:List α) (i:Nat),decide (0≤posOf p l i)=l.any p
 | [],_=>rfl
 | x::l,i=>by
   rw [posOf,ud];by_cases h:p x=true
   ·rw [if_pos h,h];simp
   ·rw [if_neg h,OK p l (i+1)];simp [h]
theorem alk (n lo hi:Int):Px n lo hi=some (Hx lo hi n):=by
 unfold Px Hx;by_cases h:n<lo <;> simp [h]
theorem UU {s:List Int} {f:Int→Option Bool} {p:Int→Bool} (aQ:∀ x∈s,f x=some (p x)) (ai:s.length≤140737488355328):∀ (m i:Nat) (z:Int),z=i→i≤s.length→s.length-i<m→Mk s f (fun _=>some (-1:Int)) m z=some (posOf p (s.drop i) i)
 | 0,i,_,_,_,h=>absurd h (by omega)
 | m+1,i,_,rfl,hi,hm=>by
   rw [Mk];by_cases h:i<s.length
   ·rw [Jp h,G6 h,re h,aQ _ (sD h),sb,sW h,posOf];by_cases aC:p s[i]=true
    ·rw [if_pos aC,if_pos aC]
    ·rw [if_neg aC,if_neg aC,rz i (by omega),UU aQ ai m (i+1) _ rfl (by omega) (by omega)]
   ·rw [Jo h,tu (by omega)];rfl
theorem U_ {s:List (Int×Int)} {f:Int×Int→Option Bool} {p:Int×Int→Bool} (aQ:∀ x∈s,f x=some (p x)) (ai:s.length≤140737488355328):∀ (m i:Nat) (z:Int),z=i→i≤s.length→s.length-i<m→MG s f (fun _=>some (-1:Int)) m z=some (posOf p (s.drop i) i)
 | 0,i,_,_,_,h=>absurd h (by omega)
 | m+1,i,_,rfl,hi,hm=>by
   rw [MG];by_cases h:i<s.length
   ·rw [Jp h,G6 h,re h,aQ _ (sD h),sb,sW h,posOf];by_cases aC:p s[i]=true
    ·rw [if_pos aC,if_pos aC]
    ·rw [if_neg aC,if_neg aC,rz i (by omega),U_ aQ ai m (i+1) _ rfl (by omega) (by omega)]
   ·rw [Jo h,tu (by omega)];rfl
theorem aaP {s:List (Int×Int)} {f:Int×Int→Option Bool} {p:Int×Int→Bool} (aQ:∀ x∈s,f x=some (p x)) (ai:s.length≤140737488355328):∀ (m i:Nat) (z:Int),z=i→i≤s.length→s.length-i<m→MH s f (fun _=>some (-1:Int)) m z=some (posOf p (s.drop i) i)
 | 0,i,_,_,_,h=>absurd h (by omega)
 | m+1,i,_,rfl,hi,hm=>by
   rw [MH];by_cases h:i<s.length
   ·rw [Jp h,G6 h,re h,aQ _ (sD h),sb,sW h,posOf];by_cases aC:p s[i]=true
    ·rw [if_pos aC,if_pos aC]
    ·rw [if_neg aC,if_neg aC,rz i (by omega),aaP aQ ai m (i+1) _ rfl (by omega) (by omega)]
   ·rw [Jo h,tu (by omega)];rfl
theorem U9 {s:List Int} {f:Int→Option Bool} {p:Int→Bool} (aQ:∀ x∈s,f x=some (p x)) (ai:s.length≤140737488355328):K6 s f=some (s.any p):=by
 have:=UU aQ ai p_ 0 0 rfl (sr _) (rn (by omega));rw [sQ] at this;rw [K6,Nr,this,sb,OK]
theorem ak0 {s:List (Int×Int)} {f:Int×Int→Option Bool} {p:Int×Int→Bool} (aQ:∀ x∈s,f x=some (p x)) (ai:s.length≤140737488355328):ND s f=some (s.any p):=by
 have:=U_ aQ ai p_ 0 0 rfl (sr _) (rn (by omega));rw [sQ] at this;rw [ND,LP,this,sb,OK]
theorem ak5 {s:List (Int×Int)} {f:Int×Int→Option Bool} {p:Int×Int→Bool} (aQ:∀ x∈s,f x=some (p x)) (ai:s.length≤140737488355328):Pu s f=some (s.any p):=by
 have:=aaP aQ ai p_ 0 0 rfl (sr _) (rn (by omega));rw [sQ] at this;rw [Pu,Re,this,sb,OK]
theorem NB (lo hi:Int) (l:List Int) (ak:l.length≤140737488355328):Kt lo hi l=some (!(l.any (Hx lo hi))):=by
 rw [Kt,U9 (p:=Hx lo hi) (fun x _=>alk x lo hi) ak,sb]
def JE (f:Int) (s:Int×Int):Bool:=Hx 0 (f-1) s.1 || Hx 0 (f-1) s.2
def rX (b:p4):Int:=if b.1<1∨6<b.1∨(10:Int)<(b.2.length:Int) then 6 else if b.2.any (JE b.1)=true then 3 else 0
structure qm (b:p4):Prop where
 f1:1≤b.1
 f6:b.1≤6
 len:b.2.length≤10
 left:∀ s∈b.2,0≤s.1∧s.1<b.1
 right:∀ s∈b.2,0≤s.2∧s.2<b.1
theorem ID {b:p4}:rX b=0↔qm b:=by
 unfold rX;constructor
 ·intro h;split at h
  ·omega
  ·rename_i ad;split at h
   ·omega
   ·rename_i af;(have af:b.2.any (JE b.1)=false:=by simpa using af);rw [uT] at af;have aG:∀ s∈b.2,Hx 0 (b.1-1) s.1=false∧Hx 0 (b.1-1) s.2=false:=fun s ai=>by
     have:=af s ai;unfold JE at this;simpa using this
    exact ⟨by omega,by omega,by omega,fun s ai=>by have:=KQ.1 (aG s ai).1;omega,fun s ai=>by have:=KQ.1 (aG s ai).2;omega⟩
 ·intro h;obtain ⟨ad,af,aG,a6,bL⟩:=h;rw [if_neg (by omega),if_neg];rw [Bool.not_eq_true,uT];intro s ai;have a:=a6 s ai;have c:=bL s ai;unfold JE;rw [KQ.2 (by omega),KQ.2 (by omega)];decide
theorem Pk (b:p4) (ag:b.2.length≤1000):Nu b=some (rX b):=by
 rw [Nu,NB _ _ _ (by simp),sb];unfold rX;simp only [ud,vG,vH];by_cases h:1≤b.1∧b.1≤6
 ·rw [KQ.2 h,if_pos (by decide)];by_cases af:(10:Int)<(b.2.length:Int)
  ·rw [if_pos (decide_eq_true af),if_pos (by omega)]
  ·rw [if_neg (by simpa using af),if_neg (by omega),ak5 (p:=JE b.1) (fun s _=>by
    rw [Q_,I8 (by omega),NB _ _ _ (by simp),sb]
    simp [JE]) (by omega),sb]
   cases b.2.any (JE b.1) <;> rfl
 ·have:Hx 1 6 b.1=true:=by rw [OA];omega
  rw [this,if_neg (by decide),if_pos (by omega)]
theorem aah {b:p4} (ag:b.2.length≤1000) (aQ:1≤b.1):∀ (m i:Nat) (z:Int),z=i→i≤b.2.length→b.2.length-i<m→Ms b (fun _=>some (0:Int)) m z=some (if (b.2.drop i).any (JE b.1)=true then 3 else 0)
 | 0,i,_,_,_,h=>absurd h (by omega)
 | m+1,i,_,rfl,hi,hm=>by
   rw [Ms];by_cases h:i<b.2.length
   ·rw [Jp h,G6 h,re h,sW h,ud];have e:JE b.1 b.2[i]=true↔b.2[i].1<0∨b.1≤b.2[i].1∨b.2[i].2<0∨b.1≤b.2[i].2:=by
     unfold JE;rw [tP,OA,OA];omega
    by_cases ai:JE b.1 b.2[i]=true
    ·have aX:=e.1 ai;rw [ai,wk,if_pos rfl];by_cases aB:b.2[i].1<0
     ·rw [if_pos (decide_eq_true aB)]
     rw [if_neg (by simpa using aB)];by_cases aH:b.1≤b.2[i].1
     ·rw [if_pos (decide_eq_true aH)]
     rw [if_neg (by simpa using aH)];by_cases aR:b.2[i].2<0
     ·rw [if_pos (decide_eq_true aR)]
     rw [if_neg (by simpa using aR),if_pos (decide_eq_true (by omega))]
    ·have aX:=(not_congr e).1 ai;(have gZ:JE b.1 b.2[i]=false:=by simpa using ai);rw [gZ,uX,if_neg (by simp;omega),if_neg (by simp;omega),if_neg (by simp;omega),if_neg (by simp;omega),rz i (by omega),aah ag aQ m (i+1) _ rfl (by omega) (by omega)]
   ·rw [Jo h,tu (by omega)];rfl
theorem aag (b:p4) (ag:b.2.length≤1000):LJ b=some (rX b):=by
 rw [LJ];unfold rX;by_cases ad:b.1<1
 ·rw [if_pos (decide_eq_true ad),if_pos (.inl ad)]
 rw [if_neg (by simpa using ad)];by_cases af:6<b.1
 ·rw [if_pos (decide_eq_true af),if_pos (.inr (.inl af))]
 rw [if_neg (by simpa using af)];by_cases aG:(10:Int)<(b.2.length:Int)
 ·rw [if_pos (decide_eq_true aG),if_pos (.inr (.inr aG))]
 rw [if_neg (by simpa using aG),if_neg (by omega),aah ag (by omega) p_ 0 0 rfl (sr _) (rn (by omega)),sQ]
abbrev Row:=List (Int×Int)
def Hi (b:p4) (p:Int×Int):Bool:=Hx 0 ((b.2.length:Int)-1) p.1 || Hx 0 1 p.2
theorem Pa {b:p4} {p:Int×Int}:Hi b p=false↔0≤p.1∧p.1<(b.2.length:Int)∧0≤p.2∧p.2≤1:=by
 unfold Hi;rw [vF,KQ,KQ];omega
def IH:Row→Row→Bool
 | _,[]=>false
 | pre,p::r=>if (pre.any fun q=>decide (q.1=p.1))=true then true else IH (pre++[p]) r
def qE (b:p4):Int→Row→Option Int
 | a,[]=>some a
 | a,p::r=>if qy b p=a then qE b (fin b p) r else none
def It (b:p4) (row:Row):Int×Int×Int :=
 if rX b≠0 then (0,0,rX b) else match row with
 | []=>(0,0,6)
 | p::r=>if (p::r).any (Hi b)=true then (0,0,3) else if IH [] (p::r)=true then (0,0,11) else match qE b (qy b p) (p::r) with
   | none=>(0,0,27)
   | some a=>(qy b p,a,0)
theorem akZ {b:p4} (ag:b.2.length≤1000) (p:Int×Int):NA p b=some (Hi b p):=by
 rw [NA,I8 (by omega),NB _ _ _ (by simp),sb];unfold Hi;simp only [ud,vG,vH];cases Hx 0 ((b.2.length:Int)-1) p.1 with
 | true=>rfl
 | false=>rw [if_pos (by decide),NB _ _ _ (by simp),sb];simp
theorem acW {α:Type} (f:α→Bool) (l:List α) (x:α):(l++[x]).any f=(l.any f || f x):=by simp
theorem LB {α:Type} {l:List α} {i:Nat} (h:i<l.length):l.take (i+1)=l.take i++[l[i]]:=by
 rw [List.take_add_one,sq h];rfl
theorem Mc {t:List Int} {c:Nat} {x:Int} (h:c<t.length):ix (t.set c x) (c:Int)=x:=by unfold ix;simp [sG,h]
theorem KK {t:List Int} {c j:Nat} {x:Int} (h:j≠c):ix (t.set c x) (j:Int)=ix t (j:Int):=by unfold ix;simp [sG,sg (Ne.symm h)]
theorem Tc {n:Nat} (j:Int):ix (List.replicate n (0:Int)) j=0:=by
 unfold ix;rw [sG,List.getElem?_replicate];split <;> rfl
theorem Z' {row:Row} {k:Unit→Option (Int×Int×Int)} (aj:row.length≤1000) (gX:∀ p∈row,0≤p.1∧p.1<10):∀ (m i:Nat) (z:Int) (t:List Int),z=i→i≤row.length→row.length-i<m→t.length=10 →
  (∀ j:Nat,j<10→(0<ix t (j:Int)↔((row.take i).any fun q=>decide (q.1=(j:Int)))=true))→Mm row k m z t=if IH (row.take i) (row.drop i)=true then some (0,0,11) else k ()
 | 0,i,_,_,_,_,h,_,_=>absurd h (by omega)
 | m+1,i,_,t,rfl,hi,hm,ax,bX=>by
   rw [Mm];by_cases h:i<row.length
   ·have aC:=gX _ (sD h);obtain ⟨c,ao⟩:∃ c:Nat,row[i].1=(c:Int):=⟨row[i].1.toNat,by omega⟩;rw [Jp h,G6 h,re h,qc ⟨aC.1,aC.2,ax.symm⟩,sW h,IH,ao];by_cases al:0<ix t (c:Int)
    ·rw [if_pos (decide_eq_true al),if_pos ((bX c (by omega)).1 al),if_pos rfl]
    ·rw [if_neg (by simpa using al),if_neg (fun e=>al ((bX c (by omega)).2 e)),qc ⟨by omega,by omega,ax.symm⟩,rz i (by omega),
      Z' aj gX m (i+1) _ _ rfl (by omega) (by omega) (by simpa using ax) (fun j aw=>?_),LB h]
     rw [LB h,acW,ao];by_cases pj:j=c
     ·subst pj;rw [tB,Mc (by omega)];simp
     ·rw [tB,KK pj,bX j aw];simp [show ¬ (c:Int)=(j:Int) by omega]
   ·rw [Jo h,tu (by omega)];simp [IH]
theorem aab {b:p4} {row:Row} {k:Int→Option (Int×Int×Int)} (aj:row.length≤1000) (gX:∀ p∈row,0≤p.1∧p.1<(b.2.length:Int)):∀ (m i:Nat) (z a:Int),z=i→i≤row.length→row.length-i<m →
  Mn row b k m a z=match qE b a (row.drop i) with | none=>some (0,0,27) | some aM=>k aM
 | 0,i,_,_,_,_,h=>absurd h (by omega)
 | m+1,i,_,a,rfl,hi,hm=>by
   rw [Mn];by_cases h:i<row.length
   ·rw [Jp h,G6 h,re h,JL (gX _ (sD h)),sb,sW h,qE];by_cases ag:qy b row[i]=a
    ·rw [if_pos ag,if_neg (by simp [ag]),rz i (by omega),aab aj gX m (i+1) _ _ rfl (by omega) (by omega)]
    ·rw [if_neg ag,if_pos (decide_eq_true ag)]
   ·rw [Jo h,tu (by omega)];rfl
theorem akm (b:p4) (row:Row) (ag:b.2.length≤1000) (aj:row.length≤1000):Nt b row=some (It b row):=by
 rw [Nt,I_,Pk b ag,sb];unfold It;by_cases aS:rX b≠0
 ·rw [if_pos (decide_eq_true aS),sb];dsimp only;rw [if_pos (decide_eq_true aS),if_pos aS]
 have pZ:=ID.1 (Decidable.not_not.1 aS);rw [if_neg (by simpa using aS),sb,if_neg aS];dsimp only;rw [if_neg (by decide)];cases row with
 | nil=>rfl
 | cons p r =>
   rw [if_neg (by simp;omega),ak0 (p:=Hi b) (fun q _=>akZ ag q) (by omega),sb];dsimp only;by_cases ad:(p::r).any (Hi b)=true
   ·rw [if_pos ad,if_pos ad]
   rw [if_neg ad,if_neg ad,qc (by simp)];(have iD:(p::r).any (Hi b)=false:=by simpa using ad);rw [uT] at iD;have gX:∀ q∈p::r,0≤q.1∧q.1<(b.2.length:Int):=fun q a3=>by
    have:=Pa.1 (by simpa using iD q a3);exact ⟨this.1,this.2.1⟩
   have hlen:=pZ.len;rw [Z' aj (fun q a3=>by have:=gX q a3;omega) p_ 0 0 _ rfl (sr _) (rn (by omega)) (by simp) (fun j aw=>by rw [Tc];simp),tg,sQ];by_cases af:IH [] (p::r)=true
   ·rw [if_pos af,if_pos af]
   rw [if_neg af,if_neg af,qc (by simp),show ix (p::r) (0:Int)=p from rfl,JL (gX p (by simp)),sb,aab aj gX p_ 0 0 _ rfl (sr _) (rn (by omega)),sQ];cases qE b (qy b p) (p::r) <;> rfl
theorem aaA {row:Row} {s:Int} (aj:row.length≤1000):∀ (m i:Nat) (z:Int),z=i→i≤row.length→row.length-i<m→My row s (fun _=>some false) m z=some ((row.drop i).any fun q=>decide (q.1=s))
 | 0,i,_,_,_,h=>absurd h (by omega)
 | m+1,i,_,rfl,hi,hm=>by
   rw [My];by_cases h:i<row.length
   ·rw [Jp h,G6 h,re h,sW h,ud];by_cases aC:row[i].1=s
    ·rw [if_pos (decide_eq_true aC)];simp [aC]
    ·rw [if_neg (by simpa using aC),rz i (by omega),aaA aj m (i+1) _ rfl (by omega) (by omega)];simp [aC]
   ·rw [Jo h,tu (by omega)];rfl
theorem ak1 (row:Row) (s:Int) (aj:row.length≤1000):Pt row s=some (row.any fun q=>decide (q.1=s)):=by
 rw [Pt,aaA aj p_ 0 0 rfl (sr _) (rn (by omega)),sQ]
theorem aaw {b:p4} {p:Int×Int} (h:Hi b p=false):Nz b p=some (qy b p):=by
 have h:=Pa.1 h;rw [Nz];unfold qy;by_cases ad:p.2=1
 ·rw [if_pos (decide_eq_true ad),if_pos (by omega),qc ⟨by omega,by omega⟩]
 ·rw [if_neg (by simpa using ad),if_neg (by omega),qc ⟨by omega,by omega⟩]
theorem aaB {b:p4} {p:Int×Int} (h:Hi b p=false):NF b p=some (fin b p):=by
 have h:=Pa.1 h;rw [NF];unfold fin;by_cases ad:p.2=1
 ·rw [if_pos (decide_eq_true ad),if_pos (by omega),qc ⟨by omega,by omega⟩]
 ·rw [if_neg (by simpa using ad),if_neg (by omega),qc ⟨by omega,by omega⟩]
theorem aac {b:p4} {row:Row} {k:Unit→Option (Int×Int×Int)} (aj:row.length≤1000):∀ (m i:Nat) (z:Int),z=i→i≤row.length→row.length-i<m →
  Mp b row k m z=if (row.drop i).any (Hi b)=true then some (0,0,3) else k ()
 | 0,i,_,_,_,h=>absurd h (by omega)
 | m+1,i,_,rfl,hi,hm=>by
   rw [Mp];by_cases h:i<row.length
   ·rw [Jp h,G6 h,re h,sW h,ud];have e:Hi b row[i]=true↔row[i].1<0∨(b.2.length:Int)≤row[i].1∨row[i].2<0∨1<row[i].2:=by
     unfold Hi;rw [tP,OA,OA];omega
    by_cases ai:Hi b row[i]=true
    ·have aX:=e.1 ai;rw [ai,wk,if_pos rfl];by_cases aB:row[i].1<0
     ·rw [if_pos (decide_eq_true aB)]
     rw [if_neg (by simpa using aB),G6 h];by_cases aH:(b.2.length:Int)≤row[i].1
     ·rw [if_pos (decide_eq_true aH)]
     rw [if_neg (by simpa using aH),G6 h];by_cases aR:row[i].2<0
     ·rw [if_pos (decide_eq_true aR)]
     rw [if_neg (by simpa using aR),G6 h,if_pos (decide_eq_true (by omega))]
    ·have aX:=(not_congr e).1 ai;(have gZ:Hi b row[i]=false:=by simpa using ai);rw [gZ,uX,if_neg (by simp;omega),G6 h,if_neg (by simp;omega),G6 h,if_neg (by simp;omega),G6 h,if_neg (by simp;omega),rz i (by omega),aac aj m (i+1) _ rfl (by omega) (by omega)]
   ·rw [Jo h,tu (by omega)];rfl
theorem aad {row:Row} {k:Unit→Option (Int×Int×Int)} (aj:row.length≤1000):∀ (m i:Nat) (z:Int),z=i→i≤row.length→row.length-i<m →
  Mq row k m z=if IH (row.take i) (row.drop i)=true then some (0,0,11) else k ()
 | 0,i,_,_,_,h=>absurd h (by omega)
 | m+1,i,_,rfl,hi,hm=>by
   rw [Mq];by_cases h:i<row.length
   ·rw [Jp h,qc ⟨by omega,by omega⟩,G6 h,re h,tB,ak1 _ _ (by simp;omega),sb,sW h,IH];by_cases al:((row.take i).any fun q=>decide (q.1=row[i].1))=true
    ·rw [if_pos al,if_pos al,if_pos rfl]
    ·rw [if_neg al,if_neg al,rz i (by omega),aad aj m (i+1) _ rfl (by omega) (by omega),LB h]
   ·rw [Jo h,tu (by omega)];simp [IH]
theorem aae {b:p4} {row:Row} {k:Unit→Option (Int×Int×Int)} (aj:row.length≤1000) (gX:∀ p∈row,Hi b p=false):∀ (m i:Nat) (z:Int),z=((i+1:Nat):Int)→(hi:i<row.length)→row.length-i<m →
  Mr b row k m z=match qE b (fin b row[i]) (row.drop (i+1)) with | none=>some (0,0,27) | some _=>k ()
 | 0,i,_,_,_,h=>absurd h (by omega)
 | m+1,i,_,rfl,hi,hm=>by
   rw [Mr];by_cases h:i+1<row.length
   ·rw [Jp h,show w (((i+1:Nat):Int)-1)=((i:Nat):Int) by rw [I8 (by omega)];omega,G6 hi,re hi,aaB (gX _ (sD hi)),sb,G6 h,re h,aaw (gX _ (sD h)),sb,sW h,qE];by_cases ag:qy b row[i+1]=fin b row[i]
    ·rw [if_pos ag,if_neg (by simp [ag]),rz (i+1) (by omega),aae aj gX m (i+1) _ rfl h (by omega)]
    ·rw [if_neg ag,if_pos (decide_eq_true (Ne.symm ag))]
   ·rw [Jo h,tu (by omega)];rfl
theorem YG {b:p4}:∀ (l:Row) (a aM:Int) (h:l≠[]),qE b a l=some aM→aM=fin b (l.getLast h)
 | [],_,_,h,_=>absurd rfl h
 | [p],a,aM,_,h=>by
   rw [qE] at h;split at h
   ·rw [qE] at h;cases h;rfl
   ·cases h
 | p::q::r,a,aM,_,h=>by
   rw [qE] at h;split at h
   ·rw [List.getLast_cons (by simp)];exact YG (q::r) _ aM (by simp) h
   ·cases h
theorem akr (b:p4) (row:Row) (ag:b.2.length≤1000) (aj:row.length≤1000):Mo b row=some (It b row):=by
 rw [Mo,aag b ag,sb];unfold It;by_cases aS:rX b≠0
 ·rw [if_pos (decide_eq_true aS),sb,if_pos aS]
 rw [if_neg (by simpa using aS),if_neg aS];cases row with
 | nil=>rfl
 | cons p r =>
   rw [if_neg (by simp;omega),aac aj p_ 0 0 rfl (sr _) (rn (by omega)),sQ];dsimp only;by_cases ad:(p::r).any (Hi b)=true
   ·rw [if_pos ad,if_pos ad]
   rw [if_neg ad,if_neg ad];(have iD:(p::r).any (Hi b)=false:=by simpa using ad);rw [uT] at iD;(have gX:∀ q∈p::r,Hi b q=false:=fun q a3=>by simpa using iD q a3);rw [aad aj p_ 0 0 rfl (sr _) (rn (by omega)),tg,sQ];by_cases af:IH [] (p::r)=true
   ·rw [if_pos af,if_pos af]
   rw [if_neg af,if_neg af,aae aj gX p_ 0 1 rfl (by simp) (rn (by omega))];rw [show qE b (qy b p) (p::r)=qE b (fin b p) r by rw [qE,if_pos rfl]];show (match qE b (fin b p) r with | none=>_ | some _=>_)=_;cases aO:qE b (fin b p) r with
   | none=>rfl
   | some a =>
     have ak:(r.length+1:Nat)=(p::r).length:=rfl;dsimp only
     rw [qc (by simp),show ix (p::r) (0:Int)=p from rfl,aaw (gX p (by simp)),sb,
      show w (((p::r).length:Int)-1)=((r.length:Nat):Int) by rw [I8 (by omega)];omega,G6 (by simp),re (by simp),aaB (gX _ (sD _)),sb]
     have:=YG (p::r) (qy b p) a (by simp) (by rw [qE,if_pos rfl];exact aO);rw [this,List.getLast_eq_getElem];rfl
def Lz (b:p4) (row:Row):Int:=let r:=It b row;if r.2.2≠0 then r.2.2 else if row.length<b.2.length then 15 else if r.1≠r.2.1 then 27 else 0
theorem YU:∀ (a b:List Nat),a.Nodup→(∀ x∈a,x∈b)→a.length≤b.length
 | [],_,_,_=>sr _
 | x::a,b,aN,h=>by
   obtain ⟨ad,af⟩:=ue.1 aN;have al:=h x (by simp);have:=YU a (b.erase x) af fun y a0=>by
    have bM:y≠x:=fun e=>ad (e ▸ a0);exact (List.mem_erase_of_ne bM).2 (h y (by simp [a0]))
   rw [List.length_erase_of_mem al] at this;have:=vJ al;simp only [sI];omega
theorem Nb {l:List Int} {n:Nat} (h:l.Nodup) (ag:∀ x∈l,0≤x∧x<(n:Int)):l.length≤n:=by
 have ad:(l.map Int.toNat).Nodup:=by
  rw [List.Nodup,List.pairwise_map];refine h.imp_of_mem fun {a c} cd ao bM e=>bM ?_;have:=ag a cd;have:=ag c ao;omega
 have af:∀ x∈l.map Int.toNat,x∈List.range n:=fun x al=>by
  obtain ⟨y,a0,rfl⟩:=sv.1 al;have:=ag y a0;exact sJ.2 (by omega)
 have:=YU _ _ ad af;simpa using this
theorem akx (b:p4) (row:Row) (ag:b.2.length≤1000) (aj:row.length≤1000):Nv b row=some (Lz b row):=by
 rw [Nv,akm b row ag aj,sb];unfold Lz;dsimp only;by_cases h:(It b row).2.2=0
 ·rw [if_neg (c:=decide ((It b row).2.2≠0)=true) (by simp [h]),if_neg (c:=(It b row).2.2≠0) (by simp [h])];by_cases ad:row.length<b.2.length
  ·rw [if_pos (decide_eq_true (by omega)),if_pos ad]
  ·rw [if_neg (by simp;omega),if_neg ad];by_cases af:(It b row).1≠(It b row).2.1
   ·rw [if_pos (decide_eq_true af),if_pos af]
   ·rw [if_neg (by simpa using af),if_neg af]
 ·rw [if_pos (decide_eq_true h),if_pos h]
end Go.Proofs.YtfakoboiahbhaaaGreat.Ab


namespace Go.Proofs.YtfakoboiahbhaaaGreat.Ab
open Go
set_option maxRecDepth 20000
set_option maxHeartbeats 4000000
noncomputable def abE:ez :=
 Gz [gM 2 [.hG 0] .box,gM 3 [.hG 1] .box,gM 4 [.iA .junk] .iQ] (Gz [gM 5 [.hJ 2,.hJ 3] (.zv 113 0 2),Gp 4 5] .ret)
theorem agy:zf Tryz.prog V6 89=some (abE,6,[.tmp 4]):=by kernel_rfl
def NJ (t:qa) (figure:Int):Option Unit :=
 some ()
theorem U8 {t:qa} {figure:Int} {v:Unit} (h:NJ t figure=some v):ql 89 [(.bU [(hP t.1),(.ay (t.2.flatMap p1) t.2.length .shared)]),(hP figure)] (.func 113 [] [(.bU [(.bU [(hP t.1),(.ay (t.2.flatMap p1) t.2.length .shared)])]),(.bU [(hP figure)])]):=by
 refine qM dI agy rfl (JX rfl (pY (qO (pY (qO (pY rfl (pY (qL (fun _=>(pY rfl (pY rfl rfl))) _ _ _) rfl))) rfl)) (pY (qO (pY rfl rfl)) rfl))) fun Q bl=>?_;have jw:∀ T H,Jx [.tmp 4] (.func 113 [] [(.bU [(.bU [(hP t.1),(p3 t.2 .shared)])]),(.bU [(hP figure)])]) .ret T H→Q .ret T H:=fun T H bI=>bl _ T H bI;unfold NJ at h;unfold abE;conv=>whnf
 exact jw _ _ ⟨.inr rfl,_,rfl,_,(adZ XS (XR (WX (l:=[(.bU [(hP t.1),(p3 t.2 .shared)])]) (by first | exact qi.h | rfl | (simp [sc,I.settle];done)) (pY (qO (pY rfl (pY (qL (fun _=>(pY rfl (pY rfl rfl))) _ _ _) rfl))) rfl)) (XR (WX (l:=[(hP figure)]) (by first | exact qi.h | rfl | (simp [sc,I.settle];done)) (pY rfl rfl)) XS))),rfl⟩

noncomputable def RD:ez :=
 .loop (some (Ez false [1,1,1,1,1,3,6,1,48])) (Gz [gM 15 [.sl 14,.iA (.int .i64 6)] (.bin .lss)] (.seq (.cond (.sl 15) .skip (.exit 0)) (.seq (.block 1 (Gz [Gn 16 14,Gp 8 16] (Gs [Gp 17 8,gM 18 [.sl 7,.hJ 17] (.y3 6 1),⟨none,[.hG 18,.iA (.int .i64 (-1))],none,none,.st 1⟩]))) (Gs [FZ 19 14 1,Gp 14 19]))))
noncomputable def Ve:ez :=
 .An (.sl 34) [35] (Gw Tryz.prog 81 0) (Gx Tryz.prog 81 0)
noncomputable def RE:ez :=
 .loop (some (Ez false [3,1,1,3,1,1,53])) (.seq (Gz [gM 24 [.sl 9] (.pT .one),Gk 25 24,F0 26 25 0 .gtr] (.cond (.sl 26) .skip (.exit 2))) (.block 3 (Gz [gM 27 [.sl 9] (.pT .one),gM 28 [.hJ 27,.iA (.int .i64 0)] (.pM 1),Gl 29 28,gM 10 [] (.alloc [.int .i64 0]),⟨none,[.sl 10,.hG 29],none,none,.st 1⟩] (Gz [gM 30 [.sl 9] .take,gM 31 [.hG 30,.iA (.int .i64 1)] (.AX 1 true false false),⟨none,[.sl 9,.hG 31],none,none,.st 1⟩] (Gz [gM 32 [.sl 3] (.pT .one),gM 33 [.sl 10] (.pT .one),gM 34 [.iA (.func 89 [] []),.sl 32,.sl 33] (.call 3)] (.block 4 Ve))))))
noncomputable def abA:ez :=
 Gz [gM 3 [.hG 0] .box,gM 5 [.hG 2] .box,gM 6 [] (.alloc [.int .i64 0,.int .i64 0,.int .i64 0,.int .i64 0,.int .i64 0,.int .i64 0])] (Gz [gM 7 [] (.alloc [.int .i64 0,.int .i64 0,.int .i64 0,.int .i64 0,.int .i64 0,.int .i64 0])] (.seq (Gz [Gm 14 0] (.block 0 RD)) (Gz [Gn 20 1,gM 21 [.sl 7,.hJ 20] (.y3 6 1),⟨none,[.hG 21,.iA (.int .i64 0)],none,none,.st 1⟩] (Gz [Gp 22 1,gM 23 [.hJ 22] (.x' 1 1 [.int .i64 0] [0]),gM 9 [] (.alloc [.ay [] 0 .full]),⟨none,[.sl 9,.hG 23],none,none,.st 1⟩] (.seq (.block 2 RE) (Gz [gM 62 [.hJ 7] (.pT (.arr 6)),⟨none,[.sl 6,.hG 62],none,none,.st 6⟩] .ret))))))
noncomputable def abB:ez :=
 .j0 false [gM 11 [] (.alloc [.int .i64 0,.int .i64 0]),⟨none,[.sl 11,.hG 35],none,none,.st 2⟩]
theorem agv:dT Tryz.prog IP (Gw Tryz.prog 81 0) 0=some abB:=by kernel_rfl
noncomputable def abC:ez :=
 .block 5 (Gz [Gl 37 3,gM 38 [.sl 11] (.pT (.str 2)),gM 39 [.iA (.func 68 [] []),.sl 37,.sl 38] (.call 3),Gp 36 39,GJ 40 36 0,gM 41 [.hJ 36] (.ext 1),Gp 12 40,Gp 13 41] (Gz [F6 42 11 0,Gl 43 42,Gl 44 5,F1 45 43 44 .neq,Gp 46 45,cP 47 [.sl 13] 46 true .iQ,⟨some 48,[.sl 7,.hJ 47],some (46,true),none,.y3 6 1⟩,cP 49 [.hJ 48] 46 true (.pT .one),cP 50 [.hJ 49,.iA (.int .i64 0)] 46 true (.bin .lss),gM 51 [.hJ 46,.hJ 50,.iA (.bool false)] .pick] (.cond (.sl 51) (Gz [Gn 52 13,Gl 53 10,gM 54 [.sl 7,.hJ 53] (.y3 6 1),Gl 55 54,FZ 56 55 1,gM 57 [.hJ 7,.hJ 52] (.y3 6 1),⟨none,[.hG 57,.hG 56],none,none,.st 1⟩] (Gs [gM 58 [.sl 9] .take,Gp 59 13,gM 60 [.hJ 59] (.x' 1 1 [.int .i64 0] [0]),gM 61 [.hG 58,.hG 60] (.app 1 8),⟨none,[.hG 9,.hG 61],none,none,.st 1⟩])) .skip)))
theorem agw:dT Tryz.prog IP (Gx Tryz.prog 81 0) 0=some abC:=by kernel_rfl
theorem agu:zf Tryz.prog IP 81=some (abA,63,[.cell 6 (.arr 6)]):=by kernel_rfl
def MC (p9:p5→Option p5):Nat→Int→p5→Option p5
 | 0,_,_=>none
 | m+1,s1,s2 =>
   if (decide (s1<(6:Int)))=true then
    p8 (0≤s1∧s1<(6:Int)∧6=s2.length) <|
    MC p9 m (w (s1+(1:Int))) (s2.set s1.toNat (-1:Int))
   else
    p9 s2
def ME (t:qa) (without:Int) (Gy:p5) (UK:p5×p5) (e1:(Int×Int)):Option (p5×p5) :=
 match UK with
 | (t1,t2) =>
   (K3 t e1).bind fun r2 =>
   if (decide (e1.1≠without))=true then
    p8 (0≤r2.2∧r2.2<(6:Int)∧6=t2.length) <|
    if (decide ((ix t2 r2.2)<(0:Int)))=true then
     p8 (0≤(ix Gy (0:Int))∧(ix Gy (0:Int))<(6:Int)∧6=t2.length) <|
     p8 (0≤r2.2∧r2.2<(6:Int)∧6=t2.length) <|
     p8 ((t1.length+1)*8≤140737488355328) <|
     some ((t1++[r2.2]),(t2.set r2.2.toNat (w ((ix t2 (ix Gy (0:Int)))+(1:Int)))))
    else
     some (t1,t2)
   else
    some (t1,t2)
def MD (t:qa) (without:Int) (qB:p5→Option p5):Nat→p5→p5→Option p5
 | 0,_,_=>none
 | m+1,s3,Gy =>
   if (decide ((0:Int)<(Gy.length:Int)))=true then
    p8 (0≤(0:Int)∧(0:Int)<(Gy.length:Int)) <|
    p8 (0≤(1:Int)∧(1:Int)≤(Gy.length:Int)) <|
    (NJ t (ix Gy (0:Int))).bind fun r1 =>
    (JD t (ix Gy (0:Int))).bind fun dK =>
    (II (ME t without Gy) dK ((Gy.drop (1:Int).toNat),s3)).bind fun r3 =>
    MD t without qB m r3.2 r3.1
   else
    qB s3
def NG (t:qa) (to without:Int):Option p5 :=
 MC (fun xZ =>
   p8 (0≤to∧to<(6:Int)∧6=xZ.length) <|
   MD t without (fun oi =>
     p8 (oi.length=6) <|
     p8 (oi.length=6∧(List.replicate 6 (0:Int)).length=6) <|
     p8 (oi.length=6) <|
     some oi) p_ (xZ.set to.toNat (0:Int)) [to]) p_ (0:Int) (List.replicate 6 (0:Int))
theorem ak_ {p9:p5→Option p5} {s1:Int} {s2:p5} {t:qa} {to:Int} {without:Int} {v:p5} {Q:q'}   (q8:∀ (xZ:p5) (p6:List I),p9 xZ=some v→qU 63 [(1,(hP to)),(3,(.ptr 0 0)),(5,(.ptr 1 0)),(6,(.ptr 2 0)),(7,(.ptr 3 0))] p6→Q (.exit 0) p6 [au.cells [(.bU [(hP t.1),(p3 t.2 .shared)])],au.cells [(hP without)],au.cells ((List.replicate 6 (0:Int)).map hP),au.cells (xZ.map hP)]) {T:List I} (bX:eR (Ez false [1,1,1,1,1,3,6,1,48]) T=GG 63 [(1,(hP to)),(3,(.ptr 0 0)),(5,(.ptr 1 0)),(6,(.ptr 2 0)),(7,(.ptr 3 0)),(14,(hP s1))]) (h:MC p9 p_ s1 s2=some v) :
  dC Tryz.prog IP 81 0 none RD T [au.cells [(.bU [(hP t.1),(p3 t.2 .shared)])],au.cells [(hP without)],au.cells ((List.replicate 6 (0:Int)).map hP),au.cells (s2.map hP)] Q:=by
 unfold RD;refine wp_loop bX ?_;refine .intro (fun m T H=>∃ (s1:Int) (s2:p5),T=GG 63 [(1,(hP to)),(3,(.ptr 0 0)),(5,(.ptr 1 0)),(6,(.ptr 2 0)),(7,(.ptr 3 0)),(14,(hP s1))]∧H=[au.cells [(.bU [(hP t.1),(p3 t.2 .shared)])],au.cells [(hP without)],au.cells ((List.replicate 6 (0:Int)).map hP),au.cells (s2.map hP)]∧MC p9 m s1 s2=some v) p_ ⟨s1,s2,rfl,rfl,h⟩ ?_;clear h bX;rintro m T H ⟨s1,s2,rfl,rfl,h⟩;cases m
 ·exact q7 h
 rename_i m;rw [MC.eq_2] at h;conv=>whnf
 refine bs h (fun eU h=>?_) fun eU h=>?_
 ·rw [eU];conv=>whnf
  obtain ⟨fk,h⟩:=qn h;refine ⟨⟨fk.1,fk.2.1⟩,?_⟩;replace fk:0≤s1∧s1<(s2.length:Int):=⟨fk.1,by have:=fk.2;omega⟩;conv=>whnf
  refine Kq hP s2 s1 (-1:Int) fk ?_;conv=>whnf
  exact ⟨m,sm m,(w (s1+(1:Int))),(s2.set s1.toNat (-1:Int)),rfl,rfl,h⟩
 ·rw [eU];conv=>whnf
  exact q8 _ _ h ⟨rfl,rfl⟩
theorem alc {t:qa} {without:Int} {Gy:p5} {s3:p5} {t1:p5} {t2:p5} {e1:(Int×Int)} {xT:I} {fr:I} {gg:I} {FH:I} {H8:I} {u8:I} {LC:I} {HB:I} {HC:I} {HD:I} {HE:I} {u16:I} {HF:I} {HG:I} {HH:I} {Hj:I} {Hk:I} {Hl:I} {G3:I} {HI:I} {HJ:I} {Hs:I} {HK:I} {HL:I} {Ht:I} {HM:I} {HN:I} {u32:I} {HO:I} {G':I} {Ha:I} {Hb:I} {Hc:I} {GU:I} {GV:I} {GX:I} {Hd:I} {HP:I} {HQ:I} {HR:I} {HS:I} {HT:I} {HU:I} {HV:I} {HW:I} {HX:I} {HY:I} {HZ:I} {H0:I} {H2:I} {H3:I} {H4:I} {H5:I} {H6:I} {H7:I} {H9:I} {H_:I} {Ia:I} {kO:au} {rP:List au} {J1:p5×p5} (h:ME t without Gy (t1,t2) e1=some J1) (Y:List au) :
  ∃ qq,Sem Tryz.prog (.yield (((au.cells [(.bU [(hP t.1),(p3 t.2 .shared)])]::au.cells [(hP without)]::kO::au.cells (t2.map hP)::au.cells [(qe t1 (.own 1))]::rP)++[au.cells [(hP (ix Gy (0:Int)))]])).length) [(.agg [(hP e1.1),(hP e1.2)])] ((((au.cells [(.bU [(hP t.1),(p3 t.2 .shared)])]::au.cells [(hP without)]::kO::au.cells (t2.map hP)::au.cells [(qe t1 (.own 1))]::rP)++[au.cells [(hP (ix Gy (0:Int)))]])++[au.loop .ready none 81 [xT,fr,gg,(I.ptr 0 0),FH,(I.ptr 1 0),H8,(I.ptr 3 0),u8,(I.ptr 4 0),(I.ptr (au.cells [(.bU [(hP t.1),(p3 t.2 .shared)])]::au.cells [(hP without)]::kO::au.cells (s3.map hP)::au.cells [(qe (Gy.drop (1:Int).toNat) (.own 1))]::rP).length 0),LC,HB,HC,HD,HE,u16,HF,HG,HH,Hj,Hk,Hl,G3,HI,HJ,Hs,HK,HL,Ht,HM,HN,u32,HO,G',Ha,Hb,Hc,GU,GV,GX,Hd,HP,HQ,HR,HS,HT,HU,HV,HW,HX,HY,HZ,H0,H2,H3,H4,H5,H6,H7,H9,H_,Ia] [35] (Gw Tryz.prog 81 0) (Gx Tryz.prog 81 0) IP])++Y) 0 (.bool true) ((((au.cells [(.bU [(hP t.1),(p3 t.2 .shared)])]::au.cells [(hP without)]::kO::au.cells (J1.2.map hP)::au.cells [(qe J1.1 (.own 1))]::rP)++[au.cells [(hP (ix Gy (0:Int)))]])++[au.loop .ready none 81 [xT,fr,gg,(I.ptr 0 0),FH,(I.ptr 1 0),H8,(I.ptr 3 0),u8,(I.ptr 4 0),(I.ptr (au.cells [(.bU [(hP t.1),(p3 t.2 .shared)])]::au.cells [(hP without)]::kO::au.cells (s3.map hP)::au.cells [(qe (Gy.drop (1:Int).toNat) (.own 1))]::rP).length 0),LC,HB,HC,HD,HE,u16,HF,HG,HH,Hj,Hk,Hl,G3,HI,HJ,Hs,HK,HL,Ht,HM,HN,u32,HO,G',Ha,Hb,Hc,GU,GV,GX,Hd,HP,HQ,HR,HS,HT,HU,HV,HW,HX,HY,HZ,H0,H2,H3,H4,H5,H6,H7,H9,H_,Ia] [35] (Gw Tryz.prog 81 0) (Gx Tryz.prog 81 0) IP])++qq):=by
 unfold ME at h;refine ⟨Y++[.dead],GF dI agv agw (Lh _ _ _) rfl (Lo (by simp)) ?_⟩;unfold abB;conv=>whnf
 refine DW (x:=au.cells [(hP (0:Int)),(hP (0:Int))]) (by first | exact qi.h | rfl | (simp [sc,I.settle];done)) ?_
 conv=>whnf
 rw [rk];refine ⟨rfl,JB _ _ _ _,?_⟩;rw [J0];unfold abC;conv=>whnf
 refine DW (x:=au.cells [(hP e1.1),(hP e1.2)]) (by first | exact qi.h | rfl | (simp [sc,I.settle];done)) ?_
 conv=>whnf
 obtain ⟨r2,qQ,h⟩:=qd h;refine ⟨qj.pl,_,Jv qQ,?_⟩;conv=>whnf
 refine DW (x:=au.cells [(hP e1.1),(hP e1.2)]) (by first | exact qi.h | rfl | (simp [sc,I.settle];done)) ?_
 conv=>whnf
 refine bs h (fun q5 h=>?_) fun q5 h=>?_
 ·rw [q5];conv=>whnf
  obtain ⟨qV,h⟩:=qn h;refine ⟨⟨qV.1,qV.2.1⟩,?_⟩;replace qV:0≤r2.2∧r2.2<(t2.length:Int):=⟨qV.1,by have:=qV.2;omega⟩;conv=>whnf
  refine IL hP t2 r2.2 qV ?_;conv=>whnf
  refine bs h (fun rK h=>?_) fun rK h=>?_
  ·rw [rK];(conv=>whnf);refine DW (x:=au.cells [(hP (ix Gy (0:Int)))]) (by first | exact qi.h | rfl | (simp [sc,I.settle];done)) ?_
   (conv=>whnf);obtain ⟨rj,h⟩:=qn h;refine ⟨⟨rj.1,rj.2.1⟩,?_⟩;replace rj:0≤(ix Gy (0:Int))∧(ix Gy (0:Int))<(t2.length:Int):=⟨rj.1,by have:=rj.2;omega⟩;(conv=>whnf);refine IL hP t2 (ix Gy (0:Int)) rj ?_;(conv=>whnf);obtain ⟨rA,h⟩:=qn h;refine ⟨⟨rA.1,rA.2.1⟩,?_⟩;replace rA:0≤r2.2∧r2.2<(t2.length:Int):=⟨rA.1,by have:=rA.2;omega⟩;(conv=>whnf);refine Kq hP t2 r2.2 (w ((ix t2 (ix Gy (0:Int)))+(1:Int))) rA ?_;(conv=>whnf);obtain ⟨rW,h⟩:=qn h;refine ⟨by first | rfl | simp,by have:=rW;omega,rfl,rW,?_⟩
   erw [Lb hP t1 r2.2];(conv=>whnf);obtain rfl:=Option.some.inj h;show _∧(((((au.cells [(.bU [(hP t.1),(p3 t.2 .shared)])]::au.cells [(hP without)]::kO::au.cells ((t2.set r2.2.toNat (w ((ix t2 (ix Gy (0:Int)))+(1:Int)))).map hP)::au.cells [(qe (t1++[r2.2]) (.own 1))]::rP)++[au.cells [(hP (ix Gy (0:Int)))]])++[au.loop .busy none 81 [xT,fr,gg,(I.ptr 0 0),FH,(I.ptr 1 0),H8,(I.ptr 3 0),u8,(I.ptr 4 0),(I.ptr (au.cells [(.bU [(hP t.1),(p3 t.2 .shared)])]::au.cells [(hP without)]::kO::au.cells (s3.map hP)::au.cells [(qe (Gy.drop (1:Int).toNat) (.own 1))]::rP).length 0),LC,HB,HC,HD,HE,u16,HF,HG,HH,Hj,Hk,Hl,G3,HI,HJ,Hs,HK,HL,Ht,HM,HN,u32,HO,G',Ha,Hb,Hc,GU,GV,GX,Hd,HP,HQ,HR,HS,HT,HU,HV,HW,HX,HY,HZ,H0,H2,H3,H4,H5,H6,H7,H9,H_,Ia] [35] (Gw Tryz.prog 81 0) (Gx Tryz.prog 81 0) IP])++Y)++[_])[(((au.cells [(.bU [(hP t.1),(p3 t.2 .shared)])]::au.cells [(hP without)]::kO::au.cells ((t2.set r2.2.toNat (w ((ix t2 (ix Gy (0:Int)))+(1:Int)))).map hP)::au.cells [(qe (t1++[r2.2]) (.own 1))]::rP)++[au.cells [(hP (ix Gy (0:Int)))]])).length]?=_∧jg ((((((au.cells [(.bU [(hP t.1),(p3 t.2 .shared)])]::au.cells [(hP without)]::kO::au.cells ((t2.set r2.2.toNat (w ((ix t2 (ix Gy (0:Int)))+(1:Int)))).map hP)::au.cells [(qe (t1++[r2.2]) (.own 1))]::rP)++[au.cells [(hP (ix Gy (0:Int)))]])++[au.loop .busy none 81 [xT,fr,gg,(I.ptr 0 0),FH,(I.ptr 1 0),H8,(I.ptr 3 0),u8,(I.ptr 4 0),(I.ptr (au.cells [(.bU [(hP t.1),(p3 t.2 .shared)])]::au.cells [(hP without)]::kO::au.cells (s3.map hP)::au.cells [(qe (Gy.drop (1:Int).toNat) (.own 1))]::rP).length 0),LC,HB,HC,HD,HE,u16,HF,HG,HH,Hj,Hk,Hl,G3,HI,HJ,Hs,HK,HL,Ht,HM,HN,u32,HO,G',Ha,Hb,Hc,GU,GV,GX,Hd,HP,HQ,HR,HS,HT,HU,HV,HW,HX,HY,HZ,H0,H2,H3,H4,H5,H6,H7,H9,H_,Ia] [35] (Gw Tryz.prog 81 0) (Gx Tryz.prog 81 0) IP])++Y)++[_]).set (((au.cells [(.bU [(hP t.1),(p3 t.2 .shared)])]::au.cells [(hP without)]::kO::au.cells ((t2.set r2.2.toNat (w ((ix t2 (ix Gy (0:Int)))+(1:Int)))).map hP)::au.cells [(qe (t1++[r2.2]) (.own 1))]::rP)++[au.cells [(hP (ix Gy (0:Int)))]])).length _) _;exact ⟨rfl,JB _ _ _ _,by rw [J0];exact MT _ _ _ _⟩
  ·rw [rK];(conv=>whnf);obtain rfl:=Option.some.inj h;show _∧(((((au.cells [(.bU [(hP t.1),(p3 t.2 .shared)])]::au.cells [(hP without)]::kO::au.cells (t2.map hP)::au.cells [(qe t1 (.own 1))]::rP)++[au.cells [(hP (ix Gy (0:Int)))]])++[au.loop .busy none 81 [xT,fr,gg,(I.ptr 0 0),FH,(I.ptr 1 0),H8,(I.ptr 3 0),u8,(I.ptr 4 0),(I.ptr (au.cells [(.bU [(hP t.1),(p3 t.2 .shared)])]::au.cells [(hP without)]::kO::au.cells (s3.map hP)::au.cells [(qe (Gy.drop (1:Int).toNat) (.own 1))]::rP).length 0),LC,HB,HC,HD,HE,u16,HF,HG,HH,Hj,Hk,Hl,G3,HI,HJ,Hs,HK,HL,Ht,HM,HN,u32,HO,G',Ha,Hb,Hc,GU,GV,GX,Hd,HP,HQ,HR,HS,HT,HU,HV,HW,HX,HY,HZ,H0,H2,H3,H4,H5,H6,H7,H9,H_,Ia] [35] (Gw Tryz.prog 81 0) (Gx Tryz.prog 81 0) IP])++Y)++[_])[(((au.cells [(.bU [(hP t.1),(p3 t.2 .shared)])]::au.cells [(hP without)]::kO::au.cells (t2.map hP)::au.cells [(qe t1 (.own 1))]::rP)++[au.cells [(hP (ix Gy (0:Int)))]])).length]?=_∧jg ((((((au.cells [(.bU [(hP t.1),(p3 t.2 .shared)])]::au.cells [(hP without)]::kO::au.cells (t2.map hP)::au.cells [(qe t1 (.own 1))]::rP)++[au.cells [(hP (ix Gy (0:Int)))]])++[au.loop .busy none 81 [xT,fr,gg,(I.ptr 0 0),FH,(I.ptr 1 0),H8,(I.ptr 3 0),u8,(I.ptr 4 0),(I.ptr (au.cells [(.bU [(hP t.1),(p3 t.2 .shared)])]::au.cells [(hP without)]::kO::au.cells (s3.map hP)::au.cells [(qe (Gy.drop (1:Int).toNat) (.own 1))]::rP).length 0),LC,HB,HC,HD,HE,u16,HF,HG,HH,Hj,Hk,Hl,G3,HI,HJ,Hs,HK,HL,Ht,HM,HN,u32,HO,G',Ha,Hb,Hc,GU,GV,GX,Hd,HP,HQ,HR,HS,HT,HU,HV,HW,HX,HY,HZ,H0,H2,H3,H4,H5,H6,H7,H9,H_,Ia] [35] (Gw Tryz.prog 81 0) (Gx Tryz.prog 81 0) IP])++Y)++[_]).set (((au.cells [(.bU [(hP t.1),(p3 t.2 .shared)])]::au.cells [(hP without)]::kO::au.cells (t2.map hP)::au.cells [(qe t1 (.own 1))]::rP)++[au.cells [(hP (ix Gy (0:Int)))]])).length _) _;exact ⟨rfl,JB _ _ _ _,by rw [J0];exact MT _ _ _ _⟩
 ·rw [q5];conv=>whnf
  obtain rfl:=Option.some.inj h;show _∧(((((au.cells [(.bU [(hP t.1),(p3 t.2 .shared)])]::au.cells [(hP without)]::kO::au.cells (t2.map hP)::au.cells [(qe t1 (.own 1))]::rP)++[au.cells [(hP (ix Gy (0:Int)))]])++[au.loop .busy none 81 [xT,fr,gg,(I.ptr 0 0),FH,(I.ptr 1 0),H8,(I.ptr 3 0),u8,(I.ptr 4 0),(I.ptr (au.cells [(.bU [(hP t.1),(p3 t.2 .shared)])]::au.cells [(hP without)]::kO::au.cells (s3.map hP)::au.cells [(qe (Gy.drop (1:Int).toNat) (.own 1))]::rP).length 0),LC,HB,HC,HD,HE,u16,HF,HG,HH,Hj,Hk,Hl,G3,HI,HJ,Hs,HK,HL,Ht,HM,HN,u32,HO,G',Ha,Hb,Hc,GU,GV,GX,Hd,HP,HQ,HR,HS,HT,HU,HV,HW,HX,HY,HZ,H0,H2,H3,H4,H5,H6,H7,H9,H_,Ia] [35] (Gw Tryz.prog 81 0) (Gx Tryz.prog 81 0) IP])++Y)++[_])[(((au.cells [(.bU [(hP t.1),(p3 t.2 .shared)])]::au.cells [(hP without)]::kO::au.cells (t2.map hP)::au.cells [(qe t1 (.own 1))]::rP)++[au.cells [(hP (ix Gy (0:Int)))]])).length]?=_∧jg ((((((au.cells [(.bU [(hP t.1),(p3 t.2 .shared)])]::au.cells [(hP without)]::kO::au.cells (t2.map hP)::au.cells [(qe t1 (.own 1))]::rP)++[au.cells [(hP (ix Gy (0:Int)))]])++[au.loop .busy none 81 [xT,fr,gg,(I.ptr 0 0),FH,(I.ptr 1 0),H8,(I.ptr 3 0),u8,(I.ptr 4 0),(I.ptr (au.cells [(.bU [(hP t.1),(p3 t.2 .shared)])]::au.cells [(hP without)]::kO::au.cells (s3.map hP)::au.cells [(qe (Gy.drop (1:Int).toNat) (.own 1))]::rP).length 0),LC,HB,HC,HD,HE,u16,HF,HG,HH,Hj,Hk,Hl,G3,HI,HJ,Hs,HK,HL,Ht,HM,HN,u32,HO,G',Ha,Hb,Hc,GU,GV,GX,Hd,HP,HQ,HR,HS,HT,HU,HV,HW,HX,HY,HZ,H0,H2,H3,H4,H5,H6,H7,H9,H_,Ia] [35] (Gw Tryz.prog 81 0) (Gx Tryz.prog 81 0) IP])++Y)++[_]).set (((au.cells [(.bU [(hP t.1),(p3 t.2 .shared)])]::au.cells [(hP without)]::kO::au.cells (t2.map hP)::au.cells [(qe t1 (.own 1))]::rP)++[au.cells [(hP (ix Gy (0:Int)))]])).length _) _;exact ⟨rfl,JB _ _ _ _,by rw [J0];exact MT _ _ _ _⟩
theorem ala {t:qa} {without:Int} {qB:p5→Option p5} {s3:p5} {Gy:p5} {v:p5} {Q:q'}   (IK:∀ (oi:p5) (bA bQ g8:au) (q_:List au) (p6:List I),qB oi=some v→qU 63 [(6,(.ptr 2 0)),(7,(.ptr 3 0))] p6→Q (.exit 2) p6 (bA::bQ::au.cells ((List.replicate 6 (0:Int)).map hP)::au.cells (oi.map hP)::g8::q_)) {T:List I} (bX:eR (Ez false [3,1,1,3,1,1,53]) T=GG 63 [(3,(.ptr 0 0)),(5,(.ptr 1 0)),(6,(.ptr 2 0)),(7,(.ptr 3 0)),(9,(.ptr 4 0))]) (h:MD t without qB p_ s3 Gy=some v) :
  dC Tryz.prog IP 81 0 none RE T [au.cells [(.bU [(hP t.1),(p3 t.2 .shared)])],au.cells [(hP without)],au.cells ((List.replicate 6 (0:Int)).map hP),au.cells (s3.map hP),au.cells [(qe Gy (.own 1))]] Q:=by
 unfold RE;obtain ⟨J8,rm⟩:∃ c,Ve=c:=⟨_,rfl⟩;rw [rm];refine wp_loop bX ?_;refine .intro (fun m T H=>∃ (s3 Gy:p5) (rP:List au),T=GG 63 [(3,(.ptr 0 0)),(5,(.ptr 1 0)),(6,(.ptr 2 0)),(7,(.ptr 3 0)),(9,(.ptr 4 0))]∧H=(au.cells [(.bU [(hP t.1),(p3 t.2 .shared)])]::au.cells [(hP without)]::au.cells ((List.replicate 6 (0:Int)).map hP)::au.cells (s3.map hP)::au.cells [(qe Gy (.own 1))]::rP)∧MD t without qB m s3 Gy=some v) p_ ⟨s3,Gy,[],rfl,rfl,h⟩ ?_;clear h bX;rintro m T H ⟨s3,Gy,rP,rfl,rfl,h⟩;cases m
 ·exact q7 h
 rename_i m;rw [MD.eq_2] at h;conv=>whnf
 refine bs h (fun qo h=>?_) fun qo h=>?_
 ·rw [qo];conv=>whnf
  refine qk h id fun qD h=>?_;rw [rT hP Gy (0:Int) qD];conv=>whnf
  refine DW (x:=au.cells [(hP (0:Int))]) (by first | exact qi.h | rfl | (simp [sc,I.settle];done)) ?_
  conv=>whnf
  rw [rk];obtain ⟨rr,h⟩:=qn h;refine ⟨⟨rfl,rr⟩,?_⟩;erw [aiH hP Gy (1:Int) rr];conv=>whnf
  refine DW (x:=au.cells [(hP (ix Gy (0:Int)))]) (by first | exact qi.h | rfl | (simp [sc,I.settle];done)) ?_
  conv=>whnf
  obtain ⟨r1,qN,h⟩:=qd h;refine ⟨qj.pl,_,U8 qN,?_⟩;conv=>whnf
  obtain ⟨dK,rH,h⟩:=qd h;obtain ⟨r3,q9,h⟩:=qd h;obtain ⟨Hy,Lk,Of,bB⟩:=PZ q9;subst rm;unfold Ve;refine UA (f:=fun (e1:(Int×Int))=>(.agg [(hP e1.1),(hP e1.2)])) (UE rH) (fun i=>((au.cells [(.bU [(hP t.1),(p3 t.2 .shared)])]::au.cells [(hP without)]::au.cells ((List.replicate 6 (0:Int)).map hP)::au.cells (((Hy i).2).map hP)::au.cells [(qe ((Hy i).1) (.own 1))]::rP)++[au.cells [(hP (ix Gy (0:Int)))]])) (by exact rfl) (by show ((au.cells [(.bU [(hP t.1),(p3 t.2 .shared)])]::au.cells [(hP without)]::au.cells ((List.replicate 6 (0:Int)).map hP)::au.cells (((Hy 0).2).map hP)::au.cells [(qe ((Hy 0).1) (.own 1))]::rP)++[au.cells [(hP (ix Gy (0:Int)))]])=_;first | (rw [Lk];done) | (rw [Lk];rfl)) (fun _=>rfl) ?_ (rl:=none) (by exact rfl) (Hn:=((au.cells [(.bU [(hP t.1),(p3 t.2 .shared)])]::au.cells [(hP without)]::au.cells ((List.replicate 6 (0:Int)).map hP)::au.cells (r3.2.map hP)::au.cells [(qe r3.1 (.own 1))]::rP)++[au.cells [(hP (ix Gy (0:Int)))]])) (by show ((au.cells [(.bU [(hP t.1),(p3 t.2 .shared)])]::au.cells [(hP without)]::au.cells ((List.replicate 6 (0:Int)).map hP)::au.cells (((Hy dK.length).2).map hP)::au.cells [(qe ((Hy dK.length).1) (.own 1))]::rP)++[au.cells [(hP (ix Gy (0:Int)))]])=_;first | (rw [Of];done) | (rw [Of];rfl)) (fun Vr=>?_)
  ·intro i hi Y;exact alc (s3:=s3) (bB i hi) Y
  conv=>whnf
  exact ⟨m,sm m,r3.2,r3.1,_,rfl,rfl,h⟩
 ·rw [qo];conv=>whnf
  exact IK _ _ _ _ _ _ h ⟨rfl,rfl⟩
theorem aaK {t:qa} {to:Int} {without:Int} {v:p5} (h:NG t to without=some v):ql 81 [(.bU [(hP t.1),(.ay (t.2.flatMap p1) t.2.length .shared)]),(hP to),(hP without)] (.agg ((v.map hP))):=by
 refine qM dI agu rfl (I1 (Qv (fun _=>rfl) _)) fun Q bl=>?_;have jw:qu [.cell 6 (.arr 6)] Q (fun v=>(.agg ((v.map hP)))) v:=fun T H bI=>bl _ T H bI;unfold NG at h;unfold abA;obtain ⟨Ho,qz⟩:∃ c,RD=c:=⟨_,rfl⟩;rw [qz];obtain ⟨NZ,Hq⟩:∃ c,RE=c:=⟨_,rfl⟩;rw [Hq];conv=>whnf
 subst qz;refine ak_ ?_ (by exact rfl) h;intro xZ p6 h qh;obtain ⟨qS,rfl⟩:=qh.ex;conv=>whnf
 obtain ⟨qf,h⟩:=qn h;refine ⟨⟨qf.1,qf.2.1⟩,?_⟩;replace qf:0≤to∧to<(xZ.length:Int):=⟨qf.1,by have:=qf.2;omega⟩;conv=>whnf
 refine Kq hP xZ to (0:Int) qf ?_;conv=>whnf
 subst Hq;refine ala ?_ (by exact rfl) h;intro oi bA bQ g8 q_ p6 h qh;obtain ⟨qS,rfl⟩:=qh.ex;conv=>whnf
 obtain ⟨GM,h⟩:=qn h;refine ⟨by simp [GM],?_⟩;rw [Td hP oi (fun _=>rfl) GM];conv=>whnf
 obtain ⟨ru,h⟩:=qn h
 try rw [show List.map I.gR (List.map hP oi)=List.map hP oi from by rw [tx];rfl]
 first | (refine UJ hP oi (n:=6) (l:=(List.replicate 6 (0:Int))) (sr _) (fun _=>rfl) (by first | exact qi.h | rfl | (simp [sc,I.settle];done)) ru.1 ru.2 (by decide) ?_) | (rw [show Nat.beq (List.map hP oi).length 6=true from by rw [sZ,ru.1] <;> exact uG _];refine QZ hP (List.replicate 6 (0:Int)) oi (fun _=>rfl) (by rw [ru.1,ru.2]) ?_)
 conv=>whnf
 obtain ⟨Hr,h⟩:=qn h;obtain rfl:=Option.some.inj h;exact jw _ _ ⟨.inr rfl,_,aib (l:=oi) (by rfl) (by first | exact qi.h | rfl | (simp [sc,I.settle];done)) Hr,_,oR (I1 (Qv (fun _=>rfl) _)),(by show I.agg (List.map I.gR (List.map _ _))=_;rw [tx];rfl)⟩
end Go.Proofs.YtfakoboiahbhaaaGreat.Ab


namespace Go.Proofs.YtfakoboiahbhaaaGreat.Ab
open Go
def G4 (b:p4) (wo f g:Int):Prop:=∃ p∈places b f,p.1≠wo∧fin b p=g
def GY (b:p4) (wo:Int):Nat→Int→Int→Prop
 | 0,a,g=>a=g
 | n+1,a,g=>∃ f,GY b wo n a f∧G4 b wo f g
def QX (b:p4) (wo f:Int) (s:List Int×List Int) (p:Int×Int):List Int×List Int :=
 if p.1≠wo∧ix s.2 (fin b p)<0 then (s.1++[fin b p],s.2.set (fin b p).toNat (ix s.2 f+1)) else s
theorem ahf {n r:Nat} (h:r<2*n):0≤(q4 r).1∧(q4 r).1<(n:Int)∧0≤(q4 r).2∧(q4 r).2≤1:=by
 unfold q4;simp only;omega
theorem OJ {b:p4} {f:Int} {p:Int×Int} (h:p∈places b f):0≤p.1∧p.1<(b.2.length:Int)∧0≤p.2∧p.2≤1∧qy b p=f:=by
 unfold places at h;obtain ⟨r,aj,rfl⟩:=sv.1 h;obtain ⟨ad,af⟩:=sK.1 aj;have:=ahf (sJ.1 ad);exact ⟨this.1,this.2.1,this.2.2.1,this.2.2.2,by simpa [qY] using af⟩
theorem Ow {l:List (Int×Int)} {i:Int} (h:0≤i∧i<(l.length:Int)):ix l i∈l:=by
 obtain ⟨k,rfl⟩:∃ k:Nat,i=(k:Int):=⟨i.toNat,by omega⟩;rw [re (by omega)];exact sD _
theorem LZ {b:p4} (pZ:qm b) {f:Int} {p:Int×Int} (h:p∈places b f):0≤fin b p∧fin b p<b.1:=by
 have h:=OJ h;have hm:=Ow (l:=b.2) ⟨h.1,h.2.1⟩;unfold fin;split
 ·exact pZ.left _ hm
 ·exact pZ.right _ hm
def Jg (D:List Int):Nat:=D.countP fun x=>decide (x<0)
theorem Si:∀ (D:List Int) (j:Nat) (x:Int) (h:j<D.length),D[j]<0→0≤x→Jg (D.set j x)+1=Jg D
 | a::D,0,x,_,ad,af=>by
   have ad:a<0:=ad;simp [Jg,List.countP_cons,ad,show ¬ x<0 by omega]
 | a::D,j+1,x,h,ad,af=>by
   have:=Si D j x (by simpa using h) ad af;simp only [Jg,List.set_cons_succ,List.countP_cons] at this ⊢;omega
theorem alb {b:p4} (pZ:qm b) {wo f:Int} {Q0:List Int} (aQ:ix Q0 (0:Int)=f∧0≤f∧f<b.1) {s:List Int×List Int} {p:Int×Int} (aC:p∈places b f) (ak:s.2.length=6) (aj:s.1.length+Jg s.2≤1000) (aZ:-1≤ix s.2 f∧ix s.2 f≤100) :
  ME b wo Q0 s p=some (QX b wo f s p):=by
 obtain ⟨t1,t2⟩:=s;have h4:=OJ aC;have Cp:=LZ pZ aC;have bV:=pZ.f6;simp only at ak aj aZ;rw [ME];simp only [JL ⟨h4.1,h4.2.1⟩,sb,aQ.1];unfold QX;by_cases ad:p.1≠wo
 ·rw [if_pos (decide_eq_true ad),qc ⟨by omega,by omega,ak.symm⟩];by_cases af:ix t2 (fin b p)<0
  ·rw [if_pos (decide_eq_true af),qc ⟨by omega,by omega,ak.symm⟩,qc ⟨by omega,by omega,ak.symm⟩,qc (by omega),I8 (by omega),if_pos ⟨ad,af⟩]
  ·rw [if_neg (by simpa using af),if_neg (by simp [af])]
 ·rw [if_neg (by simpa using ad),if_neg (by simp [ad])]
structure MM (b:p4) (wo f:Int) (Q0 D0:List Int) (Hw:List (Int×Int)) (s:List Int×List Int):Prop where
 len:s.2.length=6
 Ws:s.1.length+Jg s.2=Q0.length+Jg D0
 fJ:∀ g:Nat,g<6→0≤ix D0 (g:Int)→ix s.2 (g:Int)=ix D0 (g:Int)
 new:∀ g:Nat,g<6→ix D0 (g:Int)<0→ix s.2 (g:Int)=ix D0 (g:Int)∨(ix s.2 (g:Int)=ix D0 f+1∧G4 b wo f (g:Int)∧(g:Int)∈s.1)
 al7:∃ N,s.1=Q0++N∧∀ g∈N,0≤g∧g<b.1∧ix s.2 g=ix D0 f+1
 Hw:∀ p∈Hw,p.1≠wo→0≤ix s.2 (fin b p)
theorem MM.step {b:p4} (pZ:qm b) {wo f:Int} {Q0 D0:List Int} (aQ:0≤f∧f<b.1) (aZ:0≤ix D0 f) {Hw:List (Int×Int)} {s:List Int×List Int} (h:MM b wo f Q0 D0 Hw s) {p:Int×Int} (aC:p∈places b f):MM b wo f Q0 D0 (Hw++[p]) (QX b wo f s p):=by
 obtain ⟨Q,D⟩:=s;obtain ⟨ad,af,aG,a6,⟨N,bL,bV⟩,cN⟩:=h;simp only at ad af aG a6 bL bV cN;have Cp:=LZ pZ aC;have Od:=pZ.f6;obtain ⟨a,cd⟩:∃ a:Nat,fin b p=(a:Int):=⟨(fin b p).toNat,by omega⟩;obtain ⟨c,ao⟩:∃ c:Nat,f=(c:Int):=⟨f.toNat,by omega⟩;have W8:ix D f=ix D0 f:=by rw [ao];exact aG c (by omega) (by rw [←ao];exact aZ)
 unfold QX;by_cases al:p.1≠wo∧ix D (fin b p)<0
 ·rw [if_pos al,cd,tB,W8];have Ta:ix D (a:Int)<0:=by rw [←cd];exact al.2
  have Oe:ix D0 (a:Int)<0:=by
   refine Classical.byContradiction fun bI=>?_;have:=aG a (by omega) (by omega);omega
  have aea:D[a]'(by omega)<0:=by rw [re (by omega)] at Ta;exact Ta
  have nv:ix (D.set a (ix D0 f+1)) (a:Int)=ix D0 f+1:=Mc (by omega);refine ⟨by simpa using ad,?_,fun g aO yF=>?_,fun g aO yF=>?_,⟨N++[(a:Int)],by simp [bL],fun g aO=>?_⟩,fun q a3 Qg=>?_⟩
  ·have:=Si D a (ix D0 f+1) (by omega) aea (by omega);simp only [su,List.length_singleton];omega
  ·(have bM:g≠a:=fun e=>by subst e;omega);simp only;rw [KK bM];exact aG g aO yF
  ·by_cases Oo:g=a
   ·subst Oo;exact .inr ⟨nv,⟨p,aC,al.1,cd⟩,by simp⟩
   ·simp only;rw [KK Oo];rcases a6 g aO yF with e | ⟨e,ck,dF⟩
    ·exact .inl e
    ·exact .inr ⟨e,ck,by simp [dF]⟩
  ·rcases sS.1 aO with aO | aO
   ·obtain ⟨aJ,aP,cj⟩:=bV g aO;obtain ⟨F8,rfl⟩:∃ F8:Nat,g=(F8:Int):=⟨g.toNat,by omega⟩;refine ⟨aJ,aP,?_⟩;by_cases Oo:F8=a
    ·subst Oo;exact nv
    ·simp only;rw [KK Oo];exact cj
   ·simp only [sN] at aO;subst aO;exact ⟨by omega,by omega,nv⟩
  ·have key:0≤ix D (fin b q)∨fin b q=(a:Int):=by
    rcases sS.1 a3 with a3 | a3
    ·exact .inl (cN q a3 Qg)
    ·simp only [sN] at a3;subst a3;exact .inr cd
   rcases key with key | key
   ·rcases Classical.em (fin b q=(a:Int)) with e | e
    ·simp only;rw [e,nv];omega
    ·have:ix (D.set a (ix D0 f+1)) (fin b q)=ix D (fin b q):=by
      unfold ix;rcases uJ (fin b q) 0 with aN | aN
      ·(have fR:(fin b q).toNat=0:=by omega);rw [fR];rw [sG];by_cases Xb:a=0
       ·subst Xb;exfalso;have k:=key;unfold ix at k;rw [fR,sG] at k;rw [re (by omega)] at Ta;rw [sq (by omega)] at k;simp at k;omega
       ·rw [sg Xb];rfl
      ·rw [sG,sg (by omega)];rfl
     simp only;rw [this];exact key
   ·simp only;rw [key,nv];omega
 ·rw [if_neg al];refine ⟨ad,af,aG,a6,⟨N,bL,bV⟩,fun q a3 Qg=>?_⟩;rcases sS.1 a3 with a3 | a3
  ·exact cN q a3 Qg
  ·simp only [sN] at a3;subst a3
   have:¬ ix D (fin b q)<0:=fun e=>al ⟨Qg,e⟩
   simp only;omega
theorem WU {b:p4} (pZ:qm b) {wo f:Int} {Q0 D0:List Int} (aQ:0≤f∧f<b.1) (aZ:0≤ix D0 f) (aey:ix D0 f≤50) {Qh:List Int} (a3:ix Qh (0:Int)=f) (eo:Q0.length+Jg D0≤100):∀ (l Hw:List (Int×Int)) (s:List Int×List Int),(∀ p∈l,p∈places b f)→MM b wo f Q0 D0 Hw s →
  ∃ aF,II (ME b wo Qh) l s=some aF∧MM b wo f Q0 D0 (Hw++l) aF
 | [],Hw,s,_,h=>⟨s,rfl,by simpa using h⟩
 | p::l,Hw,s,ak,h=>by
   have aC:=ak p (by simp);have Od:=pZ.f6;obtain ⟨c,ao⟩:∃ c:Nat,f=(c:Int):=⟨f.toNat,by omega⟩;(have W8:ix s.2 f=ix D0 f:=by rw [ao];exact h.fJ c (by omega) (by rw [←ao];exact aZ));obtain ⟨aF,e1,ck⟩:=WU pZ aQ aZ aey a3 eo l (Hw++[p]) _ (fun q a3=>ak q (by simp [a3])) (h.step pZ aQ aZ aC);have hW:=h.Ws;refine ⟨aF,?_,by simpa using ck⟩;rw [II,alb pZ ⟨a3,aQ⟩ aC h.len (by omega) (by omega),sb];exact e1
structure J7 (b:p4) (wo to:Int) (Q D:List Int):Prop where
 len:D.length=6
 q:∀ f∈Q,0≤f∧f<b.1∧0≤ix D f
 room:Q.length+Jg D≤6
 small:∀ g:Nat,g<6→0≤ix D (g:Int)→ix D (g:Int)+Jg D≤5
 walk:∀ g:Nat,g<6→0≤ix D (g:Int)→GY b wo (ix D (g:Int)).toNat to (g:Int)
 sort:Q.Pairwise fun x y=>ix D x≤ix D y
 top:∀ f r,Q=f::r→∀ g:Nat,g<6→ix D (g:Int)≤ix D f+1
 proc:∀ g:Nat,g<6→0≤ix D (g:Int)→(g:Int) ∉ Q→∀ h,G4 b wo (g:Int) h→0≤ix D h∧ix D h≤ix D (g:Int)+1
 zero:0≤to∧to<6∧ix D to=0
theorem G4.in {b:p4} (pZ:qm b) {wo f g:Int} (h:G4 b wo f g):0≤g∧g<b.1:=by
 obtain ⟨p,ad,_,rfl⟩:=h;exact LZ pZ ad
theorem J7.next {b:p4} (pZ:qm b) {wo to f:Int} {r D:List Int} (h:J7 b wo to (f::r) D) {s:List Int×List Int} (ai:MM b wo f r D (places b f) s):J7 b wo to s.1 s.2:=by
 obtain ⟨cG,Kv⟩:=s;obtain ⟨aJ,aP,cj,jM,⟨N,Dh,Md⟩,XD⟩:=ai;simp only at aJ aP cj jM Dh Md XD;subst Dh;have Od:=pZ.f6;have Xg:=h.q f (by simp);obtain ⟨c,ao⟩:∃ c:Nat,f=(c:Int):=⟨f.toNat,by omega⟩;have yN:∀ g:Int,0≤g→g<6→∃ n:Nat,g=(n:Int)∧n<6:=fun g ad af=>⟨g.toNat,by omega,by omega⟩;have hold:∀ g:Int,0≤g→g<6→0≤ix D g→ix Kv g=ix D g:=fun g ad af aG=>by
  obtain ⟨n,rfl,aN⟩:=yN g ad af;exact cj n aN aG
 have hle:∀ g:Nat,g<6→ix Kv (g:Int)≤ix D f+1:=fun g aO=>by
  rcases uJ (ix D (g:Int)) 0 with aS | aS
  ·rcases jM g aO aS with e | e
   ·omega
   ·omega
  ·rw [cj g aO aS];exact h.top f r rfl g aO
 have aj:∀ x∈r,0≤x∧x<b.1∧0≤ix D x∧ix Kv x=ix D x:=fun x al=>by
  have:=h.q x (by simp [al]);exact ⟨this.1,this.2.1,this.2.2,hold x this.1 (by omega) this.2.2⟩
 have C':=List.pairwise_cons.1 h.sort;have eo:=h.room;simp only [sI] at eo;refine ⟨aJ,fun g aO=>?_,by simp only;omega,fun g aO aS=>?_,fun g aO aS=>?_,?_,fun N3 r' he g aO=>?_,fun g aO aS S1 aX he=>?_,⟨h.zero.1,h.zero.2.1,by simp only;rw [hold to h.zero.1 h.zero.2.1 (by have:=h.zero.2.2;omega)];exact h.zero.2.2⟩⟩
 ·rcases sS.1 aO with aO | aO
  ·have:=aj g aO;exact ⟨this.1,this.2.1,by simp only;omega⟩
  ·have:=Md g aO;exact ⟨this.1,this.2.1,by simp only;omega⟩
 ·have Cs:=h.small c (by omega) (by rw [←ao];omega);rw [←ao] at Cs;simp only [su] at aP;rcases uJ (ix D (g:Int)) 0 with ad | ad
  ·rcases jM g aO ad with e | e
   ·simp only at aS;omega
   ·have B9:1≤N.length:=by
     rcases sS.1 e.2.2 with dF | dF
     ·have:=(aj _ dF).2.2.1;omega
     ·exact vJ dF
    simp only;omega
  ·have:=h.small g aO ad;simp only;rw [cj g aO ad];omega
 ·rcases uJ (ix D (g:Int)) 0 with ad | ad
  ·rcases jM g aO ad with e | ⟨e,ck,_⟩
   ·simp only at aS;omega
   ·simp only;rw [e,show (ix D f+1).toNat=(ix D f).toNat+1 by omega];exact ⟨f,by have:=h.walk c (by omega) (by rw [←ao];omega);rw [ao];rw [←ao] at this ⊢;exact this,ck⟩
  ·simp only;rw [cj g aO ad];exact h.walk g aO ad
 ·simp only;rw [List.pairwise_append];refine ⟨C'.2.imp_of_mem fun {x y} al a0 Ix=>by rw [(aj x al).2.2.2,(aj y a0).2.2.2];exact Ix,?_,fun x al y a0=>?_⟩
  ·exact List.Pairwise.imp_of_mem (R:=fun _ _=>True) (fun {x y} al a0 _=>by rw [(Md x al).2.2,(Md y a0).2.2];omega) (List.pairwise_of_forall fun _ _=>trivial)
  ·obtain ⟨n,rfl,aN⟩:=yN x (aj x al).1 (by have:=(aj x al).2.1;omega);rw [(Md y a0).2.2];exact hle n aN
 ·simp only at he ⊢;have P':ix D f≤ix Kv N3:=by
   (have hm:N3∈r++N:=by rw [he];simp);rcases sS.1 hm with hm | hm
   ·rw [(aj N3 hm).2.2.2];exact C'.1 N3 hm
   ·rw [(Md N3 hm).2.2];omega
  have:=hle g aO;omega
 ·simp only at aS S1 ⊢;have bI:=G4.in pZ he;rcases Classical.em ((g:Int)=f) with e | e
  ·rw [e] at he ⊢;obtain ⟨n,rfl,aN⟩:=yN aX bI.1 (by omega);rw [hold f Xg.1 (by omega) Xg.2.2];obtain ⟨p,bR,b4,eD⟩:=he;exact ⟨by rw [←eD];exact XD p bR b4,hle n aN⟩
  ·rcases uJ (ix D (g:Int)) 0 with ad | ad
   ·rcases jM g aO ad with ck | ⟨_,_,dF⟩
    ·omega
    ·exact absurd dF S1
   ·have:=h.proc g aO ad (fun hm=>by
     rcases sk.1 hm with ck | ck
     ·exact e ck
     ·exact S1 (List.mem_append_left _ ck)) aX he
    rw [cj g aO ad,hold aX bI.1 (by omega) this.1];exact this
theorem aaJ {b:p4} (pZ:qm b) {wo to:Int} {k:List Int→Option (List Int)}:∀ (m:Nat) (Q D:List Int),J7 b wo to Q D→Q.length+Jg D<m→∃ Kv,J7 b wo to [] Kv∧MD b wo k m D Q=k Kv
 | 0,_,_,_,h=>absurd h (by omega)
 | m+1,Q,D,cm,hm=>by
   rw [MD];have Od:=pZ.f6;have ak:=pZ.len;cases Q with
   | nil=>rw [if_neg (by simp)];exact ⟨D,cm,rfl⟩
   | cons f r =>
     have aQ:=cm.q f (by simp);obtain ⟨c,ao⟩:∃ c:Nat,f=(c:Int):=⟨f.toNat,by omega⟩;have afc:=cm.small c (by omega) (by rw [←ao];omega);rw [←ao] at afc;have eo:=cm.room;simp only [sI] at eo hm;obtain ⟨aF,e1,ck⟩:=WU pZ ⟨aQ.1,aQ.2.1⟩ aQ.2.2 (by omega) (Qh:=f::r) rfl (by omega) (Q0:=r) (D0:=D) (wo:=wo) (places b f) [] (r,D) (fun p h=>h) ⟨cm.len,rfl,fun _ _ _=>rfl,fun _ _ _=>.inl rfl,⟨[],by simp,by simp⟩,by simp⟩;rw [uh] at ck;have hW:=ck.Ws;obtain ⟨Kv,d1,d2⟩:=aaJ pZ m aF.1 aF.2 (J7.next pZ cm ck) (by omega);refine ⟨Kv,d1,?_⟩;rw [if_pos (decide_eq_true (by simp)),qc (by simp),qc ⟨by omega,by simp only [sI];omega⟩,show ix (f::r) (0:Int)=f from rfl,NJ,sb,JD,if_pos (by omega),sb];show ((II (ME b wo (f::r)) (places b f) (r,D)).bind _)=_;rw [e1,sb];exact d2
structure Kw (b:p4) (wo to:Int) (D:List Int):Prop where
 len:D.length=6
 walk:∀ g:Nat,g<6→0≤ix D (g:Int)→GY b wo (ix D (g:Int)).toNat to (g:Int)
 least:∀ (n:Nat) (g:Int),GY b wo n to g→0≤g∧g<6∧0≤ix D g∧ix D g≤n
 small:∀ g:Nat,g<6→ix D (g:Int)≤5
theorem J7.adR {b:p4} (pZ:qm b) {wo to:Int} {D:List Int} (h:J7 b wo to [] D):Kw b wo to D:=by
 have Od:=pZ.f6;refine ⟨h.len,h.walk,fun n=>?_,fun g aO=>?_⟩
 ·induction n with
  | zero =>
    intro g aO;have aO:to=g:=aO;subst aO;have:=h.zero;exact ⟨this.1,this.2.1,by omega,by omega⟩
  | succ n a_ =>
    rintro g ⟨f,ad,af⟩;obtain ⟨i1,i2,i3,i4⟩:=a_ f ad;obtain ⟨c,rfl⟩:∃ c:Nat,f=(c:Int):=⟨f.toNat,by omega⟩;have aC:=h.proc c (by omega) i3 (by simp) g af;have hi:=G4.in pZ af;exact ⟨hi.1,by omega,aC.1,by omega⟩
 ·rcases uJ (ix D (g:Int)) 0 with ad | ad
  ·omega
  ·have:=h.small g aO ad;omega
theorem aaI {k:List Int→Option (List Int)}:∀ (m i:Nat) (z:Int) (D:List Int),z=i→i≤6→6-i<m→D.length=6→(∀ j:Nat,j<i→ix D (j:Int)=-1)→MC k m z D=k (List.replicate 6 (-1))
 | 0,i,_,_,_,_,h,_,_=>absurd h (by omega)
 | m+1,i,_,D,rfl,hi,hm,ak,qt=>by
   rw [MC];by_cases h:i<6
   ·rw [if_pos (decide_eq_true (by omega)),qc ⟨by omega,by omega,ak.symm⟩,rz i (by omega),tB];refine aaI m (i+1) _ _ rfl (by omega) (by omega) (by simpa using ak) fun j aw=>?_;by_cases gY:j=i
    ·subst gY;exact Mc (by omega)
    ·rw [KK gY];exact qt j (by omega)
   ·rw [if_neg (by simp;omega)];congr 1;refine List.ext_getElem (by simp [ak]) fun j ad af=>?_;have:=qt j (by omega);rw [re ad] at this;rw [this,wq]
theorem U6 {b:p4} (pZ:qm b) {wo to:Int} (ax:0≤to∧to<b.1):∃ D,NG b to wo=some D∧Kw b wo to D:=by
 have Od:=pZ.f6;obtain ⟨c,ao⟩:∃ c:Nat,to=(c:Int):=⟨to.toNat,by omega⟩;subst ao;have nv:ix ((List.replicate 6 (-1:Int)).set c 0) (c:Int)=0:=Mc (by simp;omega);have Qe:∀ g:Nat,g<6→g≠c→ix ((List.replicate 6 (-1:Int)).set c 0) (g:Int)=-1:=fun g aO bM=>by
  rw [KK bM,re (by rw [List.length_replicate];omega),wq]
 have SS:Jg ((List.replicate 6 (-1:Int)).set c 0)=5:=by
  have:=Si (List.replicate 6 (-1:Int)) c 0 (by rw [List.length_replicate];omega) (by rw [wq];omega) (by omega);have e:Jg (List.replicate 6 (-1:Int))=6:=by decide
  omega
 have cm:J7 b wo (c:Int) [(c:Int)] ((List.replicate 6 (-1:Int)).set c 0):=by
  refine ⟨by simp,fun f aQ=>?_,by rw [SS];simp,fun g aO aS=>?_,fun g aO aS=>?_,by simp,fun f r he g aO=>?_,fun g aO aS aN h he=>?_,⟨by omega,by omega,nv⟩⟩
  ·simp only [sN] at aQ;subst aQ;exact ⟨ax.1,ax.2,by rw [nv];omega⟩
  ·by_cases e:g=c
   ·subst e;rw [nv,SS];omega
   ·rw [Qe g aO e] at aS;omega
  ·by_cases e:g=c
   ·subst e;rw [nv];exact rfl
   ·rw [Qe g aO e] at aS;omega
  ·simp only [List.cons.injEq] at he;obtain ⟨rfl,_⟩:=he;rw [nv];by_cases e:g=c
   ·subst e;rw [nv];omega
   ·rw [Qe g aO e];omega
  ·by_cases e:g=c
   ·subst e;simp at aN
   ·rw [Qe g aO e] at aS;omega
 obtain ⟨D,d1,d2⟩:=aaJ pZ (k:=fun oi =>
         p8 (oi.length=6) <|
         p8 (oi.length=6∧(List.replicate 6 (0:Int)).length=6) <|
         p8 (oi.length=6) <|
         some oi) p_ _ _ cm (rn (by rw [SS];simp))
 refine ⟨D,?_,J7.adR pZ d1⟩;rw [NG,aaI p_ 0 0 _ rfl (by omega) (rn (by omega)) (by simp) (fun j aw=>absurd aw (by omega)),qc ⟨by omega,by omega,by simp⟩,tB,d2];have:=d1.len;rw [qc this,qc ⟨this,by simp⟩,qc this]
end Go.Proofs.YtfakoboiahbhaaaGreat.Ab


namespace Go.Proofs.YtfakoboiahbhaaaGreat.Ab
open Go
set_option maxRecDepth 20000
set_option maxHeartbeats 4000000
noncomputable def Rt:ez :=
 .An (.sl 50) [51] (Gw Tryz.prog 45 0) (Gx Tryz.prog 45 0)
noncomputable def Ru:ez :=
 .loop (some (Ez false [2,1,1,1,3,1,1,2,60])) (.seq (Gz [gM 45 [.sl 4] (.pT .one),Gn 46 2,F1 47 45 46 .neq] (.cond (.sl 47) .skip (.exit 1))) (.block 2 (Gz [gM 48 [.sl 8] (.pT .one),gM 49 [.sl 4] (.pT .one),gM 50 [.iA (.func 89 [] []),.sl 48,.sl 49] (.call 3)] (.block 3 Rt))))
noncomputable def abi:ez :=
 Gz [gM 3 [.hG 0] .box,gM 4 [.hG 1] .box,gM 6 [.iA (.ay [] 0 .full)] (.nil 2),Gm 7 0] (Gz [gM 16 [.sl 3] (.pT (.str 2)),gM 17 [.iA (.func 64 [] []),.sl 16] (.call 3),Gp 15 17,GJ 18 15 0,gM 19 [.hJ 15] (.ext 1),gM 8 [] (.alloc [.eC]),⟨none,[.sl 8,.hG 18],none,none,.st 1⟩,Gp 9 19] (.seq (.block 0 (Gz [Gn 21 9,F0 22 21 0 .neq,Gp 20 22] (.cond (.sl 20) (Gz [Gp 23 9,gM 6 [.iA (.ay [] 0 .full)] (.nil 2),Gp 7 23] .ret) (Gz [F6 25 3 0,Gl 26 25,F0 27 26 1 .sub,gM 28 [.sl 4] (.pT .one),Gn 29 2,gM 30 [.hJ 28,.hJ 29] (.x' 2 1 [.int .i64 0] [0,1]),gM 31 [.iA (.func 66 [] []),.iA (.int .i64 0),.sl 27,.sl 30] (.call 3),gM 32 [.hJ 31] (.un .not),Gp 33 32,cP 34 [.sl 4] 33 false (.pT .one),cP 35 [.sl 2] 33 false .iQ,cP 36 [.hJ 34,.hJ 35] 33 false (.bin .eql),gM 37 [.hJ 33,.iA (.bool true),.hJ 36] .pick,Gp 24 37] (.cond (.sl 24) (Gz [gM 6 [.iA (.ay [] 0 .full)] (.nil 2),Gm 7 2] .ret) .skip))))) (Gz [gM 38 [.sl 8] (.pT .one),Gn 39 2,gM 40 [.iA (.func 81 [] []),.sl 38,.sl 39,.iA (.int .i64 (-1))] (.call 3),gM 10 [] (.alloc [.int .i64 0,.int .i64 0,.int .i64 0,.int .i64 0,.int .i64 0,.int .i64 0]),⟨none,[.sl 10,.hG 40],none,none,.st 6⟩] (.seq (Gz [gM 41 [.sl 4] (.pT .one),gM 42 [.sl 10,.hJ 41] (.y3 6 1),Gl 43 42,F0 44 43 0 .lss] (.cond (.sl 44) (Gz [gM 6 [.iA (.ay [] 0 .full)] (.nil 2),Gm 7 5] .ret) .skip)) (Gz [gM 11 [] (.alloc [.ay [] 0 (.own 2)])] (.seq (.block 1 Ru) (Gz [Gl 71 11,Gp 6 71,Gm 7 0] .ret)))))))
noncomputable def Vb:ez :=
 .j0 false [gM 12 [] (.alloc [.int .i64 0,.int .i64 0]),⟨none,[.sl 12,.hG 51],none,none,.st 2⟩]
theorem XO:dT Tryz.prog Jc (Gw Tryz.prog 45 0) 0=some Vb:=by kernel_rfl
noncomputable def Vc:ez :=
 .block 4 (Gz [Gl 53 8,gM 54 [.sl 12] (.pT (.str 2)),gM 55 [.iA (.func 68 [] []),.sl 53,.sl 54] (.call 3),Gp 52 55,GJ 56 52 0,gM 57 [.hJ 52] (.ext 1),Gp 13 56,Gp 14 57] (.seq (Gt [Gn 58 14,gM 59 [.sl 10,.hJ 58] (.y3 6 1),Gl 60 59,gM 61 [.sl 4] (.pT .one),gM 62 [.sl 10,.hJ 61] (.y3 6 1),Gl 63 62,F0 64 63 1 .sub,F1 65 60 64 .eql]) (.cond (.sl 65) (Gz [gM 66 [.sl 11] .take,gM 67 [.hJ 12] (.pT (.str 2)),gM 68 [.hJ 67] (.x' 1 2 [.int .i64 0,.int .i64 0] [0]),gM 69 [.hG 66,.hG 68] (.app 2 16),Gp 70 14,⟨none,[.hG 11,.hG 69],none,none,.st 1⟩,⟨none,[.hG 4,.hG 70],none,none,.st 1⟩] (.exit 3)) .skip)))
theorem XP:dT Tryz.prog Jc (Gx Tryz.prog 45 0) 0=some Vc:=by kernel_rfl
theorem agc:zf Tryz.prog Jc 45=some (abi,72,[.tmp 6,.tmp 7]):=by kernel_rfl
def Mt (bR:qa) (r4:p5) (UK:Int×qb) (e1:(Int×Int)):Option (qa×Bool) :=
 match UK with
 | (t1,t2) =>
   (K3 bR e1).bind fun qs =>
   p8 (0≤qs.2∧qs.2<(6:Int)∧6=r4.length) <|
   p8 (0≤t1∧t1<(6:Int)∧6=r4.length) <|
   if (decide ((ix r4 qs.2)=(w ((ix r4 t1)-(1:Int)))))=true then
    p8 ((t2.length+1)*16≤140737488355328) <|
    some ((qs.2,(t2++[e1])),true)
   else
    some ((t1,t2),false)
def K2 (to:Int) (bR:qa) (r4:p5) (p9:qb→Option (qb×Int)):Nat→Int→qb→Option (qb×Int)
 | 0,_,_=>none
 | m+1,s1,s2 =>
   if (decide (s1≠to))=true then
    (NJ bR s1).bind fun qC =>
    (JD bR s1).bind fun dK =>
    (L1 (Mt bR r4) dK (s1,s2)).bind fun qK =>
    if qK.2=true then
     K2 to bR r4 p9 m qK.1.1 qK.1.2
    else
     K2 to bR r4 p9 m qK.1.1 qK.1.2
   else
    p9 s2
def LL (b:qa) (IW to:Int):Option (qb×Int) :=
 (I_ b).bind fun r1 =>
 match r1 with
 | (none,q1) =>
   if (decide (q1≠(0:Int)))=true then
    some ([],q1)
   else
    (Kt (0:Int) (w (b.1-(1:Int))) [IW,to]).bind fun r2 =>
    if r2=true then
     if (decide (IW=to))=true then
      some ([],(2:Int))
     else
      none
    else
     some ([],(2:Int))
 | (some bR,q1) =>
   if (decide (q1≠(0:Int)))=true then
    some ([],q1)
   else
    (Kt (0:Int) (w (b.1-(1:Int))) [IW,to]).bind fun r3 =>
    if r3=true then
     if (decide (IW=to))=true then
      some ([],(2:Int))
     else
      (NG bR to (-1:Int)).bind fun r4 =>
      p8 (r4.length=6∧(List.replicate 6 (0:Int)).length=6) <|
      p8 (0≤IW∧IW<(6:Int)∧6=r4.length) <|
      if (decide ((ix r4 IW)<(0:Int)))=true then
       some ([],(5:Int))
      else
       K2 to bR r4 (fun xZ =>
         some (xZ,(0:Int))) p_ IW ([]:List (Int×Int))
    else
     some ([],(2:Int))
theorem aal {bR:qa} {r4:p5} {t1:Int} {t2:qb} {e1:(Int×Int)} {xT:I} {fr:I} {gg:I} {FG:I} {KT:I} {H8:I} {KY:I} {Jt:I} {HB:I} {HC:I} {HD:I} {HE:I} {u16:I} {HF:I} {HG:I} {HH:I} {Hj:I} {Hk:I} {Hl:I} {G3:I} {HI:I} {HJ:I} {Hs:I} {HK:I} {HL:I} {Ht:I} {HM:I} {HN:I} {u32:I} {HO:I} {G':I} {Ha:I} {Hb:I} {Hc:I} {GU:I} {GV:I} {GX:I} {Hd:I} {HP:I} {HQ:I} {HR:I} {HS:I} {HT:I} {HU:I} {HV:I} {HW:I} {HX:I} {HY:I} {HZ:I} {H0:I} {H2:I} {H3:I} {H4:I} {H5:I} {H6:I} {H7:I} {H9:I} {H_:I} {Ia:I} {KU:I} {u64:I} {JG:I} {KV:I} {JH:I} {KW:I} {KX:I} {KZ:I} {K0:I} {bA:au} {GQ:List au} {J1:Int×qb} (h:Mt bR r4 (t1,t2) e1=some (J1,false)) (Y:List au) :
  ∃ qq,Sem Tryz.prog (.yield ((bA::au.cells [(hP t1)]::au.cells [(.bU [(hP bR.1),(p3 bR.2 .shared)])]::au.cells (r4.map hP)::au.cells [(p3 t2 (.own 2))]::GQ)).length) [(.agg [(hP e1.1),(hP e1.2)])] (((bA::au.cells [(hP t1)]::au.cells [(.bU [(hP bR.1),(p3 bR.2 .shared)])]::au.cells (r4.map hP)::au.cells [(p3 t2 (.own 2))]::GQ)++[au.loop .ready none 45 [xT,fr,gg,FG,(.ptr 1 0),KT,H8,KY,(.ptr 2 0),Jt,(.ptr 3 0),(.ptr 4 0),HB,HC,HD,HE,u16,HF,HG,HH,Hj,Hk,Hl,G3,HI,HJ,Hs,HK,HL,Ht,HM,HN,u32,HO,G',Ha,Hb,Hc,GU,GV,GX,Hd,HP,HQ,HR,HS,HT,HU,HV,HW,HX,HY,HZ,H0,H2,H3,H4,H5,H6,H7,H9,H_,Ia,KU,u64,JG,KV,JH,KW,KX,KZ,K0] [51] (Gw Tryz.prog 45 0) (Gx Tryz.prog 45 0) Jc])++Y) 0 (.bool true) (((bA::au.cells [(hP J1.1)]::au.cells [(.bU [(hP bR.1),(p3 bR.2 .shared)])]::au.cells (r4.map hP)::au.cells [(p3 J1.2 (.own 2))]::GQ)++[au.loop .ready none 45 [xT,fr,gg,FG,(.ptr 1 0),KT,H8,KY,(.ptr 2 0),Jt,(.ptr 3 0),(.ptr 4 0),HB,HC,HD,HE,u16,HF,HG,HH,Hj,Hk,Hl,G3,HI,HJ,Hs,HK,HL,Ht,HM,HN,u32,HO,G',Ha,Hb,Hc,GU,GV,GX,Hd,HP,HQ,HR,HS,HT,HU,HV,HW,HX,HY,HZ,H0,H2,H3,H4,H5,H6,H7,H9,H_,Ia,KU,u64,JG,KV,JH,KW,KX,KZ,K0] [51] (Gw Tryz.prog 45 0) (Gx Tryz.prog 45 0) Jc])++qq):=by
 unfold Mt at h;refine ⟨Y++[.dead],GF dI XO XP (Lh _ _ _) rfl (Lo (by simp)) ?_⟩;unfold Vb;conv=>whnf
 refine DW (x:=au.cells [(hP (0:Int)),(hP (0:Int))]) (by first | exact qi.h | rfl | (simp [sc,I.settle];done)) ?_
 conv=>whnf
 rw [rk];refine ⟨rfl,JB _ _ _ _,?_⟩;rw [J0];unfold Vc;conv=>whnf
 refine DW (x:=au.cells [(hP e1.1),(hP e1.2)]) (by first | exact qi.h | rfl | (simp [sc,I.settle];done)) ?_
 conv=>whnf
 obtain ⟨qs,rW,h⟩:=qd h;refine ⟨qj.pl,_,Jv rW,?_⟩;conv=>whnf
 obtain ⟨rH,h⟩:=qn h;refine ⟨⟨rH.1,rH.2.1⟩,?_⟩;replace rH:0≤qs.2∧qs.2<(r4.length:Int):=⟨rH.1,by have:=rH.2;omega⟩;conv=>whnf
 refine IL hP r4 qs.2 rH ?_;conv=>whnf
 obtain ⟨q9,h⟩:=qn h;refine ⟨⟨q9.1,q9.2.1⟩,?_⟩;replace q9:0≤t1∧t1<(r4.length:Int):=⟨q9.1,by have:=q9.2;omega⟩;conv=>whnf
 refine IL hP r4 t1 q9 ?_;conv=>whnf
 refine bs h (fun GM h=>?_) fun GM h=>?_
 ·rw [GM];conv=>whnf
  refine DW (x:=au.cells [(hP e1.1),(hP e1.2)]) (by first | exact qi.h | rfl | (simp [sc,I.settle];done)) ?_
  conv=>whnf
  obtain ⟨ru,h⟩:=qn h;refine ⟨by first | rfl | (simp;done) | exact Iv p1 _ qw _,by have:=ru;omega,rfl,ru,?_⟩
  erw [Jd p1 t2 e1];conv=>whnf
  exact absurd (congrArg (fun q=>q.2) (Option.some.inj h)) (by simp)
 ·rw [GM];conv=>whnf
  obtain rfl:=congrArg (fun q=>q.1) (Option.some.inj h);show _∧((((bA::au.cells [(hP t1)]::au.cells [(.bU [(hP bR.1),(p3 bR.2 .shared)])]::au.cells (r4.map hP)::au.cells [(p3 t2 (.own 2))]::GQ)++[au.loop .busy none 45 [xT,fr,gg,FG,(I.ptr 1 0),KT,H8,KY,(I.ptr 2 0),Jt,(I.ptr 3 0),(I.ptr 4 0),HB,HC,HD,HE,u16,HF,HG,HH,Hj,Hk,Hl,G3,HI,HJ,Hs,HK,HL,Ht,HM,HN,u32,HO,G',Ha,Hb,Hc,GU,GV,GX,Hd,HP,HQ,HR,HS,HT,HU,HV,HW,HX,HY,HZ,H0,H2,H3,H4,H5,H6,H7,H9,H_,Ia,KU,u64,JG,KV,JH,KW,KX,KZ,K0] [51] (Gw Tryz.prog 45 0) (Gx Tryz.prog 45 0) Jc])++Y)++[_])[((bA::au.cells [(hP t1)]::au.cells [(.bU [(hP bR.1),(p3 bR.2 .shared)])]::au.cells (r4.map hP)::au.cells [(p3 t2 (.own 2))]::GQ)).length]?=_∧jg (((((bA::au.cells [(hP t1)]::au.cells [(.bU [(hP bR.1),(p3 bR.2 .shared)])]::au.cells (r4.map hP)::au.cells [(p3 t2 (.own 2))]::GQ)++[au.loop .busy none 45 [xT,fr,gg,FG,(I.ptr 1 0),KT,H8,KY,(I.ptr 2 0),Jt,(I.ptr 3 0),(I.ptr 4 0),HB,HC,HD,HE,u16,HF,HG,HH,Hj,Hk,Hl,G3,HI,HJ,Hs,HK,HL,Ht,HM,HN,u32,HO,G',Ha,Hb,Hc,GU,GV,GX,Hd,HP,HQ,HR,HS,HT,HU,HV,HW,HX,HY,HZ,H0,H2,H3,H4,H5,H6,H7,H9,H_,Ia,KU,u64,JG,KV,JH,KW,KX,KZ,K0] [51] (Gw Tryz.prog 45 0) (Gx Tryz.prog 45 0) Jc])++Y)++[_]).set ((bA::au.cells [(hP t1)]::au.cells [(.bU [(hP bR.1),(p3 bR.2 .shared)])]::au.cells (r4.map hP)::au.cells [(p3 t2 (.own 2))]::GQ)).length _) _;exact ⟨rfl,JB _ _ _ _,by rw [J0];exact MT _ _ _ _⟩
theorem akN {bR:qa} {r4:p5} {t1:Int} {t2:qb} {e1:(Int×Int)} {xT:I} {fr:I} {gg:I} {FG:I} {KT:I} {H8:I} {KY:I} {Jt:I} {HB:I} {HC:I} {HD:I} {HE:I} {u16:I} {HF:I} {HG:I} {HH:I} {Hj:I} {Hk:I} {Hl:I} {G3:I} {HI:I} {HJ:I} {Hs:I} {HK:I} {HL:I} {Ht:I} {HM:I} {HN:I} {u32:I} {HO:I} {G':I} {Ha:I} {Hb:I} {Hc:I} {GU:I} {GV:I} {GX:I} {Hd:I} {HP:I} {HQ:I} {HR:I} {HS:I} {HT:I} {HU:I} {HV:I} {HW:I} {HX:I} {HY:I} {HZ:I} {H0:I} {H2:I} {H3:I} {H4:I} {H5:I} {H6:I} {H7:I} {H9:I} {H_:I} {Ia:I} {KU:I} {u64:I} {JG:I} {KV:I} {JH:I} {KW:I} {KX:I} {KZ:I} {K0:I} {bA:au} {GQ:List au} {J1:Int×qb} (h:Mt bR r4 (t1,t2) e1=some (J1,true)) (Y:List au) :
  ∃ qq,Sem Tryz.prog (.yield ((bA::au.cells [(hP t1)]::au.cells [(.bU [(hP bR.1),(p3 bR.2 .shared)])]::au.cells (r4.map hP)::au.cells [(p3 t2 (.own 2))]::GQ)).length) [(.agg [(hP e1.1),(hP e1.2)])] (((bA::au.cells [(hP t1)]::au.cells [(.bU [(hP bR.1),(p3 bR.2 .shared)])]::au.cells (r4.map hP)::au.cells [(p3 t2 (.own 2))]::GQ)++[au.loop .ready none 45 [xT,fr,gg,FG,(.ptr 1 0),KT,H8,KY,(.ptr 2 0),Jt,(.ptr 3 0),(.ptr 4 0),HB,HC,HD,HE,u16,HF,HG,HH,Hj,Hk,Hl,G3,HI,HJ,Hs,HK,HL,Ht,HM,HN,u32,HO,G',Ha,Hb,Hc,GU,GV,GX,Hd,HP,HQ,HR,HS,HT,HU,HV,HW,HX,HY,HZ,H0,H2,H3,H4,H5,H6,H7,H9,H_,Ia,KU,u64,JG,KV,JH,KW,KX,KZ,K0] [51] (Gw Tryz.prog 45 0) (Gx Tryz.prog 45 0) Jc])++Y) 0 (.bool false) (((bA::au.cells [(hP J1.1)]::au.cells [(.bU [(hP bR.1),(p3 bR.2 .shared)])]::au.cells (r4.map hP)::au.cells [(p3 J1.2 (.own 2))]::GQ)++[au.loop .done (some (.exit 3)) 45 [xT,fr,gg,FG,(.ptr 1 0),KT,H8,KY,(.ptr 2 0),Jt,(.ptr 3 0),(.ptr 4 0),HB,HC,HD,HE,u16,HF,HG,HH,Hj,Hk,Hl,G3,HI,HJ,Hs,HK,HL,Ht,HM,HN,u32,HO,G',Ha,Hb,Hc,GU,GV,GX,Hd,HP,HQ,HR,HS,HT,HU,HV,HW,HX,HY,HZ,H0,H2,H3,H4,H5,H6,H7,H9,H_,Ia,KU,u64,JG,KV,JH,KW,KX,KZ,K0] [51] (Gw Tryz.prog 45 0) (Gx Tryz.prog 45 0) Jc])++qq):=by
 unfold Mt at h;refine ⟨Y++[.dead],YJ (id:=3) dI XO XP (Lh _ _ _) rfl (Lo (by simp)) ?_⟩;unfold Vb;conv=>whnf
 refine DW (x:=au.cells [(hP (0:Int)),(hP (0:Int))]) (by first | exact qi.h | rfl | (simp [sc,I.settle];done)) ?_
 conv=>whnf
 rw [rk];refine ⟨rfl,JB _ _ _ _,?_⟩;rw [J0];unfold Vc;conv=>whnf
 refine DW (x:=au.cells [(hP e1.1),(hP e1.2)]) (by first | exact qi.h | rfl | (simp [sc,I.settle];done)) ?_
 conv=>whnf
 obtain ⟨qs,rW,h⟩:=qd h;refine ⟨qj.pl,_,Jv rW,?_⟩;conv=>whnf
 obtain ⟨rH,h⟩:=qn h;refine ⟨⟨rH.1,rH.2.1⟩,?_⟩;replace rH:0≤qs.2∧qs.2<(r4.length:Int):=⟨rH.1,by have:=rH.2;omega⟩;conv=>whnf
 refine IL hP r4 qs.2 rH ?_;conv=>whnf
 obtain ⟨q9,h⟩:=qn h;refine ⟨⟨q9.1,q9.2.1⟩,?_⟩;replace q9:0≤t1∧t1<(r4.length:Int):=⟨q9.1,by have:=q9.2;omega⟩;conv=>whnf
 refine IL hP r4 t1 q9 ?_;conv=>whnf
 refine bs h (fun GM h=>?_) fun GM h=>?_
 ·rw [GM];conv=>whnf
  refine DW (x:=au.cells [(hP e1.1),(hP e1.2)]) (by first | exact qi.h | rfl | (simp [sc,I.settle];done)) ?_
  conv=>whnf
  obtain ⟨ru,h⟩:=qn h;refine ⟨by first | rfl | (simp;done) | exact Iv p1 _ qw _,by have:=ru;omega,rfl,ru,?_⟩
  erw [Jd p1 t2 e1];conv=>whnf
  obtain rfl:=congrArg (fun q=>q.1) (Option.some.inj h);show _∧((((bA::au.cells [(hP qs.2)]::au.cells [(.bU [(hP bR.1),(p3 bR.2 .shared)])]::au.cells (r4.map hP)::au.cells [(p3 (t2++[e1]) (.own 2))]::GQ)++[au.loop .busy none 45 [xT,fr,gg,FG,(I.ptr 1 0),KT,H8,KY,(I.ptr 2 0),Jt,(I.ptr 3 0),(I.ptr 4 0),HB,HC,HD,HE,u16,HF,HG,HH,Hj,Hk,Hl,G3,HI,HJ,Hs,HK,HL,Ht,HM,HN,u32,HO,G',Ha,Hb,Hc,GU,GV,GX,Hd,HP,HQ,HR,HS,HT,HU,HV,HW,HX,HY,HZ,H0,H2,H3,H4,H5,H6,H7,H9,H_,Ia,KU,u64,JG,KV,JH,KW,KX,KZ,K0] [51] (Gw Tryz.prog 45 0) (Gx Tryz.prog 45 0) Jc])++Y)++[_])[((bA::au.cells [(hP qs.2)]::au.cells [(.bU [(hP bR.1),(p3 bR.2 .shared)])]::au.cells (r4.map hP)::au.cells [(p3 (t2++[e1]) (.own 2))]::GQ)).length]?=_∧jg (((((bA::au.cells [(hP qs.2)]::au.cells [(.bU [(hP bR.1),(p3 bR.2 .shared)])]::au.cells (r4.map hP)::au.cells [(p3 (t2++[e1]) (.own 2))]::GQ)++[au.loop .busy none 45 [xT,fr,gg,FG,(I.ptr 1 0),KT,H8,KY,(I.ptr 2 0),Jt,(I.ptr 3 0),(I.ptr 4 0),HB,HC,HD,HE,u16,HF,HG,HH,Hj,Hk,Hl,G3,HI,HJ,Hs,HK,HL,Ht,HM,HN,u32,HO,G',Ha,Hb,Hc,GU,GV,GX,Hd,HP,HQ,HR,HS,HT,HU,HV,HW,HX,HY,HZ,H0,H2,H3,H4,H5,H6,H7,H9,H_,Ia,KU,u64,JG,KV,JH,KW,KX,KZ,K0] [51] (Gw Tryz.prog 45 0) (Gx Tryz.prog 45 0) Jc])++Y)++[_]).set ((bA::au.cells [(hP qs.2)]::au.cells [(.bU [(hP bR.1),(p3 bR.2 .shared)])]::au.cells (r4.map hP)::au.cells [(p3 (t2++[e1]) (.own 2))]::GQ)).length _) _;exact ⟨rfl,JB _ _ _ _,by rw [J0];exact MT _ _ _ _⟩
 ·rw [GM];conv=>whnf
  exact absurd (congrArg (fun q=>q.2) (Option.some.inj h)) (by simp)
theorem akM {to:Int} {bR:qa} {r4:p5} {p9:qb→Option (qb×Int)} {s1:Int} {s2:qb} {v:(qb×Int)} {Q:q'} {bA:au}  (q8:∀ (xZ:qb) (bQ h_ g8:au) (q_:List au) (p6:List I),p9 xZ=some v→qU 72 [(11,(.ptr 4 0))] p6→Q (.exit 1) p6 (bA::bQ::h_::g8::au.cells [(p3 xZ (.own 2))]::q_)) {T:List I} (bX:eR (Ez false [2,1,1,1,3,1,1,2,60]) T=GG 72 [(2,(hP to)),(4,(.ptr 1 0)),(8,(.ptr 2 0)),(10,(.ptr 3 0)),(11,(.ptr 4 0))]) (h:K2 to bR r4 p9 p_ s1 s2=some v) :
  dC Tryz.prog Jc 45 0 none Ru T [bA,au.cells [(hP s1)],au.cells [(.bU [(hP bR.1),(p3 bR.2 .shared)])],au.cells (r4.map hP),au.cells [(p3 s2 (.own 2))]] Q:=by
 unfold Ru;obtain ⟨Ho,qz⟩:∃ c,Rt=c:=⟨_,rfl⟩;rw [qz];refine wp_loop bX ?_;refine .intro (fun m T H=>∃ (s1:Int) (s2:qb) (GQ:List au),T=GG 72 [(2,(hP to)),(4,(.ptr 1 0)),(8,(.ptr 2 0)),(10,(.ptr 3 0)),(11,(.ptr 4 0))]∧H=(bA::au.cells [(hP s1)]::au.cells [(.bU [(hP bR.1),(p3 bR.2 .shared)])]::au.cells (r4.map hP)::au.cells [(p3 s2 (.own 2))]::GQ)∧K2 to bR r4 p9 m s1 s2=some v) p_ ⟨s1,s2,[],rfl,rfl,h⟩ ?_;clear h bX;rintro m T H ⟨s1,s2,GQ,rfl,rfl,h⟩;cases m
 ·exact q7 h
 rename_i m;rw [K2.eq_2] at h;conv=>whnf
 refine bs h (fun rj h=>?_) fun rj h=>?_
 ·rw [rj];conv=>whnf
  obtain ⟨qC,rA,h⟩:=qd h;refine ⟨qj.pl,_,U8 rA,?_⟩;conv=>whnf
  obtain ⟨dK,Hr,h⟩:=qd h;obtain ⟨qK,G9,h⟩:=qd h;rcases WT G9 with ⟨S6,Hy,Lk,Of,bB⟩ | ⟨S6,al5,ae0,Hy,Lk,bB,P8⟩
  ·have cJ:qK.2=false:=S6;replace h:=Hf (by rw [cJ] <;> decide) h;subst qz;unfold Rt;refine UA (f:=fun (e1:(Int×Int))=>(.agg [(hP e1.1),(hP e1.2)])) (UE Hr) (fun i=>(bA::au.cells [(hP (Hy i).1)]::au.cells [(.bU [(hP bR.1),(p3 bR.2 .shared)])]::au.cells (r4.map hP)::au.cells [(p3 ((Hy i).2) (.own 2))]::GQ)) (by exact rfl) (by show (bA::au.cells [(hP (Hy 0).1)]::au.cells [(.bU [(hP bR.1),(p3 bR.2 .shared)])]::au.cells (r4.map hP)::au.cells [(p3 ((Hy 0).2) (.own 2))]::GQ)=_;first | (rw [Lk];done) | (rw [Lk];rfl)) (fun _=>rfl) ?_ (rl:=none) (by exact rfl) (Hn:=(bA::au.cells [(hP qK.1.1)]::au.cells [(.bU [(hP bR.1),(p3 bR.2 .shared)])]::au.cells (r4.map hP)::au.cells [(p3 qK.1.2 (.own 2))]::GQ)) (by show (bA::au.cells [(hP (Hy dK.length).1)]::au.cells [(.bU [(hP bR.1),(p3 bR.2 .shared)])]::au.cells (r4.map hP)::au.cells [(p3 ((Hy dK.length).2) (.own 2))]::GQ)=_;first | (rw [Of];done) | (rw [Of];rfl)) (fun Vr=>?_)
   ·intro i hi Y;exact aal (bB i hi) Y
   (conv=>whnf);exact ⟨m,sm m,qK.1.1,qK.1.2,_,rfl,rfl,h⟩
  ·have cJ:qK.2=true:=S6;replace h:=Hg cJ h;subst qz;unfold Rt;refine aim (id:=3) (f:=fun (e1:(Int×Int))=>(.agg [(hP e1.1),(hP e1.2)])) (aiz Hr) ae0 (fun i=>(bA::au.cells [(hP (Hy i).1)]::au.cells [(.bU [(hP bR.1),(p3 bR.2 .shared)])]::au.cells (r4.map hP)::au.cells [(p3 ((Hy i).2) (.own 2))]::GQ)) (by exact rfl) (by show (bA::au.cells [(hP (Hy 0).1)]::au.cells [(.bU [(hP bR.1),(p3 bR.2 .shared)])]::au.cells (r4.map hP)::au.cells [(p3 ((Hy 0).2) (.own 2))]::GQ)=_;first | (rw [Lk];done) | (rw [Lk];rfl)) (fun _=>rfl) rfl ?_ ?_ (rl:=none) (by exact rfl) (Hn:=(bA::au.cells [(hP qK.1.1)]::au.cells [(.bU [(hP bR.1),(p3 bR.2 .shared)])]::au.cells (r4.map hP)::au.cells [(p3 qK.1.2 (.own 2))]::GQ)) (fun Vr=>?_)
   ·intro i hi Y;exact aal (bB i hi) Y
   ·intro Y;exact akN P8 Y
   (conv=>whnf);exact ⟨m,sm m,qK.1.1,qK.1.2,_,rfl,rfl,h⟩
 ·rw [rj];conv=>whnf
  exact q8 _ _ _ _ _ _ h ⟨rfl,rfl⟩
theorem aak {b:qa} {IW:Int} {to:Int} {v:(qb×Int)} (h:LL b IW to=some v):ql 45 [(.agg [(hP b.1),(.ay (b.2.flatMap p1) b.2.length .shared)]),(hP IW),(hP to)] (.tuple [(.ay (v.1.flatMap p1) v.1.length .shared),(hP v.2)]):=by
 refine qM dI agc rfl (Kl (pY (qL (fun _=>(pY rfl (pY rfl rfl))) _ _ _) (pY rfl rfl))) fun Q bl=>?_;have jw:qu [.tmp 6,.tmp 7] Q (fun v=>(.tuple [(p3 v.1 .shared),(hP v.2)])) v:=fun T H bI=>bl _ T H bI;unfold LL at h;unfold abi;obtain ⟨J8,rm⟩:∃ c,Ru=c:=⟨_,rfl⟩;rw [rm];conv=>whnf
 obtain ⟨r1,eU,h⟩:=qd h;rcases r1 with ⟨_ | bR,q1⟩
 ·refine ⟨qj.pl,_,Ks eU,?_⟩;conv=>whnf
  refine bs h (fun fk h=>?_) fun fk h=>?_
  ·rw [fk];(conv=>whnf);exact p7 h jw rfl rfl
  ·rw [fk];(conv=>whnf);obtain ⟨r2,qf,h⟩:=qd h;refine ⟨(pY rfl (pY rfl (pY rfl rfl))),_,NC qf,?_⟩;(conv=>whnf);cases r2
   ·(conv=>whnf);replace h:=Hf rfl h;exact p7 h jw rfl rfl
   ·(conv=>whnf);replace h:=Hg rfl h;refine bs h (fun qo h=>?_) fun qo h=>?_
    ·rw [qo];(conv=>whnf);exact p7 h jw rfl rfl
    ·rw [qo];(conv=>whnf);exact q7 h
 ·refine ⟨qj.pl,_,Ks eU,?_⟩;conv=>whnf
  refine bs h (fun qD h=>?_) fun qD h=>?_
  ·rw [qD];(conv=>whnf);exact p7 h jw rfl rfl
  ·rw [qD];(conv=>whnf);obtain ⟨r3,rr,h⟩:=qd h;refine ⟨(pY rfl (pY rfl (pY rfl rfl))),_,NC rr,?_⟩;(conv=>whnf);cases r3
   ·(conv=>whnf);replace h:=Hf rfl h;exact p7 h jw rfl rfl
   ·(conv=>whnf);replace h:=Hg rfl h;refine bs h (fun qN h=>?_) fun qN h=>?_
    ·rw [qN];(conv=>whnf);exact p7 h jw rfl rfl
    ·rw [qN];(conv=>whnf);obtain ⟨r4,qQ,h⟩:=qd h;refine ⟨qj.pl,_,aaK qQ,?_⟩;(conv=>whnf);obtain ⟨q5,h⟩:=qn h
     try rw [show List.map I.gR (List.map hP r4)=List.map hP r4 from by rw [tx];rfl]
     first | (refine UJ hP r4 (n:=6) (l:=(List.replicate 6 (0:Int))) (sr _) (fun _=>rfl) (by first | exact qi.h | rfl | (simp [sc,I.settle];done)) q5.1 q5.2 (by decide) ?_) | (rw [show Nat.beq (List.map hP r4).length 6=true from by rw [sZ,q5.1] <;> exact uG _];refine QZ hP (List.replicate 6 (0:Int)) r4 (fun _=>rfl) (by rw [q5.1,q5.2]) ?_)
     (conv=>whnf);obtain ⟨qV,h⟩:=qn h;refine ⟨⟨qV.1,qV.2.1⟩,?_⟩;replace qV:0≤IW∧IW<(r4.length:Int):=⟨qV.1,by have:=qV.2;omega⟩;(conv=>whnf);refine IL hP r4 IW qV ?_;(conv=>whnf);refine bs h (fun rK h=>?_) fun rK h=>?_
     ·rw [rK];(conv=>whnf);exact p7 h jw rfl rfl
     ·rw [rK];(conv=>whnf);subst rm;refine akM ?_ (by exact rfl) h;intro xZ bQ h_ g8 q_ p6 h qh;obtain ⟨qS,rfl⟩:=qh.ex;(conv=>whnf);exact p7 h jw rfl rfl
end Go.Proofs.YtfakoboiahbhaaaGreat.Ab


namespace Go.Proofs.YtfakoboiahbhaaaGreat.Ab
open Go
theorem Lq {b:p4} {f:Int} {p:Int×Int}:p∈places b f↔0≤p.1∧p.1<(b.2.length:Int)∧0≤p.2∧p.2≤1∧qy b p=f:=by
 refine ⟨OJ,fun ⟨ad,af,aG,a6,bL⟩=>?_⟩;have e:q4 (2*p.1.toNat+p.2.toNat)=p:=by
  rw [Qt (n:=b.2.length) (by omega) (by omega)];exact Prod.ext (by simp only;omega) (by simp only;omega)
 refine sv.2 ⟨2*p.1.toNat+p.2.toNat,sK.2 ⟨sJ.2 (by omega),?_⟩,e⟩;rw [qY,e];exact decide_eq_true bL
def L0 (p:Int×Int):Int×Int:=(p.1,1-p.2)
theorem ac4 {b:p4} {p:Int×Int} (h:0≤p.2∧p.2≤1):qy b (L0 p)=fin b p:=by
 unfold qy fin L0;simp only;by_cases ad:0<p.2
 ·rw [if_neg (by omega),if_pos ad]
 ·rw [if_pos (by omega),if_neg ad]
theorem adU {b:p4} {p:Int×Int} (h:0≤p.2∧p.2≤1):fin b (L0 p)=qy b p:=by
 unfold qy fin L0;simp only;by_cases ad:0<p.2
 ·rw [if_neg (by omega),if_pos ad]
 ·rw [if_pos (by omega),if_neg ad]
theorem G4.symm {b:p4} {wo f g:Int} (h:G4 b wo f g):G4 b wo g f:=by
 obtain ⟨p,ad,af,aG⟩:=h;have aC:=Lq.1 ad;exact ⟨L0 p,Lq.2 ⟨aC.1,aC.2.1,by simp only [L0];omega,by simp only [L0];omega,by rw [ac4 ⟨aC.2.2.1,aC.2.2.2.1⟩,aG]⟩,af,by rw [adU ⟨aC.2.2.1,aC.2.2.2.1⟩,aC.2.2.2.2]⟩
theorem GY.cons {b:p4} {wo:Int}:∀ {n:Nat} {a c g:Int},G4 b wo a c→GY b wo n c g→GY b wo (n+1) a g
 | 0,a,c,g,h,(k:c=g)=>⟨a,rfl,k ▸ h⟩
 | n+1,a,c,g,h,⟨f,aJ,aP⟩=>⟨f,GY.cons h aJ,aP⟩
theorem GY.symm {b:p4} {wo:Int}:∀ {n:Nat} {a g:Int},GY b wo n a g→GY b wo n g a
 | 0,_,_,(h:_=_)=>h.symm
 | _+1,_,_,⟨_,ad,af⟩=>GY.cons af.symm ad.symm
theorem GY.gL {b:p4} {wo:Int} {n:Nat} {a g:Int} (h:GY b wo (n+1) a g):∃ c,G4 b wo a c∧GY b wo n c g:=by
 obtain ⟨f,ad,af⟩:=h.symm;exact ⟨f,af.symm,ad.symm⟩
def Ls (b:p4) (D:List Int) (f:Int) (p:Int×Int):Bool:=decide (ix D (fin b p)=ix D f-1)
def Jz (b:p4) (D:List Int):Nat→Int→Row
 | 0,_=>[]
 | n+1,f=>match (places b f).find? (Ls b D f) with
   | some p=>p::Jz b D n (fin b p)
   | none=>[]
theorem WS {b:p4} (pZ:qm b) {D:List Int} (qt:D.length=6) {f:Int} (aQ:0≤f∧f<b.1) (aZ:0≤ix D f∧ix D f≤100) {s:Row} (ai:s.length≤1000):∀ (l:Row),(∀ p∈l,p∈places b f) →
  L1 (Mt b D) l (f,s)=some (match l.find? (Ls b D f) with
   | some p=>((fin b p,s++[p]),true)
   | none=>((f,s),false))
 | [],_=>rfl
 | p::l,h=>by
   have aC:=OJ (h p (by simp));have Cp:=LZ pZ (h p (by simp));have bV:=pZ.f6;rw [L1,Mt];rw [JL ⟨aC.1,aC.2.1⟩,sb];dsimp only;rw [qc ⟨by omega,by omega,qt.symm⟩,qc ⟨by omega,by omega,qt.symm⟩,I8 (by omega),List.find?_cons];by_cases aN:ix D (fin b p)=ix D f-1
   ·rw [if_pos (decide_eq_true aN),qc (by omega),sb,if_pos rfl,show Ls b D f p=true from decide_eq_true aN]
   ·rw [if_neg (by simpa using aN),sb,if_neg (by simp),show Ls b D f p=false from decide_eq_false aN];exact WS pZ qt aQ aZ ai l fun q a3=>h q (by simp [a3])
theorem Tk {b:p4} (pZ:qm b) {wo to f:Int} {D:List Int} (qt:Kw b wo to D) {n:Nat} (aQ:0≤f∧f<6) (aN:ix D f=((n+1:Nat):Int)):∃ p∈places b f,p.1≠wo∧ix D (fin b p)=(n:Int):=by
 obtain ⟨c,rfl⟩:∃ c:Nat,f=(c:Int):=⟨f.toNat,by omega⟩;have hw:=qt.walk c (by omega) (by omega);rw [aN] at hw;obtain ⟨e,he,hw⟩:=hw.symm.gL;have ak:=qt.least n e hw.symm;have po:(n:Int)≤ix D e:=by
  refine Classical.byContradiction fun bI=>?_;have af:=qt.walk e.toNat (by omega) (by rw [tb ak.1];exact ak.2.2.1);rw [tb ak.1] at af;have:=(qt.least ((ix D e).toNat+1) (c:Int) ⟨e,af,he.symm⟩).2.2.2;omega
 obtain ⟨p,ad,af,aG⟩:=he;exact ⟨p,ad,af,by rw [aG];omega⟩
theorem aaj {b:p4} (pZ:qm b) {to:Int} {D:List Int} (qt:Kw b (-1) to D) {k:Row→Option (Row×Int)}:∀ (n m:Nat) (f:Int) (s:Row),0≤f→f<b.1→ix D f=(n:Int)→n<m→s.length+n≤1000 →
  K2 to b D k m f s=k (s++Jz b D n f)
 | _,0,_,_,_,_,_,h,_=>absurd h (by omega)
 | 0,m+1,f,s,ad,af,aG,_,_=>by
   have bV:=pZ.f6;have hw:=qt.walk f.toNat (by omega) (by rw [tb ad];omega);rw [tb ad,aG] at hw;have hw:to=f:=hw;rw [K2,if_neg (by simp [hw]),Jz,List.append_nil]
 | n+1,m+1,f,s,ad,af,aG,a6,bL=>by
   have bV:=pZ.f6;have aff:f≠to:=fun e=>by
    have:=(qt.least 0 to rfl).2.2.2;subst e;omega
   obtain ⟨p,bR,_,b4⟩:=Tk pZ qt ⟨ad,by omega⟩ aG;have S3:=qt.small f.toNat (by omega);rw [tb ad] at S3;have hlen:=pZ.len;rw [K2,if_pos (decide_eq_true aff),NJ,sb,JD,if_pos (by omega),sb,WS pZ qt.len ⟨ad,af⟩ ⟨by omega,by omega⟩ (by omega) _ (fun p aC=>aC),sb,Jz];cases a3:(places b f).find? (Ls b D f) with
   | none =>
     have:=List.find?_eq_none.1 a3 p bR;exact absurd (decide_eq_true (by rw [b4,aG];omega)) this
   | some q =>
     have q1:=List.mem_of_find?_eq_some a3;have aW:ix D (fin b q)=ix D f-1:=of_decide_eq_true (p:=ix D (fin b q)=ix D f-1) (List.find?_some (p:=Ls b D f) a3);have cz:=LZ pZ q1;dsimp only;rw [if_pos rfl,aaj pZ qt n m _ _ cz.1 cz.2 (by rw [aW,aG];omega) (by omega) (by simp;omega),List.append_assoc];rfl
def PU (b:p4) (D:List Int) (f:Int):Row×Int:=if ix D f<0 then ([],5) else (Jz b D (ix D f).toNat f,0)
def Wb (b:p4) (f t:Int):Prop:=0≤f∧f<b.1∧0≤t∧t<b.1∧f≠t
theorem akK {b:p4} (pZ:qm b) {f t:Int} (h:¬ Wb b f t):LL b f t=some ([],2):=by
 have bV:=pZ.f6;have ad:=pZ.f1;have ak:=pZ.len;rw [LL,I_,Pk b (by omega),sb,if_neg (by simp [ID.2 pZ]),sb];dsimp only;rw [if_neg (by decide),NB _ _ _ (by simp),sb,I8 (by omega)];by_cases af:[f,t].any (Hx 0 (b.1-1))=true
 ·rw [af,if_neg (by decide)]
 ·have aG:[f,t].any (Hx 0 (b.1-1))=false:=by simpa using af
  rw [aG,if_pos (by decide)];simp only [ud,vG,vH,vF,KQ] at aG
  have:f=t:=Classical.byContradiction fun e=>h ⟨aG.1.1,by omega,aG.2.1,by omega,e⟩
  rw [if_pos (decide_eq_true this)]
theorem akL {b:p4} (pZ:qm b) {f t:Int} (h:Wb b f t):∃ D,Kw b (-1) t D∧LL b f t=some (PU b D f):=by
 have bV:=pZ.f6;have ad:=pZ.f1;have ak:=pZ.len;obtain ⟨aB,aH,aR,bj,bb⟩:=h;obtain ⟨D,e,qt⟩:=U6 pZ (wo := -1) ⟨aR,bj⟩;refine ⟨D,qt,?_⟩;rw [LL,I_,Pk b (by omega),sb,if_neg (by simp [ID.2 pZ]),sb];dsimp only;have aG:[f,t].any (Hx 0 (b.1-1))=false:=by
  simp only [ud,vG,vH,vF,KQ];omega
 rw [if_neg (by decide),NB _ _ _ (by simp),sb,I8 (by omega),aG,if_pos (by decide),if_neg (by simpa using bb),e,sb,qc ⟨qt.len,by simp⟩,qc ⟨aB,by omega,qt.len.symm⟩];unfold PU;by_cases aZ:ix D f<0
 ·rw [if_pos (decide_eq_true aZ),if_pos aZ]
 ·have S3:=qt.small f.toNat (by omega);rw [tb aB] at S3;rw [if_neg (by simpa using aZ),if_neg aZ,aaj pZ qt (ix D f).toNat p_ f [] aB aH (by omega) (rn (by omega)) (by simp;omega),uh]
end Go.Proofs.YtfakoboiahbhaaaGreat.Ab


namespace Go.Proofs.YtfakoboiahbhaaaGreat.Ab
open Go
set_option maxRecDepth 20000
set_option maxHeartbeats 4000000

end Go.Proofs.YtfakoboiahbhaaaGreat.Ab


namespace Go.Proofs.YtfakoboiahbhaaaGreat.Ab
open Go
set_option maxRecDepth 20000
set_option maxHeartbeats 4000000

end Go.Proofs.YtfakoboiahbhaaaGreat.Ab


namespace Go.Proofs.YtfakoboiahbhaaaGreat.Ab
open Go
def al8 (r:Row) (s:Int):Bool:=r.any fun q=>decide (q.1=s)
theorem adP {b:p4} {p q:Int×Int} (h:p.1=q.1):fin b p=qy b q∨fin b p=fin b q:=by
 unfold fin qy;rw [h];by_cases ad:0<p.2 <;> by_cases af:0<q.2 <;> simp [ad,af]
theorem WE {b:p4} (pZ:qm b) {wo to:Int} {D:List Int} (qt:Kw b wo to D):∀ (n:Nat) (f:Int),0≤f→f<b.1→ix D f=(n:Int)→∃ l:List Int,l.Nodup∧l.length=n+1∧∀ x∈l,0≤x∧x<b.1∧ix D x≤(n:Int)
 | 0,f,ad,af,h=>⟨[f],by simp,rfl,fun x al=>by simp only [sN] at al;subst al;exact ⟨ad,af,by omega⟩⟩
 | n+1,f,ad,af,h=>by
   have bV:=pZ.f6;obtain ⟨p,bR,_,b4⟩:=Tk pZ qt ⟨ad,by omega⟩ h;have aQ:=LZ pZ bR;obtain ⟨l,dK,kI,Na⟩:=WE pZ qt n _ aQ.1 aQ.2 b4;refine ⟨f::l,ue.2 ⟨fun hm=>?_,dK⟩,by simp [kI],fun x al=>?_⟩
   ·have:=(Na f hm).2.2;omega
   ·rcases sk.1 al with e | e
    ·subst e;exact ⟨ad,af,by omega⟩
    ·have:=Na x e;exact ⟨this.1,this.2.1,by omega⟩
theorem WG {b:p4} (pZ:qm b) {wo to f:Int} {D:List Int} (qt:Kw b wo to D) (ad:0≤f) (af:f<b.1):ix D f<b.1:=by
 rcases uJ (ix D f) 0 with h | h
 ·omega
 ·obtain ⟨l,dK,kI,Na⟩:=WE pZ qt (ix D f).toNat f ad af (by omega);have:=Nb (n:=b.1.toNat) dK fun x al=>by have:=Na x al;omega
  omega
end Go.Proofs.YtfakoboiahbhaaaGreat.Ab


namespace Go.Proofs.YtfakoboiahbhaaaGreat.Ab
open Go
set_option maxRecDepth 20000
set_option maxHeartbeats 4000000
def Q9 (b:qa) (p9:p5→Option p5):Nat→Int→p5→Option p5
 | 0,_,_=>none
 | m+1,s1,s2 =>
   if (decide (s1<b.1))=true then
    p8 ((s2.length+1)*8≤140737488355328) <|
    Q9 b p9 m (w (s1+(1:Int))) (s2++[s1])
   else
    p9 s2
def Ps (b:qa) (but:Int) (rV:p5→Option p5):Nat→Int→p5→Option p5
 | 0,_,_=>none
 | m+1,qg,qp =>
   if (decide (qg<(b.2.length:Int)))=true then
    p8 (0≤qg∧qg<(b.2.length:Int)) <|
    p8 (0≤qg∧qg<(b.2.length:Int)) <|
    if (decide (qg≠but))=true then
     p8 (0≤(ix b.2 qg).1∧(ix b.2 qg).1<(qp.length:Int)) <|
     p8 (0≤(ix b.2 qg).2∧(ix b.2 qg).2<(qp.length:Int)) <|
     p8 (0≤(ix b.2 qg).1∧(ix b.2 qg).1<(qp.length:Int)) <|
     p8 (0≤(ix b.2 qg).2∧(ix b.2 qg).2<((qp.set ((ix b.2 qg).1).toNat (min (ix qp ((ix b.2 qg).1)) (ix qp ((ix b.2 qg).2)))).length:Int)) <|
     Ps b but rV m (w (qg+(1:Int))) ((qp.set ((ix b.2 qg).1).toNat (min (ix qp ((ix b.2 qg).1)) (ix qp ((ix b.2 qg).2)))).set ((ix b.2 qg).2).toNat (min (ix qp ((ix b.2 qg).1)) (ix qp ((ix b.2 qg).2))))
    else
     Ps b but rV m (w (qg+(1:Int))) qp
   else
    rV qp
def Ny (b:qa) (but:Int) (qB:p5→Option p5):Nat→Int→p5→Option p5
 | 0,_,_=>none
 | m+1,s3,Gy =>
   if (decide (s3<b.1))=true then
    Ps b but (fun oi =>
      Ny b but qB m (w (s3+(1:Int))) oi) p_ (0:Int) Gy
   else
    qB Gy
def UZ (b:qa) (but:Int):Option p5 :=
 if (decide ((0:Int)<b.1))=true then
  Q9 b (fun xZ =>
    Ny b but (fun FW =>
      some FW) p_ (0:Int) xZ) p_ (w ((0:Int)+(1:Int))) [(0:Int)]
 else
  none
end Go.Proofs.YtfakoboiahbhaaaGreat.Ab


namespace Go.Proofs.YtfakoboiahbhaaaGreat.Ab
open Go
def rI (b:p4) (wo f g:Int):Prop:=∃ n,GY b wo n f g
theorem GY.trans {b:p4} {wo:Int}:∀ {n m:Nat} {a c g:Int},GY b wo n a c→GY b wo m c g→GY b wo (n+m) a g
 | n,0,a,c,g,h,(k:c=g)=>k ▸ h
 | n,m+1,a,c,g,h,⟨f,aJ,aP⟩=>⟨f,GY.trans h aJ,aP⟩
theorem rI.refl {b:p4} {wo:Int} (f:Int):rI b wo f f:=⟨0,rfl⟩
theorem rI.symm {b:p4} {wo f g:Int} (h:rI b wo f g):rI b wo g f:=h.elim fun n h=>⟨n,h.symm⟩
theorem rI.trans {b:p4} {wo f g h:Int} (ad:rI b wo f g) (af:rI b wo g h):rI b wo f h:=by
 obtain ⟨n,ad⟩:=ad;obtain ⟨m,af⟩:=af;exact ⟨n+m,ad.trans af⟩
theorem G4.Lc {b:p4} {wo f g:Int} (h:G4 b wo f g):rI b wo f g:=⟨1,f,rfl,h⟩
theorem G4.of {b:p4} {wo:Int} {i:Nat} (hi:i<b.2.length) (hw:(i:Int)≠wo):G4 b wo (ix b.2 (i:Int)).1 (ix b.2 (i:Int)).2 :=
 ⟨((i:Int),0),Lq.2 ⟨by simp only;omega,by simp only;omega,by simp only;omega,by simp only;omega,rfl⟩,hw,rfl⟩
theorem G4.r0 {b:p4} {wo f g:Int} (h:G4 b wo f g):∃ i:Nat,i<b.2.length∧(i:Int)≠wo∧(((ix b.2 (i:Int)).1=f∧(ix b.2 (i:Int)).2=g)∨((ix b.2 (i:Int)).2=f∧(ix b.2 (i:Int)).1=g)):=by
 obtain ⟨p,ad,af,aG⟩:=h;have aC:=Lq.1 ad;refine ⟨p.1.toNat,by omega,by omega,?_⟩;rw [tb aC.1];have a6:=aC.2.2.2.2;unfold qy at a6;unfold fin at aG;by_cases ao:0<p.2
 ·rw [if_pos ao] at a6 aG;exact .inr ⟨a6,aG⟩
 ·rw [if_neg ao] at a6 aG;exact .inl ⟨a6,aG⟩
theorem rI.short {b:p4} (pZ:qm b) {wo f g:Int} (aO:0≤g∧g<b.1) (aQ:0≤f∧f<b.1) (h:rI b wo f g):∃ n:Nat,(n:Int)<b.1∧GY b wo n f g:=by
 obtain ⟨D,_,qt⟩:=U6 pZ (wo:=wo) aO;obtain ⟨n,h⟩:=h;have ak:=qt.least n f h.symm;have bV:=pZ.f6;have aU:=WG pZ qt aQ.1 aQ.2;have hw:=qt.walk f.toNat (by omega) (by rw [tb aQ.1];exact ak.2.2.1);rw [tb aQ.1] at hw;exact ⟨(ix D f).toNat,by omega,hw.symm⟩
theorem Ko {b:p4} (pZ:qm b) {i:Nat} (hi:i<b.2.length):0≤(ix b.2 (i:Int)).1∧(ix b.2 (i:Int)).1<b.1∧0≤(ix b.2 (i:Int)).2∧(ix b.2 (i:Int)).2<b.1:=by
 have hm:=Ow (l:=b.2) (i:=(i:Int)) ⟨by omega,by omega⟩;have ad:=pZ.left _ hm;have af:=pZ.right _ hm;exact ⟨ad.1,ad.2,af.1,af.2⟩
def upto (n:Nat):List Int:=(List.range n).map fun (j:Nat)=>(j:Int)
theorem rF (n:Nat):(upto n).length=n:=by simp [upto]
theorem Zy {n j:Nat} (h:j<n):ix (upto n) (j:Int)=(j:Int):=by
 rw [re (by rw [rF];exact h)];simp [upto]
theorem Nl (n:Nat):upto (n+1)=upto n++[(n:Int)]:=by simp [upto,List.range_succ]
theorem aau {b:p4} (bV:b.1≤6) {k:List Int→Option (List Int)}:∀ (m i:Nat) (z:Int),z=i→(i:Int)≤b.1→b.1.toNat-i<m→Q9 b k m z (upto i)=k (upto b.1.toNat)
 | 0,i,_,_,_,h=>absurd h (by omega)
 | m+1,i,_,rfl,hi,hm=>by
   rw [Q9];by_cases h:(i:Int)<b.1
   ·rw [if_pos (decide_eq_true h),qc (by rw [rF];omega),rz i (by omega),←Nl];exact aau bV m (i+1) _ rfl (by omega) (by omega)
   ·rw [if_neg (by simpa using h),show i=b.1.toNat by omega]
structure NI (b:p4) (wo:Int) (S:List Int):Prop where
 len:S.length=b.1.toNat
 IF:∀ f:Int,0≤f→f<b.1→rI b wo f (ix S f)∧0≤ix S f∧ix S f<b.1
structure NT (b:p4) (wo:Int) (S0:List Int) (i:Nat) (S:List Int):Prop extends NI b wo S where
 mono:∀ f:Int,0≤f→f<b.1→ix S f≤ix S0 f
 done:∀ j:Nat,j<i→(j:Int)≠wo→ix S (ix b.2 (j:Int)).1≤ix S0 (ix b.2 (j:Int)).2∧ix S (ix b.2 (j:Int)).2≤ix S0 (ix b.2 (j:Int)).1
theorem afw {S:List Int} {x y f v:Int} (al:0≤x∧x<(S.length:Int)) (a0:0≤y∧y<(S.length:Int)) (aQ:0≤f∧f<(S.length:Int)):ix ((S.set x.toNat v).set y.toNat v) f=if f=x∨f=y then v else ix S f:=by
 obtain ⟨a,rfl⟩:∃ a:Nat,x=(a:Int):=⟨x.toNat,by omega⟩;obtain ⟨c,rfl⟩:∃ c:Nat,y=(c:Int):=⟨y.toNat,by omega⟩;obtain ⟨e,rfl⟩:∃ e:Nat,f=(e:Int):=⟨f.toNat,by omega⟩;rw [tB,tB];by_cases ad:e=c
 ·subst ad;rw [Mc (by simp;omega),if_pos (.inr rfl)]
 ·rw [KK ad];by_cases af:e=a
  ·subst af;rw [Mc (by omega),if_pos (.inl rfl)]
  ·rw [KK af,if_neg (by omega)]
theorem NT.step {b:p4} (pZ:qm b) {wo:Int} {S0 S:List Int} {i:Nat} (h:NT b wo S0 i S) (hi:i<b.2.length) (hw:(i:Int)≠wo) :
  NT b wo S0 (i+1) ((S.set (ix b.2 (i:Int)).1.toNat (min (ix S (ix b.2 (i:Int)).1) (ix S (ix b.2 (i:Int)).2))).set (ix b.2 (i:Int)).2.toNat (min (ix S (ix b.2 (i:Int)).1) (ix S (ix b.2 (i:Int)).2))):=by
 have ai:=Ko pZ hi;have he:=G4.of hi hw;obtain ⟨x,al⟩:∃ x,x=(ix b.2 (i:Int)).1:=⟨_,rfl⟩;obtain ⟨y,a0⟩:∃ y,y=(ix b.2 (i:Int)).2:=⟨_,rfl⟩;rw [←al,←a0] at ai he;rw [←al,←a0];have ak:=h.len;have Qa:∀ f:Int,0≤f→f<b.1→_:=fun f ad af=>afw (S:=S) (x:=x) (y:=y) (f:=f) (v:=min (ix S x) (ix S y)) ⟨ai.1,by omega⟩ ⟨ai.2.2.1,by omega⟩ ⟨ad,by omega⟩;have SO:=h.IF x ai.1 ai.2.1;have SP:=h.IF y ai.2.2.1 ai.2.2.2;have hle:∀ f:Int,0≤f→f<b.1→ix ((S.set x.toNat (min (ix S x) (ix S y))).set y.toNat (min (ix S x) (ix S y))) f≤ix S f:=fun f ad af=>by
  rw [Qa f ad af];split
  ·rename_i e;rcases e with rfl | rfl <;> omega
  ·exact vr _
 refine ⟨⟨by simpa using ak,fun f ad af=>?_⟩,fun f ad af=>vo (hle f ad af) (h.mono f ad af),fun j aw SX=>?_⟩
 ·rw [Qa f ad af];split
  ·rename_i e;rcases Int.le_total (ix S x) (ix S y) with hm | hm
   ·rw [Int.min_eq_left hm];refine ⟨?_,SO.2⟩;rcases e with rfl | rfl
    ·exact SO.1
    ·exact he.symm.Lc.trans SO.1
   ·rw [Int.min_eq_right hm];refine ⟨?_,SP.2⟩;rcases e with rfl | rfl
    ·exact he.Lc.trans SP.1
    ·exact SP.1
  ·exact h.IF f ad af
 ·have ee:j<i∨j=i:=by omega
  rcases ee with ee | rfl
  ·have M6:=Ko pZ (i:=j) (by omega);obtain ⟨d1,d2⟩:=h.done j ee SX;exact ⟨vo (hle _ M6.1 M6.2.1) d1,vo (hle _ M6.2.2.1 M6.2.2.2) d2⟩
  ·rw [←al,←a0,Qa x ai.1 ai.2.1,Qa y ai.2.2.1 ai.2.2.2,if_pos (.inl rfl),if_pos (.inr rfl)];have de:=h.mono x ai.1 ai.2.1;have df:=h.mono y ai.2.2.1 ai.2.2.2;omega
theorem U0 {b:p4} (pZ:qm b) {wo:Int} {S0:List Int} {k:List Int→Option (List Int)}:∀ (m i:Nat) (z:Int) (S:List Int),z=i→i≤b.2.length→b.2.length-i<m→NT b wo S0 i S →
  ∃ S',NT b wo S0 b.2.length S'∧Ps b wo k m z S=k S'
 | 0,i,_,_,_,_,h,_=>absurd h (by omega)
 | m+1,i,_,S,rfl,hi,hm,h=>by
   have ak:=pZ.len;rw [Ps];by_cases aU:i<b.2.length
   ·have ai:=Ko pZ aU;have C_:=h.len;rw [Jp aU,G6 aU,G6 aU];by_cases hw:(i:Int)≠wo
    ·rw [if_pos (decide_eq_true hw),qc ⟨ai.1,by omega⟩,qc ⟨ai.2.2.1,by omega⟩,qc ⟨ai.1,by omega⟩,qc ⟨ai.2.2.1,by rw [List.length_set];omega⟩,rz i (by omega)];exact U0 pZ m (i+1) _ _ rfl (by omega) (by omega) (h.step pZ aU hw)
    ·rw [if_neg (by simpa using hw),rz i (by omega)];exact U0 pZ m (i+1) _ _ rfl (by omega) (by omega) ⟨h.toNI,h.mono,fun j aw SX=>h.done j (by omega) SX⟩
   ·rw [Jo aU];(obtain rfl:i=b.2.length:=by omega);exact ⟨S,h,rfl⟩
theorem aav {b:p4} (pZ:qm b) {wo:Int} {k:List Int→Option (List Int)}:∀ (m r:Nat) (z:Int) (S:List Int),z=r→(r:Int)≤b.1→b.1.toNat-r<m→NI b wo S→(∀ (n:Nat) (f g:Int),n≤r→0≤f→f<b.1→GY b wo n f g→ix S f≤g) →
  ∃ S',NI b wo S'∧(∀ (n:Nat) (f g:Int),(n:Int)≤b.1→0≤f→f<b.1→GY b wo n f g→ix S' f≤g)∧Ny b wo k m z S=k S'
 | 0,i,_,_,_,_,h,_,_=>absurd h (by omega)
 | m+1,r,_,S,rfl,aj,hm,h,hw=>by
   have bV:=pZ.f6;rw [Ny];by_cases aU:(r:Int)<b.1
   ·rw [if_pos (decide_eq_true aU)];obtain ⟨S',d1,d2⟩:=U0 pZ (wo:=wo) (S0:=S) (k:=fun oi=>Ny b wo k m (w ((r:Int)+(1:Int))) oi) p_ 0 0 S rfl (sr _) (rn (by have:=pZ.len;omega)) ⟨h,fun _ _ _=>vr _,fun j aw=>absurd aw (by omega)⟩;rw [d2,rz r (by omega)];refine aav pZ m (r+1) _ S' rfl (by omega) (by omega) d1.toNI fun n f g aN ad af Lm=>?_;cases n with
    | zero =>
      have e:f=g:=Lm;subst e;have:=hw 0 f f (by omega) ad af rfl;have:=d1.mono f ad af;omega
    | succ n =>
      obtain ⟨c,he,ao⟩:=Lm.gL;have Xd:=G4.in pZ he;have:=hw n c g (by omega) Xd.1 Xd.2 ao;obtain ⟨i,i1,i2,i3⟩:=he.r0;obtain ⟨e1,ck⟩:=d1.done i i1 i2;rcases i3 with ⟨rfl,rfl⟩ | ⟨rfl,rfl⟩ <;> omega
   ·rw [if_neg (by simpa using aU)];exact ⟨S,h,fun n f g aN ad af Lm=>hw n f g (by omega) ad af Lm,rfl⟩
structure PL (b:p4) (wo:Int) (N:List Int):Prop extends NI b wo N where
 least:∀ f g:Int,0≤f→f<b.1→0≤g→g<b.1→rI b wo f g→ix N f≤g
theorem akY {b:p4} (pZ:qm b) (wo:Int):∃ N,UZ b wo=some N∧PL b wo N:=by
 have bV:=pZ.f6;have ad:=pZ.f1
 have B9:NI b wo (upto b.1.toNat):=⟨rF _,fun f Kg Co=>by
  obtain ⟨a,rfl⟩:∃ a:Nat,f=(a:Int):=⟨f.toNat,by omega⟩
  rw [Zy (by omega)];exact ⟨rI.refl _,Kg,Co⟩⟩
 obtain ⟨S',d1,d2,d3⟩:=aav pZ (wo:=wo) (k:=fun FW=>some FW) p_ 0 0 (upto b.1.toNat) rfl (by omega) (rn (by omega)) B9 (fun n f g aN Kg Co Lm=>by
  obtain rfl:n=0:=by omega
  have e:f=g:=Lm;subst e;obtain ⟨a,rfl⟩:∃ a:Nat,f=(a:Int):=⟨f.toNat,by omega⟩
  rw [Zy (by omega)];exact vr _)
 refine ⟨S',?_,d1,fun f g f1 f2 cb b8 ao=>?_⟩
 ·rw [UZ,if_pos (decide_eq_true (by omega))];have:=aau bV (k:=fun xZ=>Ny b wo (fun FW=>some FW) p_ (0:Int) xZ) p_ 1 1 rfl (by omega) (rn (by omega));rw [show upto 1=[(0:Int)] from rfl] at this;rw [show w ((0:Int)+(1:Int))=1 from rfl,this,d3]
 ·obtain ⟨n,aN,Lm⟩:=ao.short pZ ⟨cb,b8⟩ ⟨f1,f2⟩;exact d2 n f g (by omega) f1 f2 Lm
theorem PL.iff {b:p4} {wo:Int} {N:List Int} (h:PL b wo N) {f g:Int} (aQ:0≤f∧f<b.1) (aO:0≤g∧g<b.1):ix N f=ix N g↔rI b wo f g:=by
 have a:=h.IF f aQ.1 aQ.2;have c:=h.IF g aO.1 aO.2;refine ⟨fun e=>a.1.trans (by rw [e];exact c.1.symm),fun e=>?_⟩;have dK:=h.least f (ix N g) aQ.1 aQ.2 c.2.1 c.2.2 (e.trans c.1);have kI:=h.least g (ix N f) aO.1 aO.2 a.2.1 a.2.2 (e.symm.trans a.1);omega
end Go.Proofs.YtfakoboiahbhaaaGreat.Ab
