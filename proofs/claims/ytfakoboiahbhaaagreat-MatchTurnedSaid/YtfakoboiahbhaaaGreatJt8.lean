
import Derived.Test.YtfakoboiahbhaaaGreatJt5
import Derived.KernelRfl
import Derived.Test.YtfakoboiahbhaaaGreatJt6
import Derived.Test.YtfakoboiahbhaaaGreatJt7
import Derived.Test.YtfakoboiahbhaaaGreatJt4
set_option linter.unusedSimpArgs false
set_option linter.unusedVariables false
set_option linter.unusedSectionVars false

open Bool renaming false_or→vr,or_eq_true→tL
open Decidable renaming not_not→vb
open Int renaming le_refl→uD,le_trans→vj,lt_or_le→uB,toNat_natCast→te,toNat_of_nonneg→tQ
open List renaming any_cons→uQ,any_eq_false→uA,any_eq_true→uh,append_assoc→sA,drop_eq_getElem_cons→sQ,drop_eq_nil_of_le→tc,drop_zero→sM,filter_cons→tO,flatten_cons→tS,getD_eq_getElem?_getD→sE,getElem?_append→sb,getElem?_eq_getElem→sk,getElem?_set_ne→si,getElem_mem→sD,getElem_replicate→v9,length_append→su,length_cons→sL,length_pos_of_mem→v8,map_cons→sx,map_map→tr,mem_append→sN,mem_cons→sj,mem_filter→sO,mem_flatten→ui,mem_map→sm,mem_range→sG,mem_singleton→sK,nil_append→ub,nodup_append→tT,nodup_cons→t_,pairwise_append→uW,pairwise_cons→tB,pairwise_iff_getElem→tf,take_zero→tq
open Nat renaming lt_succ_self→sf,zero_le→sq
open Option renaming bind_some→r_
namespace Go.Proofs.YtfakoboiahbhaaaGreat.Ab
open Go
def aJ:qt:=.pure 18 [.agg [.int .i64 4,.ay [.int .i64 0,.int .i64 1,.int .i64 1,.int .i64 2,.int .i64 2,.int .i64 0,.int .i64 2,.int .i64 3] 4 .shared],.ay [.int .i64 1,.int .i64 1,.int .i64 0,.int .i64 1,.int .i64 2,.int .i64 1,.int .i64 3,.int .i64 0] 4 .shared] (.tuple [.int .i64 2,.int .i64 3,.int .i64 0])
def aP:qt:=.pure 22 [.agg [.int .i64 4,.ay [.int .i64 0,.int .i64 1,.int .i64 1,.int .i64 2,.int .i64 2,.int .i64 0,.int .i64 2,.int .i64 3] 4 .shared],.ay [.int .i64 1,.int .i64 1,.int .i64 0,.int .i64 1,.int .i64 2,.int .i64 1,.int .i64 3,.int .i64 0] 4 .shared] (.int .i64 27)
def cj:qt:=.pure 27 [.agg [.int .i64 5,.ay [.int .i64 0,.int .i64 1,.int .i64 2,.int .i64 3,.int .i64 4,.int .i64 4] 3 .shared]] (.tuple [.ay [.int .i64 0,.int .i64 1,.int .i64 2,.int .i64 3] 4 .full,.int .i64 0])
def jM:qt:=.pure 29 [.agg [.int .i64 4,.ay [.int .i64 0,.int .i64 1,.int .i64 1,.int .i64 2,.int .i64 2,.int .i64 0,.int .i64 2,.int .i64 3] 4 .shared]] (.tuple [.ay [.ay [.int .i64 0,.int .i64 1,.int .i64 2,.int .i64 3] 4 .shared] 1 .shared,.int .i64 0])
def Dh:qt:=.pure 35 [.agg [.int .i64 4,.ay [.int .i64 0,.int .i64 1,.int .i64 1,.int .i64 2,.int .i64 2,.int .i64 0,.int .i64 2,.int .i64 3] 4 .shared]] (.tuple [.int .i64 1,.int .i64 0])
def LD:qt:=.pure 35 [.agg [.int .i64 2,.ay [.int .i64 0,.int .i64 1,.int .i64 1,.int .i64 0] 2 .shared]] (.tuple [.int .i64 1,.int .i64 0])
end Go.Proofs.YtfakoboiahbhaaaGreat.Ab


namespace Go.Proofs.YtfakoboiahbhaaaGreat.Ab
open Go
def Zp:List qt:=[bC,bT,rR,IX,M0,Zh,Zi,Zj,Zk,Y5,Y6,Y7,Y8,Y9,Y_,Y',Za,Zb,Zc,Zd,Ze,Zf,Zg]
theorem ajF:∀ e∈Zp,qz Go.Proofs.Tryz.prog e:=by
 simp only [Zp,List.forall_mem_cons];exact ⟨ajq,ajv,ajw,ajx,ajy,ajz,ajA,ajB,ajC,ajg,ajh,aji,ajj,ajk,ajl,ajm,ajn,ajo,ajp,ajr,ajs,ajt,aju,by simp⟩
abbrev abh:Prop:=qp 17 [] (B true)
theorem ajG:abh:=rX ajF (by kernel_rfl)
end Go.Proofs.YtfakoboiahbhaaaGreat.Ab


namespace Go.Proofs.YtfakoboiahbhaaaGreat.Ab
open Go
def K2:Option Bool:=some true
theorem Qt {v:Bool} (h:K2=some v):qp 17 [] (B v):=by
 obtain rfl:=Option.some.inj h;exact ajG
end Go.Proofs.YtfakoboiahbhaaaGreat.Ab


namespace Go.Proofs.YtfakoboiahbhaaaGreat.Ab
open Go
set_option maxRecDepth 20000
set_option maxHeartbeats 4000000
noncomputable def aay:ey :=
 Gz [gL 1 [.hG 0] .box,gL 2 [.iA (.bool false)] .iQ] (Gz [F6 3 1 1,Gl 4 3,Gk 5 4,F0 6 5 14 .gtr,Gp 2 6] .ret)
theorem afH:zf Tryz.prog Vw 16=some (aay,7,[.tmp 2]):=by kernel_rfl
def OA (b:qb):Option Bool :=
 some (decide ((14:Int)<(b.2.length:Int)))
theorem ajZ {b:qb} {v:Bool} (h:OA b=some v):qp 16 [(.agg [(hP b.1),(.ay (b.2.flatMap pY) b.2.length .shared)])] (B v):=by
 refine qN dH afH rfl rfl fun Q bl=>?_;have jw:qv [.tmp 2] Q (fun v=>(B v)) v:=fun T H bI=>bl _ T H bI;unfold OA at h;unfold aay;conv=>whnf
 exact p7 h jw rfl rfl

noncomputable def aa8:ey :=
 Gz [gL 4 [.iA (.bool false)] .iQ] (Gz [Gn 5 0,Gl 6 1,F1 7 5 6 .lss,Gp 8 7,cP 9 [.hG 0] 8 false .iQ,cP 10 [.hJ 2] 8 false (.pT .one),cP 11 [.hJ 9,.hJ 10] 8 false (.bin .gtr),gL 12 [.hJ 8,.iA (.bool true),.hJ 11] .pick,Gp 4 12] .ret)
theorem agh:zf Tryz.prog VS 93=some (aa8,13,[.tmp 4]):=by kernel_rfl
def OS (n gO a':Int):Option Bool :=
 if (decide (n<gO))=true then
  some true
 else
  some (decide (a'<n))
theorem akU {n:Int} {gO:Int} {a':Int} {v:Bool} (h:OS n gO a'=some v):qp 93 [(hP n),(.bU [(hP gO)]),(.bU [(hP a')])] (B v):=by
 refine qN dH agh rfl rfl fun Q bl=>?_;have jw:qv [.tmp 4] Q (fun v=>(B v)) v:=fun T H bI=>bl _ T H bI;unfold OS at h;unfold aa8;conv=>whnf
 refine bs h (fun eT h=>?_) fun eT h=>?_
 ·rw [eT];conv=>whnf
  exact p7 h jw rfl rfl
 ·rw [eT];conv=>whnf
  exact p7 h jw rfl rfl

noncomputable def aaT:ey :=
 Gz [gL 3 [.hG 0] .box,gL 4 [.hG 1] .box,gL 6 [.iA (.bool false)] .iQ] (Gz [Gp 7 2,gL 8 [.hJ 3,.hJ 4] (.zv 93 0 2),gL 9 [.iA (.func 92 [] []),.sl 7,.sl 8] (.call 6),gL 10 [.hJ 9] (.un .not),Gp 6 10] .ret)
theorem af2:zf Tryz.prog VI 66=some (aaT,11,[.tmp 6]):=by kernel_rfl
def K_ (lo hi:Int) (l:p8):Option Bool :=
 (JQ l (fun qF=>OS qF lo hi)).bind fun r1 =>
 some (!r1)
theorem QD {lo:Int} {hi:Int} {l:p8} {v:Bool} (h:K_ lo hi l=some v):qp 66 [(hP lo),(hP hi),(.ay (l.map hP) l.length .shared)] (B v):=by
 refine qN dH af2 rfl rfl fun Q bl=>?_;have jw:qv [.tmp 6] Q (fun v=>(B v)) v:=fun T H bI=>bl _ T H bI;unfold K_ at h;unfold aaT;conv=>whnf
 obtain ⟨r1,eT,h⟩:=qa h;refine ⟨_,_,Is (cs:=[(qg l .shared),(.func 93 [] [(.bU [(hP lo)]),(.bU [(hP hi)])])]) (bs:=[(qg l .shared),(.func 93 [] [(.bU [(hP lo)]),(.bU [(hP hi)])])]) (rn rfl (rn (Kg rQ (rn (Ji (cs:=[(hP lo)]) (by first | exact qh.h | rfl | (simp [sb,I.settle];done)) rfl) (rn (Ji (cs:=[(hP hi)]) (by first | exact qh.h | rfl | (simp [sb,I.settle];done)) rfl) rQ))) rQ)) (by rfl) (by exact (pZ (rK (fun _=>rfl) _ _ _) (pZ (JB rfl (pZ (ra (pZ rfl rfl)) (pZ (ra (pZ rfl rfl)) rfl))) rfl))) (aam ⟨(pZ (ra (pZ rfl rfl)) (pZ (ra (pZ rfl rfl)) rfl)),by simp⟩ (fun _ _ a0=>akU a0) eT) rfl,?_⟩
 conv=>whnf
 exact p7 h jw rfl rfl

noncomputable def aaY:ey :=
 Gz [gL 2 [.hG 0] .box,gL 3 [.iA (.bool false)] .iQ] (Gz [F6 4 1 0,Gl 5 4,F0 6 5 1 .sub,gL 7 [.sl 2] (.oP 0),Gl 8 7,F6 9 2 1,Gl 10 9,gL 11 [.hJ 8,.hJ 10] (.x' 2 1 [.int .i64 0] [0,1]),gL 12 [.iA (.func 66 [] []),.iA (.int .i64 0),.sl 6,.sl 11] (.call 3),gL 13 [.hJ 12] (.un .not),Gp 3 13] .ret)
theorem af7:zf Tryz.prog VM 71=some (aaY,14,[.tmp 3]):=by kernel_rfl
def QE (s:(Int×Int)) (gO:qb):Option Bool :=
 (K_ (0:Int) (w (gO.1-(1:Int))) [s.1,s.2]).bind fun r1 =>
 some (!r1)
theorem akD {s:(Int×Int)} {gO:qb} {v:Bool} (h:QE s gO=some v):qp 71 [(.agg [(hP s.1),(hP s.2)]),(.bU [(hP gO.1),(.ay (gO.2.flatMap pY) gO.2.length .shared)])] (B v):=by
 refine qN dH af7 rfl rfl fun Q bl=>?_;have jw:qv [.tmp 3] Q (fun v=>(B v)) v:=fun T H bI=>bl _ T H bI;unfold QE at h;unfold aaY;conv=>whnf
 obtain ⟨r1,eT,h⟩:=qa h;refine ⟨(pZ rfl (pZ rfl (pZ rfl rfl))),_,QD eT,?_⟩;conv=>whnf
 exact p7 h jw rfl rfl

noncomputable def Rd:ey :=
 .loop (some (Ez false [0,2,5,2,10])) (Gz [gL 9 [.sl 8,.sl 7] (.bin .lss)] (.seq (.cond (.sl 9) .skip (.exit 0)) (.seq (.block 1 (Gz [Gn 10 8,Gp 5 10] (Gz [Gn 11 1,Gn 12 0,Gn 13 5,Gh 14 12 13 2,gL 15 [.hJ 14] (.pT (.str 2)),gL 16 [.sl 11,.sl 15] (.call 6)] (.cond (.sl 16) (Gz [Gp 17 5,Gp 4 17] .ret) .skip)))) (Gs [FZ 18 8 1,Gp 8 18]))))
noncomputable def aa_:ey :=
 Gz [Gm 4 0] (.seq (Gz [Gn 6 0,Gk 7 6,Gm 8 0] (.block 0 Rd)) (Gz [Gm 4 (-1)] .ret))
theorem agj:zf Tryz.prog Ru 95=some (aa_,19,[.tmp 4]):=by kernel_rfl
def Mf (s:p_) (f:((Int×Int)→Option Bool)) (p9:Unit→Option Int):Nat→Int→Option Int
 | 0,_=>none
 | m+1,s1 =>
   if (decide (s1<(s.length:Int)))=true then
    p5 (0≤s1∧s1<(s.length:Int)) <|
    (f (ix s s1)).bind fun r1 =>
    if r1=true then
     some s1
    else
     Mf s f p9 m (w (s1+(1:Int)))
   else
    p9 ()
def QI (s:p_) (f:((Int×Int)→Option Bool)):Option Int :=
 Mf s f (fun _ =>
   some (-1:Int)) p6 (0:Int)
theorem akX {s:p_} {f:((Int×Int)→Option Bool)} {p9:Unit→Option Int} {s1:Int} {rq:FuncId} {qO:List I} (rC:GZ qO) (Hp:∀ (qF:(Int×Int)) (r:Bool),f qF=some r→qp rq ((.agg [(hP qF.1),(hP qF.2)])::qO) (B r)) {v:Int} {Q:qY}   (jw:qv [.tmp 4] Q (fun v=>(hP v)) v) (q7:∀ (p4:List I),p9 ()=some v→qI 19 [] p4→Q (.exit 0) p4 []) {T:List I} (bX:eQ (Ez false [0,2,5,2,10]) T=GG 19 [(0,(p2 s .shared)),(1,(.func rq [] qO)),(7,(hP (s.length:Int))),(8,(hP s1))]) (h:Mf s f p9 p6 s1=some v) :
  dB Tryz.prog Ru 95 0 none Rd T [] Q:=by
 unfold Rd;refine wp_loop bX ?_;refine .intro (fun m T H=>∃ (s1:Int),T=GG 19 [(0,(p2 s .shared)),(1,(.func rq [] qO)),(7,(hP (s.length:Int))),(8,(hP s1))]∧H=[]∧Mf s f p9 m s1=some v) p6 ⟨s1,rfl,rfl,h⟩ ?_;clear h bX;rintro m T H ⟨s1,rfl,rfl,h⟩;cases m
 ·exact qT h
 rename_i m;rw [Mf.eq_2] at h;conv=>whnf
 refine bs h (fun eT h=>?_) fun eT h=>?_
 ·rw [eT];conv=>whnf
  refine qj h id fun fj h=>?_;rw [qU pY 2 ql s s1 fj];conv=>whnf
  obtain ⟨r1,qk,h⟩:=qa h;refine ⟨_,_,call6 (bs:=((.agg [(hP (ix s s1).1),(hP (ix s s1).2)])::qO)) (by simp only [sx,rC.ij,rC.cr];rfl) (by simp only [sx,rC.ij];exact (pZ (Jg (pZ rfl (pZ rfl rfl))) rC.Rj)) (Hp _ _ qk) rfl,?_⟩;conv=>whnf
  cases r1
  ·(conv=>whnf);replace h:=GV rfl h;exact ⟨m,sf m,(w (s1+(1:Int))),rfl,rfl,h⟩
  ·(conv=>whnf);replace h:=GX rfl h;exact p7 h jw rfl rfl
 ·rw [eT];conv=>whnf
  exact q7  _ h ⟨rfl,rfl⟩
theorem akY {s:p_} {f:((Int×Int)→Option Bool)} {rq:FuncId} {qO:List I} (rC:GZ qO) (Hp:∀ (qF:(Int×Int)) (r:Bool),f qF=some r→qp rq ((.agg [(hP qF.1),(hP qF.2)])::qO) (B r)) {v:Int} (h:QI s f=some v):qp 95 [(.ay (s.flatMap pY) s.length .shared),(.func rq [] qO)] (hP v):=by
 refine qN dH agj rfl rfl fun Q bl=>?_;have jw:qv [.tmp 4] Q (fun v=>(hP v)) v:=fun T H bI=>bl _ T H bI;unfold QI at h;unfold aa_;obtain ⟨Hd,qy⟩:∃ c,Rd=c:=⟨_,rfl⟩;rw [qy];conv=>whnf
 subst qy;refine akX rC Hp ?_ ?_ (by exact rfl) h
 ·exact fun T H bI=>jw T H bI
 ·intro  p4 h qf;obtain ⟨qE,rfl⟩:=qf.ex;conv=>whnf
  exact p7 h jw rfl rfl

noncomputable def aaZ:ey :=
 Gz [gL 4 [.iA (.bool false)] .iQ] (Gz [Gp 5 0,Gp 6 1,gL 7 [.iA (.func 95 [] []),.sl 5,.sl 6] (.call 6),F0 8 7 0 .geq,Gp 4 8] .ret)
theorem af8:zf Tryz.prog VN 72=some (aaZ,9,[.tmp 4]):=by kernel_rfl
def OP (s:p_) (f:((Int×Int)→Option Bool)):Option Bool :=
 (QI s f).bind fun r1 =>
 some (decide ((0:Int)≤r1))
theorem akF {s:p_} {f:((Int×Int)→Option Bool)} {rq:FuncId} {qO:List I} (rC:GZ qO) (Hp:∀ (qF:(Int×Int)) (r:Bool),f qF=some r→qp rq ((.agg [(hP qF.1),(hP qF.2)])::qO) (B r)) {v:Bool} (h:OP s f=some v):qp 72 [(.ay (s.flatMap pY) s.length .shared),(.func rq [] qO)] (B v):=by
 refine qN dH af8 rfl rfl fun Q bl=>?_;have jw:qv [.tmp 4] Q (fun v=>(B v)) v:=fun T H bI=>bl _ T H bI;unfold OP at h;unfold aaZ;conv=>whnf
 obtain ⟨r1,eT,h⟩:=qa h;refine ⟨_,_,Is (cs:=[(p2 s .shared),(.func rq [] qO)]) (bs:=[(p2 s .shared),(.func rq [] qO)]) (rn rfl (rn (rC.fn _ _) rQ)) (by rfl) (by exact (pZ (qX (fun _=>(pZ rfl (pZ rfl rfl))) _ _ _) (pZ (rC.Th _) rfl))) (akY rC Hp eT) rfl,?_⟩;conv=>whnf
 exact p7 h jw rfl rfl

noncomputable def aaB:ey :=
 Gz [gL 1 [.hG 0] .box,Gm 2 0] (Gz [gL 4 [.sl 1] (.zv 71 0 1),Gp 3 4] (.seq (.block 0 (Gz [gL 6 [.sl 1] (.oP 0),Gl 7 6,gL 8 [.hJ 7] (.x' 1 1 [.int .i64 0] [0]),gL 9 [.iA (.func 66 [] []),.iA (.int .i64 1),.iA (.int .i64 6),.sl 8] (.call 3),gL 10 [.hJ 9] (.un .not),Gp 11 10,cP 12 [.sl 1] 11 false (.oP 1),cP 13 [.hJ 12] 11 false (.pT .one),cP 14 [.hG 13] 11 false .pV,cP 15 [.hJ 14,.iA (.int .i64 10)] 11 false (.bin .gtr),gL 16 [.hJ 11,.iA (.bool true),.hJ 15] .pick,Gp 5 16] (.cond (.sl 5) (Gz [Gm 2 6] .ret) (Gz [F6 18 1 1,Gl 19 18,Gp 20 3,gL 21 [.iA (.func 72 [] []),.sl 19,.sl 20] (.call 6),Gp 17 21] (.cond (.sl 17) (Gz [Gm 2 3] .ret) .skip))))) (Gz [Gm 2 0] .ret)))
theorem afK:zf Tryz.prog Vx 20=some (aaB,22,[.tmp 2]):=by kernel_rfl
def M3 (b:qb):Option Int :=
 (K_ (1:Int) (6:Int) [b.1]).bind fun r1 =>
 if r1=true then
  if (decide ((10:Int)<(b.2.length:Int)))=true then
   some (6:Int)
  else
   (OP b.2 (fun qF=>QE qF b)).bind fun r2 =>
   if r2=true then
    some (3:Int)
   else
    some (0:Int)
 else
  some (6:Int)
theorem ZJ {b:qb} {v:Int} (h:M3 b=some v):qp 20 [(.agg [(hP b.1),(.ay (b.2.flatMap pY) b.2.length .shared)])] (hP v):=by
 refine qN dH afK rfl rfl fun Q bl=>?_;have jw:qv [.tmp 2] Q (fun v=>(hP v)) v:=fun T H bI=>bl _ T H bI;unfold M3 at h;unfold aaB;conv=>whnf
 obtain ⟨r1,eT,h⟩:=qa h;refine ⟨(pZ rfl (pZ rfl (pZ rfl rfl))),_,QD eT,?_⟩;conv=>whnf
 cases r1
 ·conv=>whnf
  replace h:=GV rfl h;exact p7 h jw rfl rfl
 ·conv=>whnf
  replace h:=GX rfl h;refine bs h (fun fj h=>?_) fun fj h=>?_
  ·rw [fj];(conv=>whnf);exact p7 h jw rfl rfl
  ·rw [fj];(conv=>whnf);obtain ⟨r2,qk,h⟩:=qa h;refine ⟨_,_,Is (cs:=[(p2 b.2 .shared),(.func 71 [] [(.bU [(hP b.1),(p2 b.2 .shared)])])]) (bs:=[(p2 b.2 .shared),(.func 71 [] [(.bU [(hP b.1),(p2 b.2 .shared)])])]) (rn rfl (rn (Kg rQ (rn (Ji (cs:=[(hP b.1),(p2 b.2 .shared)]) (by first | exact qh.h | rfl | (simp [sb,I.settle];done)) rfl) rQ)) rQ)) (by rfl) (by exact (pZ (qX (fun _=>(pZ rfl (pZ rfl rfl))) _ _ _) (pZ (JB rfl (pZ (ra (pZ rfl (pZ (qX (fun _=>(pZ rfl (pZ rfl rfl))) _ _ _) rfl))) rfl)) rfl))) (akF ⟨(pZ (ra (pZ rfl (pZ (qX (fun _=>(pZ rfl (pZ rfl rfl))) _ _ _) rfl))) rfl),by simp⟩ (fun _ _ a0=>akD a0) qk) rfl,?_⟩
   (conv=>whnf);cases r2
   ·(conv=>whnf);replace h:=GV rfl h;exact p7 h jw rfl rfl
   ·(conv=>whnf);replace h:=GX rfl h;exact p7 h jw rfl rfl

def Re (x:qb):List I:=[(hP x.1),(p2 x.2 .shared)]
instance {d:Nat} {x:qb}:qc (d+2) (Re x):=⟨(inferInstance:qc (d+2) [(hP x.1),(p2 x.2 .shared)]).pl⟩
noncomputable def aaR:ey :=
 Gz [gL 1 [.hG 0] .box,gL 2 [.iA .eB] .iQ,Gm 3 0] (.seq (Gz [gL 5 [.sl 1] (.pT (.str 2)),gL 6 [.iA (.func 20 [] []),.sl 5] (.call 3),Gp 4 6] (Gz [Gn 7 4,F0 8 7 0 .neq] (.cond (.sl 8) (Gz [Gp 9 4,gL 2 [.iA .eB] .iQ,Gp 3 9] .ret) .skip))) (Gz [gL 10 [.hJ 1] (.pT (.str 2)),gL 11 [.hJ 10] (.build [.int .i64 0,.ay [] 0 .full] [(0,2)]),gL 12 [.hG 11] .x9,Gp 2 12,Gm 3 0] .ret))
theorem af0:zf Tryz.prog VG 64=some (aaR,13,[.tmp 2,.tmp 3]):=by kernel_rfl
def Im (b:qb):Option ((Option qb)×Int) :=
 (M3 b).bind fun r1 =>
 if (decide (r1≠(0:Int)))=true then
  some (none,r1)
 else
  some ((some b),(0:Int))
theorem IH {b:qb} {v:((Option qb)×Int)} (h:Im b=some v):qp 64 [(.agg [(hP b.1),(.ay (b.2.flatMap pY) b.2.length .shared)])] (.tuple [(PU Re v.1),(hP v.2)]):=by
 refine qN dH af0 rfl (Ih (pZ (XK (fun _=>(pZ rfl (pZ (qX (fun _=>(pZ rfl (pZ rfl rfl))) _ _ _) rfl))) _) (pZ rfl rfl))) fun Q bl=>?_;have jw:qv [.tmp 2,.tmp 3] Q (fun v=>(.tuple [(PU Re v.1),(hP v.2)])) v:=fun T H bI=>bl _ T H bI;unfold Im at h;unfold aaR;conv=>whnf
 obtain ⟨r1,eT,h⟩:=qa h;refine ⟨qc.pl,_,ZJ eT,?_⟩;conv=>whnf
 refine bs h (fun fj h=>?_) fun fj h=>?_
 ·rw [fj];conv=>whnf
  exact p7 h jw rfl rfl
 ·rw [fj];conv=>whnf
  refine ⟨rfl,?_⟩;conv=>whnf
  exact p7 h jw rfl rfl

noncomputable def aaS:ey :=
 Gz [gL 2 [.hG 0] .box,gL 3 [.iA (.bool false)] .iQ] (Gz [F6 4 1 1,Gl 5 4,Gk 6 5,F0 7 6 1 .sub,gL 8 [.sl 2] (.oP 0),Gl 9 8,gL 10 [.hJ 9] (.x' 1 1 [.int .i64 0] [0]),gL 11 [.iA (.func 66 [] []),.iA (.int .i64 0),.sl 7,.sl 10] (.call 3),gL 12 [.hJ 11] (.un .not),Gp 13 12,cP 14 [.hJ 2] 13 false (.oP 1),cP 15 [.hJ 14] 13 false (.pT .one),⟨some 16,[.hJ 15],some (13,false),none,.x' 1 1 [.int .i64 0] [0]⟩,⟨some 17,[.iA (.func 66 [] []),.iA (.int .i64 0),.iA (.int .i64 1),.sl 16],some (13,false),none,.call 3⟩,cP 18 [.hJ 17] 13 false (.un .not),gL 19 [.hJ 13,.iA (.bool true),.hJ 18] .pick,Gp 3 19] .ret)
theorem af1:zf Tryz.prog VH 65=some (aaS,20,[.tmp 3]):=by kernel_rfl
def M7 (p:(Int×Int)) (gO:qb):Option Bool :=
 (K_ (0:Int) (w ((gO.2.length:Int)-(1:Int))) [p.1]).bind fun r1 =>
 if r1=true then
  (K_ (0:Int) (1:Int) [p.2]).bind fun r2 =>
  some (!r2)
 else
  some true
theorem Z4 {p:(Int×Int)} {gO:qb} {v:Bool} (h:M7 p gO=some v):qp 65 [(.agg [(hP p.1),(hP p.2)]),(.bU [(hP gO.1),(.ay (gO.2.flatMap pY) gO.2.length .shared)])] (B v):=by
 refine qN dH af1 rfl rfl fun Q bl=>?_;have jw:qv [.tmp 3] Q (fun v=>(B v)) v:=fun T H bI=>bl _ T H bI;unfold M7 at h;unfold aaS;conv=>whnf
 obtain ⟨r1,eT,h⟩:=qa h;refine ⟨(pZ rfl (pZ rfl (pZ rfl rfl))),_,QD eT,?_⟩;conv=>whnf
 cases r1
 ·conv=>whnf
  replace h:=GV rfl h;exact p7 h jw rfl rfl
 ·conv=>whnf
  replace h:=GX rfl h;obtain ⟨r2,fj,h⟩:=qa h;refine ⟨(pZ rfl (pZ rfl (pZ rfl rfl))),_,QD fj,?_⟩;conv=>whnf
  exact p7 h jw rfl rfl

noncomputable def Rc:ey :=
 .loop (some (Ez false [0,2,5,2,10])) (Gz [gL 9 [.sl 8,.sl 7] (.bin .lss)] (.seq (.cond (.sl 9) .skip (.exit 0)) (.seq (.block 1 (Gz [Gn 10 8,Gp 5 10] (Gz [Gn 11 1,Gn 12 0,Gn 13 5,Gh 14 12 13 2,gL 15 [.hJ 14] (.pT (.str 2)),gL 16 [.sl 11,.sl 15] (.call 6)] (.cond (.sl 16) (Gz [Gp 17 5,Gp 4 17] .ret) .skip)))) (Gs [FZ 18 8 1,Gp 8 18]))))
noncomputable def aa9:ey :=
 Gz [Gm 4 0] (.seq (Gz [Gn 6 0,Gk 7 6,Gm 8 0] (.block 0 Rc)) (Gz [Gm 4 (-1)] .ret))
theorem agi:zf Tryz.prog Rt 94=some (aa9,19,[.tmp 4]):=by kernel_rfl
def Me (s:p_) (f:((Int×Int)→Option Bool)) (p9:Unit→Option Int):Nat→Int→Option Int
 | 0,_=>none
 | m+1,s1 =>
   if (decide (s1<(s.length:Int)))=true then
    p5 (0≤s1∧s1<(s.length:Int)) <|
    (f (ix s s1)).bind fun r1 =>
    if r1=true then
     some s1
    else
     Me s f p9 m (w (s1+(1:Int)))
   else
    p9 ()
def Le (s:p_) (f:((Int×Int)→Option Bool)):Option Int :=
 Me s f (fun _ =>
   some (-1:Int)) p6 (0:Int)
theorem akW {s:p_} {f:((Int×Int)→Option Bool)} {p9:Unit→Option Int} {s1:Int} {rq:FuncId} {qO:List I} (rC:GZ qO) (Hp:∀ (qF:(Int×Int)) (r:Bool),f qF=some r→qp rq ((.agg [(hP qF.1),(hP qF.2)])::qO) (B r)) {v:Int} {Q:qY}   (jw:qv [.tmp 4] Q (fun v=>(hP v)) v) (q7:∀ (p4:List I),p9 ()=some v→qI 19 [] p4→Q (.exit 0) p4 []) {T:List I} (bX:eQ (Ez false [0,2,5,2,10]) T=GG 19 [(0,(p2 s .shared)),(1,(.func rq [] qO)),(7,(hP (s.length:Int))),(8,(hP s1))]) (h:Me s f p9 p6 s1=some v) :
  dB Tryz.prog Rt 94 0 none Rc T [] Q:=by
 unfold Rc;refine wp_loop bX ?_;refine .intro (fun m T H=>∃ (s1:Int),T=GG 19 [(0,(p2 s .shared)),(1,(.func rq [] qO)),(7,(hP (s.length:Int))),(8,(hP s1))]∧H=[]∧Me s f p9 m s1=some v) p6 ⟨s1,rfl,rfl,h⟩ ?_;clear h bX;rintro m T H ⟨s1,rfl,rfl,h⟩;cases m
 ·exact qT h
 rename_i m;rw [Me.eq_2] at h;conv=>whnf
 refine bs h (fun eT h=>?_) fun eT h=>?_
 ·rw [eT];conv=>whnf
  refine qj h id fun fj h=>?_;rw [qU pY 2 ql s s1 fj];conv=>whnf
  obtain ⟨r1,qk,h⟩:=qa h;refine ⟨_,_,call6 (bs:=((.agg [(hP (ix s s1).1),(hP (ix s s1).2)])::qO)) (by simp only [sx,rC.ij,rC.cr];rfl) (by simp only [sx,rC.ij];exact (pZ (Jg (pZ rfl (pZ rfl rfl))) rC.Rj)) (Hp _ _ qk) rfl,?_⟩;conv=>whnf
  cases r1
  ·(conv=>whnf);replace h:=GV rfl h;exact ⟨m,sf m,(w (s1+(1:Int))),rfl,rfl,h⟩
  ·(conv=>whnf);replace h:=GX rfl h;exact p7 h jw rfl rfl
 ·rw [eT];conv=>whnf
  exact q7  _ h ⟨rfl,rfl⟩
theorem QH {s:p_} {f:((Int×Int)→Option Bool)} {rq:FuncId} {qO:List I} (rC:GZ qO) (Hp:∀ (qF:(Int×Int)) (r:Bool),f qF=some r→qp rq ((.agg [(hP qF.1),(hP qF.2)])::qO) (B r)) {v:Int} (h:Le s f=some v):qp 94 [(.ay (s.flatMap pY) s.length .shared),(.func rq [] qO)] (hP v):=by
 refine qN dH agi rfl rfl fun Q bl=>?_;have jw:qv [.tmp 4] Q (fun v=>(hP v)) v:=fun T H bI=>bl _ T H bI;unfold Le at h;unfold aa9;obtain ⟨Hd,qy⟩:∃ c,Rc=c:=⟨_,rfl⟩;rw [qy];conv=>whnf
 subst qy;refine akW rC Hp ?_ ?_ (by exact rfl) h
 ·exact fun T H bI=>jw T H bI
 ·intro  p4 h qf;obtain ⟨qE,rfl⟩:=qf.ex;conv=>whnf
  exact p7 h jw rfl rfl

noncomputable def aaU:ey :=
 Gz [gL 4 [.iA (.bool false)] .iQ] (Gz [Gp 5 0,Gp 6 1,gL 7 [.iA (.func 94 [] []),.sl 5,.sl 6] (.call 6),F0 8 7 0 .geq,Gp 4 8] .ret)
theorem af3:zf Tryz.prog VJ 67=some (aaU,9,[.tmp 4]):=by kernel_rfl
def M8 (s:p_) (f:((Int×Int)→Option Bool)):Option Bool :=
 (Le s f).bind fun r1 =>
 some (decide ((0:Int)≤r1))
theorem Z5 {s:p_} {f:((Int×Int)→Option Bool)} {rq:FuncId} {qO:List I} (rC:GZ qO) (Hp:∀ (qF:(Int×Int)) (r:Bool),f qF=some r→qp rq ((.agg [(hP qF.1),(hP qF.2)])::qO) (B r)) {v:Bool} (h:M8 s f=some v):qp 67 [(.ay (s.flatMap pY) s.length .shared),(.func rq [] qO)] (B v):=by
 refine qN dH af3 rfl rfl fun Q bl=>?_;have jw:qv [.tmp 4] Q (fun v=>(B v)) v:=fun T H bI=>bl _ T H bI;unfold M8 at h;unfold aaU;conv=>whnf
 obtain ⟨r1,eT,h⟩:=qa h;refine ⟨_,_,Is (cs:=[(p2 s .shared),(.func rq [] qO)]) (bs:=[(p2 s .shared),(.func rq [] qO)]) (rn rfl (rn (rC.fn _ _) rQ)) (by rfl) (by exact (pZ (qX (fun _=>(pZ rfl (pZ rfl rfl))) _ _ _) (pZ (rC.Th _) rfl))) (QH rC Hp eT) rfl,?_⟩;conv=>whnf
 exact p7 h jw rfl rfl

noncomputable def Nd:ey :=
 .loop (some (Ez false [1,1,5,1,2,1,28,3,40])) (Gz [gL 42 [.sl 41,.sl 40] (.bin .lss)] (.seq (.cond (.sl 42) .skip (.exit 1)) (.seq (.block 2 (Gz [gL 43 [.sl 39,.sl 41] (.pM 2),gL 44 [.hJ 43] (.pT (.str 2)),gL 12 [] (.alloc [.int .i64 0,.int .i64 0]),⟨none,[.sl 12,.hG 44],none,none,.st 2⟩] (.seq (Gz [gL 45 [.sl 12] (.oP 0),Gl 46 45,gL 47 [.sl 10,.hJ 46] (.y3 10 1),Gl 48 47,F0 49 48 0 .gtr] (.cond (.sl 49) (Gz [Gm 4 0,Gm 5 0,Gm 6 11] .ret) .skip)) (Gs [F6 50 12 0,Gl 51 50,gL 52 [.sl 10,.hJ 51] (.y3 10 1),⟨none,[.hG 52,.iA (.int .i64 1)],none,none,.st 1⟩])))) (Gs [FZ 53 41 1,Gp 41 53]))))
noncomputable def QO:ey :=
 .loop (some (Ez false [7,1,5,1,1,1,47,3,16])) (Gz [gL 66 [.sl 65,.sl 64] (.bin .lss)] (.seq (.cond (.sl 66) .skip (.exit 3)) (.seq (.block 4 (Gz [gL 67 [.sl 63,.sl 65] (.pM 2),gL 68 [.hJ 67] (.pT (.str 2)),gL 17 [] (.alloc [.int .i64 0,.int .i64 0]),⟨none,[.sl 17,.hG 68],none,none,.st 2⟩] (Gz [Gn 70 7,gL 71 [.hJ 17] (.pT (.str 2)),gL 72 [.iA (.func 68 [] []),.sl 70,.sl 71] (.call 3),Gp 69 72,GJ 73 69 0,gL 74 [.hJ 69] (.ext 1),Gp 18 73,Gp 19 74] (.seq (Gz [Gp 75 18,Gp 76 15,F1 77 75 76 .neq] (.cond (.sl 77) (Gz [Gm 4 0,Gm 5 0,Gm 6 27] .ret) .skip)) (Gs [Gp 78 19,Gp 15 78]))))) (Gs [FZ 79 65 1,Gp 65 79]))))
noncomputable def aaz:ey :=
 Gz [gL 2 [.hG 0] .box, Gm 4 0, Gm 5 0, Gm 6 0] (Gz [gL 21 [.sl 2] (.pT (.str 2)), gL 22 [.iA (.func 64 [] []), .sl 21] (.call 3), Gp 20 22, GJ 23 20 0, gL 24 [.hJ 20] (.ext 1), Gp 7 23, Gp 8 24] (Gz [gL 25 [.hJ 2] (.zv 65 0 1), Gp 9 25] (.seq (.block 0 (Gz [Gn 27 8, F0 28 27 0 .neq, Gp 26 28] (.cond (.sl 26) (Gz [Gp 29 8, Gm 4 0, Gm 5 0, Gp 6 29] .ret) (Gz [Gn 31 1, Gk 32 31, F0 33 32 0 .eql, Gp 30 33] (.cond (.sl 30) (Gz [Gm 4 0, Gm 5 0, Gm 6 6] .ret) (Gz [Gn 35 1, Gp 36 9, gL 37 [.iA (.func 67 [] []), .sl 35, .sl 36] (.call 6), Gp 34 37] (.cond (.sl 34) (Gz [Gm 4 0, Gm 5 0, Gm 6 3] .ret) .skip))))))) (Gz [gL 10 [] (.alloc [.int .i64 0, .int .i64 0, .int .i64 0, .int .i64 0, .int .i64 0, .int .i64 0, .int .i64 0, .int .i64 0, .int .i64 0, .int .i64 0])] (Gz [gL 38 [.sl 10] (.other (Oper.mk (some 38) (Op.slice 89 (Operand.tmp 10) none none none) 38 "match.go:50" (Array.mk []) none) 0), ⟨none, [.hG 38], none, none, .other (Oper.mk none (Op.call (Call.mk (Callee.builtin Builtin.clear) (Array.mk [Operand.tmp 38]) (Array.mk [38]))) 0 "match.go:50" (Array.mk [Edge.mk 0 Ground.data]) none) 0⟩] (.seq (Gz [Gn 39 1, gL 40 [.sl 39] .pV, Gm 41 0] (.block 1 Nd)) (Gz [Gn 55 7, Gn 56 1, gL 57 [.hJ 56, .iA (.int .i64 0)] (.pM 2), gL 58 [.hJ 57] (.pT (.str 2)), gL 59 [.iA (.func 68 [] []), .sl 55, .sl 58] (.call 3), Gp 54 59, GJ 60 54 0, gL 61 [.hJ 54] (.ext 1), Gp 13 60, Gp 14 61] (Gz [Gn 62 13, Gp 15 62] (.seq (Gz [Gp 63 1, gL 64 [.sl 63] .pV, Gm 65 0] (.block 3 QO)) (Gz [Gp 80 13, Gp 81 15, Gp 4 80, Gp 5 81, Gm 6 0] .ret))))))))))
theorem afI:zf Tryz.prog Nr 18=some (aaz,82,[.tmp 4,.tmp 5,.tmp 6]):=by kernel_rfl
def OB (row:p_) (p9:Unit→Option (Int×Int×Int)):Nat→Int→p8→Option (Int×Int×Int)
 | 0,_,_=>none
 | m+1,s1,s2 =>
   if (decide (s1<(row.length:Int)))=true then
    p5 (0≤s1∧s1<(row.length:Int)) <|
    p5 (0≤(ix row s1).1∧(ix row s1).1<(10:Int)∧10=s2.length) <|
    if (decide ((0:Int)<(ix s2 ((ix row s1).1))))=true then
     some ((0:Int),(0:Int),(11:Int))
    else
     p5 (0≤(ix row s1).1∧(ix row s1).1<(10:Int)∧10=s2.length) <|
     OB row p9 m (w (s1+(1:Int))) (s2.set ((ix row s1).1).toNat (1:Int))
   else
    p9 ()
def LU (row:p_) (qq:Unit→Option (Int×Int×Int)):Nat→Int→p8→Option (Int×Int×Int)
 | 0,_,_=>none
 | m+1,s3,Gy =>
   if (decide (s3<(row.length:Int)))=true then
    p5 (0≤s3∧s3<(row.length:Int)) <|
    p5 (0≤(ix row s3).1∧(ix row s3).1<(10:Int)∧10=Gy.length) <|
    if (decide ((0:Int)<(ix Gy ((ix row s3).1))))=true then
     some ((0:Int),(0:Int),(11:Int))
    else
     p5 (0≤(ix row s3).1∧(ix row s3).1<(10:Int)∧10=Gy.length) <|
     LU row qq m (w (s3+(1:Int))) (Gy.set ((ix row s3).1).toNat (1:Int))
   else
    qq ()
def LV (row:p_) (bR:qb) (q2:Int→Option (Int×Int×Int)):Nat→Int→Int→Option (Int×Int×Int)
 | 0,_,_=>none
 | m+1,qe,qi =>
   if (decide (qi<(row.length:Int)))=true then
    p5 (0≤qi∧qi<(row.length:Int)) <|
    (La bR (ix row qi)).bind fun q8 =>
    if (decide (q8.1≠qe))=true then
     some ((0:Int),(0:Int),(27:Int))
    else
     LV row bR q2 m q8.2 (w (qi+(1:Int)))
   else
    q2 qe
def Jl (b:qb) (row:p_):Option (Int×Int×Int) :=
 (Im b).bind fun r1 =>
 match r1 with
 | (none,q1) =>
   if (decide (q1≠(0:Int)))=true then
    some ((0:Int),(0:Int),q1)
   else
    if (decide ((row.length:Int)=(0:Int)))=true then
     some ((0:Int),(0:Int),(6:Int))
    else
     (M8 row (fun qF=>M7 qF b)).bind fun r2 =>
     if r2=true then
      some ((0:Int),(0:Int),(3:Int))
     else
      p5 ((List.replicate 10 (0:Int)).length=10) <|
      OB row (fun _ =>
        p5 (0≤(0:Int)∧(0:Int)<(row.length:Int)) <|
        none) p6 (0:Int) (List.replicate 10 (0:Int))
 | (some bR,q1) =>
   if (decide (q1≠(0:Int)))=true then
    some ((0:Int),(0:Int),q1)
   else
    if (decide ((row.length:Int)=(0:Int)))=true then
     some ((0:Int),(0:Int),(6:Int))
    else
     (M8 row (fun qF=>M7 qF b)).bind fun r3 =>
     if r3=true then
      some ((0:Int),(0:Int),(3:Int))
     else
      p5 ((List.replicate 10 (0:Int)).length=10) <|
      LU row (fun _ =>
        p5 (0≤(0:Int)∧(0:Int)<(row.length:Int)) <|
        (La bR (ix row (0:Int))).bind fun r4 =>
        LV row bR (fun xZ =>
          some (r4.1,xZ,(0:Int))) p6 r4.1 (0:Int)) p6 (0:Int) (List.replicate 10 (0:Int))
theorem aj0 {row:p_} {p9:Unit→Option (Int×Int×Int)} {s1:Int} {s2:p8} {v:(Int×Int×Int)} {Q:qY} {bA:au}  (jw:qv [.tmp 4,.tmp 5,.tmp 6] Q (fun v=>(.tuple [(hP v.1),(hP v.2.1),(hP v.2.2)])) v) (q7:∀ (bQ:au) (qs:List au) (p4:List I),p9 ()=some v→qI 82 [(1,(p2 row .shared)),(7,.eB)] p4→Q (.exit 1) p4 (bA::bQ::qs)) {T:List I} (bX:eQ (Ez false [1,1,5,1,2,1,28,3,40]) T=GG 82 [(1,(p2 row .shared)),(7,.eB),(10,(.ptr 1 0)),(39,(p2 row .shared)),(40,(hP (row.length:Int))),(41,(hP s1))]) (h:OB row p9 p6 s1 s2=some v) :
  dB Tryz.prog Nr 18 0 none Nd T [bA,au.cells (s2.map hP)] Q:=by
 unfold Nd;refine wp_loop bX ?_;refine .intro (fun m T H=>∃ (s1:Int) (s2:p8) (Np:List au),T=GG 82 [(1,(p2 row .shared)),(7,.eB),(10,(.ptr 1 0)),(39,(p2 row .shared)),(40,(hP (row.length:Int))),(41,(hP s1))]∧H=(bA::au.cells (s2.map hP)::Np)∧OB row p9 m s1 s2=some v) p6 ⟨s1,s2,[],rfl,rfl,h⟩ ?_;clear h bX;rintro m T H ⟨s1,s2,Np,rfl,rfl,h⟩;cases m
 ·exact qT h
 rename_i m;rw [OB.eq_2] at h;conv=>whnf
 refine bs h (fun rk h=>?_) fun rk h=>?_
 ·rw [rk];conv=>whnf
  refine qj h id fun qM h=>?_;rw [qU pY 2 ql row s1 qM];conv=>whnf
  refine DW (x:=au.cells [(hP (0:Int)),(hP (0:Int))]) (by first | exact qh.h | rfl | (simp [sb,I.settle];done)) ?_
  conv=>whnf
  rw [q5];refine DW (x:=au.cells [(hP (ix row s1).1),(hP (ix row s1).2)]) (by first | exact qh.h | rfl | (simp [sb,I.settle];done)) ?_
  conv=>whnf
  obtain ⟨qP,h⟩:=qn h;refine ⟨⟨qP.1,qP.2.1⟩,?_⟩;replace qP:0≤(ix row s1).1∧(ix row s1).1<(s2.length:Int):=⟨qP.1,by have:=qP.2;omega⟩;conv=>whnf
  refine Kc hP s2 ((ix row s1).1) qP ?_;conv=>whnf
  refine bs h (fun q3 h=>?_) fun q3 h=>?_
  ·rw [q3];(conv=>whnf);exact p7 h jw rfl rfl
  ·rw [q3];(conv=>whnf);refine DW (x:=au.cells [(hP (ix row s1).1),(hP (ix row s1).2)]) (by first | exact qh.h | rfl | (simp [sb,I.settle];done)) ?_
   (conv=>whnf);obtain ⟨qG,h⟩:=qn h;refine ⟨⟨qG.1,qG.2.1⟩,?_⟩;replace qG:0≤(ix row s1).1∧(ix row s1).1<(s2.length:Int):=⟨qG.1,by have:=qG.2;omega⟩;(conv=>whnf);refine KY hP s2 ((ix row s1).1) (1:Int) qG ?_;(conv=>whnf);exact ⟨m,sf m,(w (s1+(1:Int))),(s2.set ((ix row s1).1).toNat (1:Int)),_,rfl,rfl,h⟩
 ·rw [rk];conv=>whnf
  exact q7 _ _ _ h ⟨rfl,rfl⟩
theorem aj1 {row:p_} {qq:Unit→Option (Int×Int×Int)} {s3:Int} {Gy:p8} {bR:qb} {v:(Int×Int×Int)} {Q:qY} {bA:au}  (jw:qv [.tmp 4,.tmp 5,.tmp 6] Q (fun v=>(.tuple [(hP v.1),(hP v.2.1),(hP v.2.2)])) v) (Hk:∀ (h_:au) (qs:List au) (p4:List I),qq ()=some v→qI 82 [(1,(p2 row .shared)),(7,(.bU [(hP bR.1),(p2 bR.2 .shared)]))] p4→Q (.exit 1) p4 (bA::h_::qs)) {T:List I} (bX:eQ (Ez false [1,1,5,1,2,1,28,3,40]) T=GG 82 [(1,(p2 row .shared)),(7,(.bU [(hP bR.1),(p2 bR.2 .shared)])),(10,(.ptr 1 0)),(39,(p2 row .shared)),(40,(hP (row.length:Int))),(41,(hP s3))]) (h:LU row qq p6 s3 Gy=some v) :
  dB Tryz.prog Nr 18 0 none Nd T [bA,au.cells (Gy.map hP)] Q:=by
 unfold Nd;refine wp_loop bX ?_;refine .intro (fun m T H=>∃ (s3:Int) (Gy:p8) (Np:List au),T=GG 82 [(1,(p2 row .shared)),(7,(.bU [(hP bR.1),(p2 bR.2 .shared)])),(10,(.ptr 1 0)),(39,(p2 row .shared)),(40,(hP (row.length:Int))),(41,(hP s3))]∧H=(bA::au.cells (Gy.map hP)::Np)∧LU row qq m s3 Gy=some v) p6 ⟨s3,Gy,[],rfl,rfl,h⟩ ?_;clear h bX;rintro m T H ⟨s3,Gy,Np,rfl,rfl,h⟩;cases m
 ·exact qT h
 rename_i m;rw [LU.eq_2] at h;conv=>whnf
 refine bs h (fun Ha h=>?_) fun Ha h=>?_
 ·rw [Ha];conv=>whnf
  refine qj h id fun HT h=>?_;rw [qU pY 2 ql row s3 HT];conv=>whnf
  refine DW (x:=au.cells [(hP (0:Int)),(hP (0:Int))]) (by first | exact qh.h | rfl | (simp [sb,I.settle];done)) ?_
  conv=>whnf
  rw [q5];refine DW (x:=au.cells [(hP (ix row s3).1),(hP (ix row s3).2)]) (by first | exact qh.h | rfl | (simp [sb,I.settle];done)) ?_
  conv=>whnf
  obtain ⟨GU,h⟩:=qn h;refine ⟨⟨GU.1,GU.2.1⟩,?_⟩;replace GU:0≤(ix row s3).1∧(ix row s3).1<(Gy.length:Int):=⟨GU.1,by have:=GU.2;omega⟩;conv=>whnf
  refine Kc hP Gy ((ix row s3).1) GU ?_;conv=>whnf
  refine bs h (fun Ix h=>?_) fun Ix h=>?_
  ·rw [Ix];(conv=>whnf);exact p7 h jw rfl rfl
  ·rw [Ix];(conv=>whnf);refine DW (x:=au.cells [(hP (ix row s3).1),(hP (ix row s3).2)]) (by first | exact qh.h | rfl | (simp [sb,I.settle];done)) ?_
   (conv=>whnf);obtain ⟨HU,h⟩:=qn h;refine ⟨⟨HU.1,HU.2.1⟩,?_⟩;replace HU:0≤(ix row s3).1∧(ix row s3).1<(Gy.length:Int):=⟨HU.1,by have:=HU.2;omega⟩;(conv=>whnf);refine KY hP Gy ((ix row s3).1) (1:Int) HU ?_;(conv=>whnf);exact ⟨m,sf m,(w (s3+(1:Int))),(Gy.set ((ix row s3).1).toNat (1:Int)),_,rfl,rfl,h⟩
 ·rw [Ha];conv=>whnf
  exact Hk _ _ _ h ⟨rfl,rfl⟩
theorem aj2 {row:p_} {bR:qb} {q2:Int→Option (Int×Int×Int)} {qe:Int} {qi:Int} {r4:(Int×Int)} {v:(Int×Int×Int)} {Q:qY} {bA:au} {h_:au} {qs:List au} (jw:qv [.tmp 4,.tmp 5,.tmp 6] Q (fun v=>(.tuple [(hP v.1),(hP v.2.1),(hP v.2.2)])) v) (IP:∀ (xZ:Int) (qs:List au) (p4:List I),q2 xZ=some v→qI 82 [(13,(hP r4.1)),(15,(hP xZ))] p4→Q (.exit 3) p4 (bA::h_::qs)) {T:List I} (bX:eQ (Ez false [7,1,5,1,1,1,47,3,16]) T=GG 82 [(7,(.bU [(hP bR.1),(p2 bR.2 .shared)])),(13,(hP r4.1)),(15,(hP qe)),(63,(p2 row .shared)),(64,(hP (row.length:Int))),(65,(hP qi))]) (h:LV row bR q2 p6 qe qi=some v) :
  dB Tryz.prog Nr 18 0 none QO T (bA::h_::qs) Q:=by
 unfold QO;refine wp_loop bX ?_;refine .intro (fun m T H=>∃ (qe qi:Int) (Vf:List au),T=GG 82 [(7,(.bU [(hP bR.1),(p2 bR.2 .shared)])),(13,(hP r4.1)),(15,(hP qe)),(63,(p2 row .shared)),(64,(hP (row.length:Int))),(65,(hP qi))]∧H=(bA::h_::Vf)∧LV row bR q2 m qe qi=some v) p6 ⟨qe,qi,qs,rfl,rfl,h⟩ ?_;clear h bX;rintro m T H ⟨qe,qi,Vf,rfl,rfl,h⟩;cases m
 ·exact qT h
 rename_i m;rw [LV.eq_2] at h;conv=>whnf
 refine bs h (fun Ia h=>?_) fun Ia h=>?_
 ·rw [Ia];conv=>whnf
  refine qj h id fun I9 h=>?_;rw [qU pY 2 ql row qi I9];conv=>whnf
  refine DW (x:=au.cells [(hP (0:Int)),(hP (0:Int))]) (by first | exact qh.h | rfl | (simp [sb,I.settle];done)) ?_
  conv=>whnf
  rw [q5];refine DW (x:=au.cells [(hP (ix row qi).1),(hP (ix row qi).2)]) (by first | exact qh.h | rfl | (simp [sb,I.settle];done)) ?_
  conv=>whnf
  obtain ⟨q8,I_,h⟩:=qa h;refine ⟨qc.pl,_,JL I_,?_⟩;conv=>whnf
  refine bs h (fun Ib h=>?_) fun Ib h=>?_
  ·rw [Ib];(conv=>whnf);exact p7 h jw rfl rfl
  ·rw [Ib];(conv=>whnf);exact ⟨m,sf m,q8.2,(w (qi+(1:Int))),_,rfl,rfl,h⟩
 ·rw [Ia];conv=>whnf
  exact IP _ _ _ h ⟨rfl,rfl⟩
theorem LW {b:qb} {row:p_} {v:(Int×Int×Int)} (h:Jl b row=some v):qp 18 [(.agg [(hP b.1),(.ay (b.2.flatMap pY) b.2.length .shared)]),(.ay (row.flatMap pY) row.length .shared)] (.tuple [(hP v.1),(hP v.2.1),(hP v.2.2)]):=by
 refine qN dH afI rfl (Ih (pZ rfl (pZ rfl (pZ rfl rfl)))) fun Q bl=>?_;have jw:qv [.tmp 4,.tmp 5,.tmp 6] Q (fun v=>(.tuple [(hP v.1),(hP v.2.1),(hP v.2.2)])) v:=fun T H bI=>bl _ T H bI;unfold Jl at h;unfold aaz;obtain ⟨Hd,qy⟩:∃ c,Nd=c:=⟨_,rfl⟩;rw [qy];obtain ⟨I3,ru⟩:∃ c,QO=c:=⟨_,rfl⟩;rw [ru];conv=>whnf
 obtain ⟨r1,eT,h⟩:=qa h;rcases r1 with ⟨_ | bR,q1⟩
 ·refine ⟨qc.pl,_,IH eT,?_⟩;conv=>whnf
  refine bs h (fun fj h=>?_) fun fj h=>?_
  ·rw [fj];(conv=>whnf);exact p7 h jw rfl rfl
  ·rw [fj];(conv=>whnf);refine bs h (fun qk h=>?_) fun qk h=>?_
   ·rw [qk];(conv=>whnf);exact p7 h jw rfl rfl
   ·rw [qk];(conv=>whnf);obtain ⟨r2,qw,h⟩:=qa h;refine ⟨_,_,Is (cs:=[(p2 row .shared),(.func 65 [] [(.bU [(hP b.1),(p2 b.2 .shared)])])]) (bs:=[(p2 row .shared),(.func 65 [] [(.bU [(hP b.1),(p2 b.2 .shared)])])]) (rn rfl (rn (Kg rQ (rn (Ji (cs:=[(hP b.1),(p2 b.2 .shared)]) (by first | exact qh.h | rfl | (simp [sb,I.settle];done)) rfl) rQ)) rQ)) (by rfl) (by exact (pZ (qX (fun _=>(pZ rfl (pZ rfl rfl))) _ _ _) (pZ (JB rfl (pZ (ra (pZ rfl (pZ (qX (fun _=>(pZ rfl (pZ rfl rfl))) _ _ _) rfl))) rfl)) rfl))) (Z5 ⟨(pZ (ra (pZ rfl (pZ (qX (fun _=>(pZ rfl (pZ rfl rfl))) _ _ _) rfl))) rfl),by simp⟩ (fun _ _ a0=>Z4 a0) qw) rfl,?_⟩
    (conv=>whnf);cases r2
    ·(conv=>whnf);replace h:=GV rfl h;refine ⟨_,_,fun C=>Xz rfl (e:=3) (len:=10) (by kernel_rfl) (by kernel_rfl) (by decide),?_⟩;(conv=>whnf);obtain ⟨qC,h⟩:=qn h;refine ⟨_,_,fun C=>(Te rfl).trans (V_ (e:=3) (l:=(List.replicate 10 (0:Int))) (by kernel_rfl) (by kernel_rfl) (by kernel_rfl) (sq _) (by first | exact qh.h | rfl | (simp [sb,I.settle];done)) qC),?_⟩
     (conv=>whnf);subst qy;refine aj0 ?_ ?_ (by exact rfl) h
     ·exact fun T H bI=>jw T H bI
     ·intro bQ qs p4 h qf;obtain ⟨qE,rfl⟩:=qf.ex;(conv=>whnf);refine qj h id fun rE h=>?_;rw [qU pY 2 ql row (0:Int) rE];(conv=>whnf);exact qT h
    ·(conv=>whnf);replace h:=GX rfl h;exact p7 h jw rfl rfl
 ·refine ⟨qc.pl,_,IH eT,?_⟩;conv=>whnf
  refine bs h (fun rh h=>?_) fun rh h=>?_
  ·rw [rh];(conv=>whnf);exact p7 h jw rfl rfl
  ·rw [rh];(conv=>whnf);refine bs h (fun rm h=>?_) fun rm h=>?_
   ·rw [rm];(conv=>whnf);exact p7 h jw rfl rfl
   ·rw [rm];(conv=>whnf);obtain ⟨r3,rM,h⟩:=qa h;refine ⟨_,_,Is (cs:=[(p2 row .shared),(.func 65 [] [(.bU [(hP b.1),(p2 b.2 .shared)])])]) (bs:=[(p2 row .shared),(.func 65 [] [(.bU [(hP b.1),(p2 b.2 .shared)])])]) (rn rfl (rn (Kg rQ (rn (Ji (cs:=[(hP b.1),(p2 b.2 .shared)]) (by first | exact qh.h | rfl | (simp [sb,I.settle];done)) rfl) rQ)) rQ)) (by rfl) (by exact (pZ (qX (fun _=>(pZ rfl (pZ rfl rfl))) _ _ _) (pZ (JB rfl (pZ (ra (pZ rfl (pZ (qX (fun _=>(pZ rfl (pZ rfl rfl))) _ _ _) rfl))) rfl)) rfl))) (Z5 ⟨(pZ (ra (pZ rfl (pZ (qX (fun _=>(pZ rfl (pZ rfl rfl))) _ _ _) rfl))) rfl),by simp⟩ (fun _ _ a0=>Z4 a0) rM) rfl,?_⟩
    (conv=>whnf);cases r3
    ·(conv=>whnf);replace h:=GV rfl h;refine ⟨_,_,fun C=>Xz rfl (e:=3) (len:=10) (by kernel_rfl) (by kernel_rfl) (by decide),?_⟩;(conv=>whnf);obtain ⟨Iw,h⟩:=qn h;refine ⟨_,_,fun C=>(Te rfl).trans (V_ (e:=3) (l:=(List.replicate 10 (0:Int))) (by kernel_rfl) (by kernel_rfl) (by kernel_rfl) (sq _) (by first | exact qh.h | rfl | (simp [sb,I.settle];done)) Iw),?_⟩
     (conv=>whnf);subst qy;refine aj1 ?_ ?_ (by exact rfl) h
     ·exact fun T H bI=>jw T H bI
     ·intro h_ qs p4 h qf;obtain ⟨qE,rfl⟩:=qf.ex;(conv=>whnf);refine qj h id fun Lu h=>?_;rw [qU pY 2 ql row (0:Int) Lu];(conv=>whnf);obtain ⟨r4,Jt,h⟩:=qa h;refine ⟨qc.pl,_,JL Jt,?_⟩;(conv=>whnf);subst ru;refine aj2 ?_ ?_ (by exact rfl) h
      ·exact fun T H bI=>jw T H bI
      ·intro xZ qs p4 h qf;obtain ⟨qE,rfl⟩:=qf.ex;(conv=>whnf);exact p7 h jw rfl rfl
    ·(conv=>whnf);replace h:=GX rfl h;exact p7 h jw rfl rfl

noncomputable def QS:ey :=
 .loop (some (Ez false [1,1,1,1,49])) (.seq (Gz [Gn 19 3,gL 20 [.sl 1] (.oP 1),Gl 21 20,Gk 22 21,F1 23 19 22 .lss] (.cond (.sl 23) .skip (.exit 0))) (.seq (.block 1 (Gz [gL 26 [.sl 1] (.oP 1),Gl 27 26,Gn 28 3,Gh 29 27 28 2,gL 30 [.hJ 29] (.pT (.str 2)),gL 4 [] (.alloc [.int .i64 0,.int .i64 0]),⟨none,[.sl 4,.hG 30],none,none,.st 2⟩] (Gz [gL 31 [.sl 4] (.oP 0),Gl 32 31,F0 33 32 0 .lss,Gp 34 33,cP 35 [.sl 4] 34 false (.oP 0),cP 36 [.hJ 35] 34 false (.pT .one),cP 37 [.sl 1] 34 false (.oP 0),cP 38 [.hJ 37] 34 false (.pT .one),cP 39 [.hJ 36,.hJ 38] 34 false (.bin .geq),gL 40 [.hJ 34,.iA (.bool true),.hJ 39] .pick,Gp 41 40,cP 42 [.sl 4] 41 false (.oP 1),cP 43 [.hJ 42] 41 false (.pT .one),cP 44 [.hJ 43,.iA (.int .i64 0)] 41 false (.bin .lss),gL 45 [.hJ 41,.iA (.bool true),.hJ 44] .pick,Gp 46 45,cP 47 [.hJ 4] 46 false (.oP 1),cP 48 [.hJ 47] 46 false (.pT .one),cP 49 [.sl 1] 46 false (.oP 0),cP 50 [.hJ 49] 46 false (.pT .one),cP 51 [.hJ 48,.hJ 50] 46 false (.bin .geq),gL 52 [.hJ 46,.iA (.bool true),.hJ 51] .pick] (.cond (.sl 52) (Gz [Gm 2 3] .ret) .skip)))) (Gs [Gp 24 3,FZ 25 24 1,Gp 3 25])))
noncomputable def aaC:ey :=
 Gz [gL 1 [.hG 0] .box,Gm 2 0] (.seq (Gz [gL 5 [.sl 1] (.oP 0),Gl 6 5,F0 7 6 1 .lss,Gp 8 7,cP 9 [.sl 1] 8 false (.oP 0),cP 10 [.hJ 9] 8 false (.pT .one),cP 11 [.hJ 10,.iA (.int .i64 6)] 8 false (.bin .gtr),gL 12 [.hJ 8,.iA (.bool true),.hJ 11] .pick,Gp 13 12,cP 14 [.sl 1] 13 false (.oP 1),cP 15 [.hJ 14] 13 false (.pT .one),cP 16 [.hG 15] 13 false .pV,cP 17 [.hJ 16,.iA (.int .i64 10)] 13 false (.bin .gtr),gL 18 [.hJ 13,.iA (.bool true),.hJ 17] .pick] (.cond (.sl 18) (Gz [Gm 2 6] .ret) .skip)) (.seq (Gz [Gm 3 0] (.block 0 QS)) (Gz [Gm 2 0] .ret)))
theorem afL:zf Tryz.prog Rl 21=some (aaC,53,[.tmp 2]):=by kernel_rfl
def L0 (b:qb) (p9:Unit→Option Int):Nat→Int→Option Int
 | 0,_=>none
 | m+1,s1 =>
   if (decide (s1<(b.2.length:Int)))=true then
    p5 (0≤s1∧s1<(b.2.length:Int)) <|
    if (decide ((ix b.2 s1).1<(0:Int)))=true then
     some (3:Int)
    else
     if (decide (b.1≤(ix b.2 s1).1))=true then
      some (3:Int)
     else
      if (decide ((ix b.2 s1).2<(0:Int)))=true then
       some (3:Int)
      else
       if (decide (b.1≤(ix b.2 s1).2))=true then
        some (3:Int)
       else
        L0 b p9 m (w (s1+(1:Int)))
   else
    p9 ()
def Jm (b:qb):Option Int :=
 if (decide (b.1<(1:Int)))=true then
  some (6:Int)
 else
  if (decide ((6:Int)<b.1))=true then
   some (6:Int)
  else
   if (decide ((10:Int)<(b.2.length:Int)))=true then
    some (6:Int)
   else
    L0 b (fun _ =>
      some (0:Int)) p6 (0:Int)
theorem aj6 {b:qb} {p9:Unit→Option Int} {s1:Int} {v:Int} {Q:qY}   (jw:qv [.tmp 2] Q (fun v=>(hP v)) v) (q7:∀ (bA:au) (qs:List au) (p4:List I),p9 ()=some v→qI 53 [] p4→Q (.exit 0) p4 (bA::qs)) {T:List I} (bX:eQ (Ez false [1,1,1,1,49]) T=GG 53 [(1,(.ptr 0 0)),(3,(hP s1))]) (h:L0 b p9 p6 s1=some v) :
  dB Tryz.prog Rl 21 0 none QS T [rz b] Q:=by
 unfold QS;refine wp_loop bX ?_;refine .intro (fun m T H=>∃ (s1:Int) (Vg:List au),T=GG 53 [(1,(.ptr 0 0)),(3,(hP s1))]∧H=(rz b::Vg)∧L0 b p9 m s1=some v) p6 ⟨s1,[],rfl,rfl,h⟩ ?_;clear h bX;rintro m T H ⟨s1,Vg,rfl,rfl,h⟩;cases m
 ·exact qT h
 rename_i m;rw [L0.eq_2] at h;conv=>whnf
 refine bs h (fun qw h=>?_) fun qw h=>?_
 ·rw [qw];conv=>whnf
  refine qj h id fun qC h=>?_;rw [qU pY 2 ql b.2 s1 qC];conv=>whnf
  refine DW (x:=au.cells [(hP (0:Int)),(hP (0:Int))]) (by first | exact qh.h | rfl | (simp [sb,I.settle];done)) ?_
  conv=>whnf
  rw [q5];refine DW (x:=au.cells [(hP (ix b.2 s1).1),(hP (ix b.2 s1).2)]) (by first | exact qh.h | rfl | (simp [sb,I.settle];done)) ?_
  conv=>whnf
  refine bs h (fun rk h=>?_) fun rk h=>?_
  ·rw [rk];(conv=>whnf);exact p7 h jw rfl rfl
  ·rw [rk];(conv=>whnf);refine DW (x:=au.cells [(hP (ix b.2 s1).1),(hP (ix b.2 s1).2)]) (by first | exact qh.h | rfl | (simp [sb,I.settle];done)) ?_
   (conv=>whnf);refine bs h (fun qM h=>?_) fun qM h=>?_
   ·rw [qM];(conv=>whnf);exact p7 h jw rfl rfl
   ·rw [qM];(conv=>whnf);refine DW (x:=au.cells [(hP (ix b.2 s1).1),(hP (ix b.2 s1).2)]) (by first | exact qh.h | rfl | (simp [sb,I.settle];done)) ?_
    (conv=>whnf);refine bs h (fun qP h=>?_) fun qP h=>?_
    ·rw [qP];(conv=>whnf);exact p7 h jw rfl rfl
    ·rw [qP];(conv=>whnf);refine DW (x:=au.cells [(hP (ix b.2 s1).1),(hP (ix b.2 s1).2)]) (by first | exact qh.h | rfl | (simp [sb,I.settle];done)) ?_
     (conv=>whnf);refine bs h (fun q3 h=>?_) fun q3 h=>?_
     ·rw [q3];(conv=>whnf);exact p7 h jw rfl rfl
     ·rw [q3];(conv=>whnf);exact ⟨m,sf m,(w (s1+(1:Int))),_,rfl,rfl,h⟩
 ·rw [qw];conv=>whnf
  exact q7 _ _ _ h ⟨rfl,rfl⟩
theorem OC {b:qb} {v:Int} (h:Jm b=some v):qp 21 [(.agg [(hP b.1),(.ay (b.2.flatMap pY) b.2.length .shared)])] (hP v):=by
 refine qN dH afL rfl rfl fun Q bl=>?_;have jw:qv [.tmp 2] Q (fun v=>(hP v)) v:=fun T H bI=>bl _ T H bI;unfold Jm at h;unfold aaC;obtain ⟨Hd,qy⟩:∃ c,QS=c:=⟨_,rfl⟩;rw [qy];conv=>whnf
 refine bs h (fun eT h=>?_) fun eT h=>?_
 ·rw [eT];conv=>whnf
  exact p7 h jw rfl rfl
 ·rw [eT];conv=>whnf
  refine bs h (fun fj h=>?_) fun fj h=>?_
  ·rw [fj];(conv=>whnf);exact p7 h jw rfl rfl
  ·rw [fj];(conv=>whnf);refine bs h (fun qk h=>?_) fun qk h=>?_
   ·rw [qk];(conv=>whnf);exact p7 h jw rfl rfl
   ·rw [qk];(conv=>whnf);subst qy;refine aj6 ?_ ?_ (by exact rfl) h
    ·exact fun T H bI=>jw T H bI
    ·intro bA qs p4 h qf;obtain ⟨qE,rfl⟩:=qf.ex;(conv=>whnf);exact p7 h jw rfl rfl

noncomputable def aaQ:ey :=
 Gz [gL 2 [.hG 0] .box,gL 3 [.hG 1] .box,Gm 4 0] (.seq (Gz [gL 5 [.sl 3] (.oP 1),Gl 6 5,F0 7 6 1 .eql] (.cond (.sl 7) (Gz [F6 8 2 1,Gl 9 8,F6 10 3 0,Gl 11 10,Gh 12 9 11 2,F6 13 12 1,Gl 14 13,Gp 4 14] .ret) .skip)) (Gz [F6 15 2 1,Gl 16 15,F6 17 3 0,Gl 18 17,Gh 19 16 18 2,F6 20 19 0,Gl 21 20,Gp 4 21] .ret))
theorem afZ:zf Tryz.prog VF 57=some (aaQ,22,[.tmp 4]):=by kernel_rfl
def M6 (b:qb) (p:(Int×Int)):Option Int :=
 if (decide (p.2=(1:Int)))=true then
  p5 (0≤p.1∧p.1<(b.2.length:Int)) <|
  some ((ix b.2 p.1).2)
 else
  p5 (0≤p.1∧p.1<(b.2.length:Int)) <|
  some ((ix b.2 p.1).1)
theorem Z3 {b:qb} {p:(Int×Int)} {v:Int} (h:M6 b p=some v):qp 57 [(.agg [(hP b.1),(.ay (b.2.flatMap pY) b.2.length .shared)]),(.agg [(hP p.1),(hP p.2)])] (hP v):=by
 refine qN dH afZ rfl rfl fun Q bl=>?_;have jw:qv [.tmp 4] Q (fun v=>(hP v)) v:=fun T H bI=>bl _ T H bI;unfold M6 at h;unfold aaQ;conv=>whnf
 refine bs h (fun eT h=>?_) fun eT h=>?_
 ·rw [eT];conv=>whnf
  refine qj h id fun fj h=>?_;rw [qU pY 2 ql b.2 p.1 fj];conv=>whnf
  exact p7 h jw rfl rfl
 ·rw [eT];conv=>whnf
  refine qj h id fun qk h=>?_;rw [qU pY 2 ql b.2 p.1 qk];conv=>whnf
  exact p7 h jw rfl rfl

noncomputable def Q4:ey :=
 .loop (some (Ez false [0,2,3,1,13])) (.seq (Gz [Gn 6 5,Gn 7 0,Gk 8 7,F1 9 6 8 .lss] (.cond (.sl 9) .skip (.exit 0))) (.seq (.block 1 (Gz [Gn 12 0,Gn 13 5,Gh 14 12 13 2,F6 15 14 0,Gl 16 15,Gn 17 1,F1 18 16 17 .eql] (.cond (.sl 18) (Gz [gL 4 [.iA (.bool true)] .iQ] .ret) .skip))) (Gs [Gp 10 5,FZ 11 10 1,Gp 5 11])))
noncomputable def aaW:ey :=
 Gz [gL 4 [.iA (.bool false)] .iQ] (.seq (Gz [Gm 5 0] (.block 0 Q4)) (Gz [gL 4 [.iA (.bool false)] .iQ] .ret))
theorem af5:zf Tryz.prog Rq 69=some (aaW,19,[.tmp 4]):=by kernel_rfl
def L9 (row:p_) (rN:Int) (p9:Unit→Option Bool):Nat→Int→Option Bool
 | 0,_=>none
 | m+1,s1 =>
   if (decide (s1<(row.length:Int)))=true then
    p5 (0≤s1∧s1<(row.length:Int)) <|
    if (decide ((ix row s1).1=rN))=true then
     some true
    else
     L9 row rN p9 m (w (s1+(1:Int)))
   else
    p9 ()
def M9 (row:p_) (rN:Int):Option Bool :=
 L9 row rN (fun _ =>
   some false) p6 (0:Int)
theorem akC {row:p_} {rN:Int} {p9:Unit→Option Bool} {s1:Int} {v:Bool} {Q:qY}   (jw:qv [.tmp 4] Q (fun v=>(B v)) v) (q7:∀ (p4:List I),p9 ()=some v→qI 19 [] p4→Q (.exit 0) p4 []) {T:List I} (bX:eQ (Ez false [0,2,3,1,13]) T=GG 19 [(0,(p2 row .shared)),(1,(hP rN)),(5,(hP s1))]) (h:L9 row rN p9 p6 s1=some v) :
  dB Tryz.prog Rq 69 0 none Q4 T [] Q:=by
 unfold Q4;refine wp_loop bX ?_;refine .intro (fun m T H=>∃ (s1:Int),T=GG 19 [(0,(p2 row .shared)),(1,(hP rN)),(5,(hP s1))]∧H=[]∧L9 row rN p9 m s1=some v) p6 ⟨s1,rfl,rfl,h⟩ ?_;clear h bX;rintro m T H ⟨s1,rfl,rfl,h⟩;cases m
 ·exact qT h
 rename_i m;rw [L9.eq_2] at h;conv=>whnf
 refine bs h (fun eT h=>?_) fun eT h=>?_
 ·rw [eT];conv=>whnf
  refine qj h id fun fj h=>?_;rw [qU pY 2 ql row s1 fj];conv=>whnf
  refine bs h (fun qk h=>?_) fun qk h=>?_
  ·rw [qk];(conv=>whnf);exact p7 h jw rfl rfl
  ·rw [qk];(conv=>whnf);exact ⟨m,sf m,(w (s1+(1:Int))),rfl,rfl,h⟩
 ·rw [eT];conv=>whnf
  exact q7  _ h ⟨rfl,rfl⟩
theorem UU {row:p_} {rN:Int} {v:Bool} (h:M9 row rN=some v):qp 69 [(.ay (row.flatMap pY) row.length .shared),(hP rN)] (B v):=by
 refine qN dH af5 rfl rfl fun Q bl=>?_;have jw:qv [.tmp 4] Q (fun v=>(B v)) v:=fun T H bI=>bl _ T H bI;unfold M9 at h;unfold aaW;obtain ⟨Hd,qy⟩:∃ c,Q4=c:=⟨_,rfl⟩;rw [qy];conv=>whnf
 subst qy;refine akC ?_ ?_ (by exact rfl) h
 ·exact fun T H bI=>jw T H bI
 ·intro  p4 h qf;obtain ⟨qE,rfl⟩:=qf.ex;conv=>whnf
  exact p7 h jw rfl rfl

noncomputable def aaX:ey :=
 Gz [gL 2 [.hG 0] .box,gL 3 [.hG 1] .box,Gm 4 0] (.seq (Gz [gL 5 [.sl 3] (.oP 1),Gl 6 5,F0 7 6 1 .eql] (.cond (.sl 7) (Gz [F6 8 2 1,Gl 9 8,F6 10 3 0,Gl 11 10,Gh 12 9 11 2,F6 13 12 0,Gl 14 13,Gp 4 14] .ret) .skip)) (Gz [F6 15 2 1,Gl 16 15,F6 17 3 0,Gl 18 17,Gh 19 16 18 2,F6 20 19 1,Gl 21 20,Gp 4 21] .ret))
theorem af6:zf Tryz.prog VL 70=some (aaX,22,[.tmp 4]):=by kernel_rfl
def M_ (b:qb) (p:(Int×Int)):Option Int :=
 if (decide (p.2=(1:Int)))=true then
  p5 (0≤p.1∧p.1<(b.2.length:Int)) <|
  some ((ix b.2 p.1).1)
 else
  p5 (0≤p.1∧p.1<(b.2.length:Int)) <|
  some ((ix b.2 p.1).2)
theorem Z9 {b:qb} {p:(Int×Int)} {v:Int} (h:M_ b p=some v):qp 70 [(.agg [(hP b.1),(.ay (b.2.flatMap pY) b.2.length .shared)]),(.agg [(hP p.1),(hP p.2)])] (hP v):=by
 refine qN dH af6 rfl rfl fun Q bl=>?_;have jw:qv [.tmp 4] Q (fun v=>(hP v)) v:=fun T H bI=>bl _ T H bI;unfold M_ at h;unfold aaX;conv=>whnf
 refine bs h (fun eT h=>?_) fun eT h=>?_
 ·rw [eT];conv=>whnf
  refine qj h id fun fj h=>?_;rw [qU pY 2 ql b.2 p.1 fj];conv=>whnf
  exact p7 h jw rfl rfl
 ·rw [eT];conv=>whnf
  refine qj h id fun qk h=>?_;rw [qU pY 2 ql b.2 p.1 qk];conv=>whnf
  exact p7 h jw rfl rfl

noncomputable def QP:ey :=
 .loop (some (Ez false [1,2,4,2,94])) (.seq (Gz [Gn 20 8,Gn 21 7,F1 22 20 21 .lss] (.cond (.sl 22) .skip (.exit 0))) (.seq (.block 1 (.seq (Gt [Gn 25 1,Gn 26 8,Gh 27 25 26 2,F6 28 27 0,Gl 29 28,F0 30 29 0 .lss,Gp 31 30,cP 32 [.sl 1] 31 false .iQ,cP 33 [.sl 8] 31 false .iQ,cP 34 [.hJ 32,.hJ 33] 31 false (.pM 2),cP 35 [.hJ 34] 31 false (.oP 0),cP 36 [.hJ 35] 31 false (.pT .one),cP 37 [.sl 2] 31 false (.oP 1),cP 38 [.hJ 37] 31 false (.pT .one),cP 39 [.hG 38] 31 false .pV,cP 40 [.hJ 36,.hJ 39] 31 false (.bin .geq),gL 41 [.sl 31,.iA (.bool true),.hJ 40] .pick,Gp 42 41,cP 43 [.sl 1] 42 false .iQ,cP 44 [.sl 8] 42 false .iQ,cP 45 [.hJ 43,.hJ 44] 42 false (.pM 2),cP 46 [.hJ 45] 42 false (.oP 1),cP 47 [.hJ 46] 42 false (.pT .one),cP 48 [.hJ 47,.iA (.int .i64 0)] 42 false (.bin .lss),gL 49 [.sl 42,.iA (.bool true),.hJ 48] .pick,Gp 50 49,cP 51 [.sl 1] 50 false .iQ,cP 52 [.sl 8] 50 false .iQ,cP 53 [.hJ 51,.hJ 52] 50 false (.pM 2),cP 54 [.hJ 53] 50 false (.oP 1),cP 55 [.hJ 54] 50 false (.pT .one),cP 56 [.hJ 55,.iA (.int .i64 1)] 50 false (.bin .gtr),gL 57 [.sl 50,.iA (.bool true),.hJ 56] .pick]) (.cond (.sl 57) (Gz [Gm 4 0,Gm 5 0,Gm 6 3] .ret) .skip))) (Gs [Gp 23 8,FZ 24 23 1,Gp 8 24])))
noncomputable def QQ:ey :=
 .loop (some (Ez false [1,2,4,1,1,1,93])) (.seq (Gz [Gn 58 9,Gn 59 7,F1 60 58 59 .lss] (.cond (.sl 60) .skip (.exit 2))) (.seq (.block 3 (.seq (Gt [Gn 63 1,Gn 64 9,gL 65 [.hG 63,.hG 64] (.AX 2 false true false),Gn 66 1,Gn 67 9,Gh 68 66 67 2,F6 69 68 0,Gl 70 69,gL 71 [.iA (.func 69 [] []),.sl 65,.sl 70] (.call 3)]) (.cond (.sl 71) (Gz [Gm 4 0,Gm 5 0,Gm 6 11] .ret) .skip))) (Gs [Gp 61 9,FZ 62 61 1,Gp 9 62])))
noncomputable def QR:ey :=
 .loop (some (Ez false [1,2,4,1,2,1,92])) (.seq (Gz [Gn 72 10,Gn 73 7,F1 74 72 73 .lss] (.cond (.sl 74) .skip (.exit 4))) (.seq (.block 5 (.seq (Gt [gL 77 [.sl 2] (.pT (.str 2)),Gn 78 1,Gn 79 10,F0 80 79 1 .sub,Gh 81 78 80 2,gL 82 [.hJ 81] (.pT (.str 2)),gL 83 [.iA (.func 70 [] []),.sl 77,.sl 82] (.call 3),gL 84 [.sl 2] (.pT (.str 2)),Gn 85 1,Gn 86 10,Gh 87 85 86 2,gL 88 [.hJ 87] (.pT (.str 2)),gL 89 [.iA (.func 57 [] []),.sl 84,.sl 88] (.call 3),F1 90 83 89 .neq]) (.cond (.sl 90) (Gz [Gm 4 0,Gm 5 0,Gm 6 27] .ret) .skip))) (Gs [Gp 75 10,FZ 76 75 1,Gp 10 76])))
noncomputable def aaA:ey :=
 Gz [gL 2 [.hG 0] .box,Gm 4 0,Gm 5 0,Gm 6 0] (.seq (Gz [gL 11 [.sl 2] (.pT (.str 2)),gL 12 [.iA (.func 21 [] []),.sl 11] (.call 3),F0 13 12 0 .neq] (.cond (.sl 13) (Gz [gL 14 [.hJ 2] (.pT (.str 2)),gL 15 [.iA (.func 21 [] []),.sl 14] (.call 3),Gm 4 0,Gm 5 0,Gp 6 15] .ret) .skip)) (Gz [Gn 16 1,Gk 17 16,Gp 7 17] (.seq (Gz [Gn 18 7,F0 19 18 0 .eql] (.cond (.sl 19) (Gz [Gm 4 0,Gm 5 0,Gm 6 6] .ret) .skip)) (.seq (Gz [Gm 8 0] (.block 0 QP)) (.seq (Gz [Gm 9 0] (.block 2 QQ)) (.seq (Gz [Gm 10 1] (.block 4 QR)) (.seq (Gt [gL 91 [.sl 2] (.pT (.str 2)),Gn 92 1,gL 93 [.hJ 92,.iA (.int .i64 0)] (.pM 2),gL 94 [.hJ 93] (.pT (.str 2)),gL 95 [.iA (.func 57 [] []),.sl 91,.sl 94] (.call 3),gL 96 [.sl 2] (.pT (.str 2)),Gn 97 1,Gp 98 7,F0 99 98 1 .sub,Gh 100 97 99 2,gL 101 [.hJ 100] (.pT (.str 2)),gL 102 [.iA (.func 70 [] []),.sl 96,.sl 101] (.call 3),Gp 4 95,Gp 5 102,Gm 6 0]) .ret)))))))
theorem afJ:zf Tryz.prog Ns 19=some (aaA,103,[.tmp 4,.tmp 5,.tmp 6]):=by kernel_rfl
def LX (b:qb) (row:p_) (p9:Unit→Option (Int×Int×Int)):Nat→Int→Option (Int×Int×Int)
 | 0,_=>none
 | m+1,s1 =>
   if (decide (s1<(row.length:Int)))=true then
    p5 (0≤s1∧s1<(row.length:Int)) <|
    if (decide ((ix row s1).1<(0:Int)))=true then
     some ((0:Int),(0:Int),(3:Int))
    else
     p5 (0≤s1∧s1<(row.length:Int)) <|
     if (decide ((b.2.length:Int)≤(ix row s1).1))=true then
      some ((0:Int),(0:Int),(3:Int))
     else
      p5 (0≤s1∧s1<(row.length:Int)) <|
      if (decide ((ix row s1).2<(0:Int)))=true then
       some ((0:Int),(0:Int),(3:Int))
      else
       p5 (0≤s1∧s1<(row.length:Int)) <|
       if (decide ((1:Int)<(ix row s1).2))=true then
        some ((0:Int),(0:Int),(3:Int))
       else
        LX b row p9 m (w (s1+(1:Int)))
   else
    p9 ()
def LY (row:p_) (qq:Unit→Option (Int×Int×Int)):Nat→Int→Option (Int×Int×Int)
 | 0,_=>none
 | m+1,s2 =>
   if (decide (s2<(row.length:Int)))=true then
    p5 (0≤s2∧s2≤(row.length:Int)) <|
    p5 (0≤s2∧s2<(row.length:Int)) <|
    (M9 (row.take s2.toNat) ((ix row s2).1)).bind fun r3 =>
    if r3=true then
     some ((0:Int),(0:Int),(11:Int))
    else
     LY row qq m (w (s2+(1:Int)))
   else
    qq ()
def LZ (b:qb) (row:p_) (q2:Unit→Option (Int×Int×Int)):Nat→Int→Option (Int×Int×Int)
 | 0,_=>none
 | m+1,s3 =>
   if (decide (s3<(row.length:Int)))=true then
    p5 (0≤(w (s3-(1:Int)))∧(w (s3-(1:Int)))<(row.length:Int)) <|
    (M_ b (ix row (w (s3-(1:Int))))).bind fun r4 =>
    p5 (0≤s3∧s3<(row.length:Int)) <|
    (M6 b (ix row s3)).bind fun q8 =>
    if (decide (r4≠q8))=true then
     some ((0:Int),(0:Int),(27:Int))
    else
     LZ b row q2 m (w (s3+(1:Int)))
   else
    q2 ()
def K3 (b:qb) (row:p_):Option (Int×Int×Int) :=
 (Jm b).bind fun r1 =>
 if (decide (r1≠(0:Int)))=true then
  (Jm b).bind fun r2 =>
  some ((0:Int),(0:Int),r2)
 else
  if (decide ((row.length:Int)=(0:Int)))=true then
   some ((0:Int),(0:Int),(6:Int))
  else
   LX b row (fun _ =>
     LY row (fun _ =>
       LZ b row (fun _ =>
         p5 (0≤(0:Int)∧(0:Int)<(row.length:Int)) <|
         (M6 b (ix row (0:Int))).bind fun Hu =>
         p5 (0≤(w ((row.length:Int)-(1:Int)))∧(w ((row.length:Int)-(1:Int)))<(row.length:Int)) <|
         (M_ b (ix row (w ((row.length:Int)-(1:Int))))).bind fun HH =>
         some (Hu,HH,(0:Int))) p6 (1:Int)) p6 (0:Int)) p6 (0:Int)
theorem aj3 {b:qb} {row:p_} {p9:Unit→Option (Int×Int×Int)} {s1:Int} {v:(Int×Int×Int)} {Q:qY}   (jw:qv [.tmp 4,.tmp 5,.tmp 6] Q (fun v=>(.tuple [(hP v.1),(hP v.2.1),(hP v.2.2)])) v) (q7:∀ (p4:List I),p9 ()=some v→qI 103 [(1,(p2 row .shared)),(2,(.ptr 0 0)),(7,(hP (row.length:Int)))] p4→Q (.exit 0) p4 [rz b]) {T:List I} (bX:eQ (Ez false [1,2,4,2,94]) T=GG 103 [(1,(p2 row .shared)),(2,(.ptr 0 0)),(7,(hP (row.length:Int))),(8,(hP s1))]) (h:LX b row p9 p6 s1=some v) :
  dB Tryz.prog Ns 19 0 none QP T [rz b] Q:=by
 unfold QP;refine wp_loop bX ?_;refine .intro (fun m T H=>∃ (s1:Int),T=GG 103 [(1,(p2 row .shared)),(2,(.ptr 0 0)),(7,(hP (row.length:Int))),(8,(hP s1))]∧H=[rz b]∧LX b row p9 m s1=some v) p6 ⟨s1,rfl,rfl,h⟩ ?_;clear h bX;rintro m T H ⟨s1,rfl,rfl,h⟩;cases m
 ·exact qT h
 rename_i m;rw [LX.eq_2] at h;conv=>whnf
 refine bs h (fun qC h=>?_) fun qC h=>?_
 ·rw [qC];conv=>whnf
  refine qj h id fun rk h=>?_;rw [qU pY 2 ql row s1 rk];conv=>whnf
  refine bs h (fun qM h=>?_) fun qM h=>?_
  ·rw [qM];(conv=>whnf);exact p7 h jw rfl rfl
  ·rw [qM];(conv=>whnf);refine qj h id fun qP h=>?_;rw [qU pY 2 ql row s1 qP];(conv=>whnf);refine bs h (fun q3 h=>?_) fun q3 h=>?_
   ·rw [q3];(conv=>whnf);exact p7 h jw rfl rfl
   ·rw [q3];(conv=>whnf);refine qj h id fun qG h=>?_;rw [qU pY 2 ql row s1 qG];(conv=>whnf);refine bs h (fun rE h=>?_) fun rE h=>?_
    ·rw [rE];(conv=>whnf);exact p7 h jw rfl rfl
    ·rw [rE];(conv=>whnf);refine qj h id fun rh h=>?_;rw [qU pY 2 ql row s1 rh];(conv=>whnf);refine bs h (fun rm h=>?_) fun rm h=>?_
     ·rw [rm];(conv=>whnf);exact p7 h jw rfl rfl
     ·rw [rm];(conv=>whnf);exact ⟨m,sf m,(w (s1+(1:Int))),rfl,rfl,h⟩
 ·rw [qC];conv=>whnf
  exact q7  _ h ⟨rfl,rfl⟩
theorem aj4 {row:p_} {qq:Unit→Option (Int×Int×Int)} {s2:Int} {b:qb} {v:(Int×Int×Int)} {Q:qY}   (jw:qv [.tmp 4,.tmp 5,.tmp 6] Q (fun v=>(.tuple [(hP v.1),(hP v.2.1),(hP v.2.2)])) v) (Hk:∀ (p4:List I),qq ()=some v→qI 103 [(1,(p2 row .shared)),(2,(.ptr 0 0)),(7,(hP (row.length:Int)))] p4→Q (.exit 2) p4 [rz b]) {T:List I} (bX:eQ (Ez false [1,2,4,1,1,1,93]) T=GG 103 [(1,(p2 row .shared)),(2,(.ptr 0 0)),(7,(hP (row.length:Int))),(9,(hP s2))]) (h:LY row qq p6 s2=some v) :
  dB Tryz.prog Ns 19 0 none QQ T [rz b] Q:=by
 unfold QQ;refine wp_loop bX ?_;refine .intro (fun m T H=>∃ (s2:Int),T=GG 103 [(1,(p2 row .shared)),(2,(.ptr 0 0)),(7,(hP (row.length:Int))),(9,(hP s2))]∧H=[rz b]∧LY row qq m s2=some v) p6 ⟨s2,rfl,rfl,h⟩ ?_;clear h bX;rintro m T H ⟨s2,rfl,rfl,h⟩;cases m
 ·exact qT h
 rename_i m;rw [LY.eq_2] at h;conv=>whnf
 refine bs h (fun rM h=>?_) fun rM h=>?_
 ·rw [rM];conv=>whnf
  refine qj h id fun Iw h=>?_;erw [MW pY 2 ql row s2 Iw];conv=>whnf
  refine qj h id fun Ha h=>?_;rw [qU pY 2 ql row s2 Ha];conv=>whnf
  obtain ⟨r3,HT,h⟩:=qa h;refine ⟨qc.pl,_,UU HT,HM,?_⟩;conv=>whnf
  cases r3
  ·(conv=>whnf);replace h:=GV rfl h;exact ⟨m,sf m,(w (s2+(1:Int))),rfl,rfl,h⟩
  ·(conv=>whnf);replace h:=GX rfl h;exact p7 h jw rfl rfl
 ·rw [rM];conv=>whnf
  exact Hk  _ h ⟨rfl,rfl⟩
theorem aj5 {b:qb} {row:p_} {q2:Unit→Option (Int×Int×Int)} {s3:Int} {v:(Int×Int×Int)} {Q:qY}   (jw:qv [.tmp 4,.tmp 5,.tmp 6] Q (fun v=>(.tuple [(hP v.1),(hP v.2.1),(hP v.2.2)])) v) (IP:∀ (p4:List I),q2 ()=some v→qI 103 [(1,(p2 row .shared)),(2,(.ptr 0 0)),(7,(hP (row.length:Int)))] p4→Q (.exit 4) p4 [rz b]) {T:List I} (bX:eQ (Ez false [1,2,4,1,2,1,92]) T=GG 103 [(1,(p2 row .shared)),(2,(.ptr 0 0)),(7,(hP (row.length:Int))),(10,(hP s3))]) (h:LZ b row q2 p6 s3=some v) :
  dB Tryz.prog Ns 19 0 none QR T [rz b] Q:=by
 unfold QR;refine wp_loop bX ?_;refine .intro (fun m T H=>∃ (s3:Int),T=GG 103 [(1,(p2 row .shared)),(2,(.ptr 0 0)),(7,(hP (row.length:Int))),(10,(hP s3))]∧H=[rz b]∧LZ b row q2 m s3=some v) p6 ⟨s3,rfl,rfl,h⟩ ?_;clear h bX;rintro m T H ⟨s3,rfl,rfl,h⟩;cases m
 ·exact qT h
 rename_i m;rw [LZ.eq_2] at h;conv=>whnf
 refine bs h (fun GU h=>?_) fun GU h=>?_
 ·rw [GU];conv=>whnf
  refine qj h id fun Ix h=>?_;rw [qU pY 2 ql row (w (s3-(1:Int))) Ix];conv=>whnf
  obtain ⟨r4,HU,h⟩:=qa h;refine ⟨qc.pl,_,Z9 HU,HM,?_⟩;conv=>whnf
  refine qj h id fun Lu h=>?_;rw [qU pY 2 ql row s3 Lu];conv=>whnf
  obtain ⟨q8,Jt,h⟩:=qa h;refine ⟨qc.pl,_,Z3 Jt,O7 rfl,?_⟩;conv=>whnf
  refine bs h (fun Ia h=>?_) fun Ia h=>?_
  ·rw [Ia];(conv=>whnf);exact p7 h jw rfl rfl
  ·rw [Ia];(conv=>whnf);exact ⟨m,sf m,(w (s3+(1:Int))),rfl,rfl,h⟩
 ·rw [GU];conv=>whnf
  exact IP  _ h ⟨rfl,rfl⟩
theorem UO {b:qb} {row:p_} {v:(Int×Int×Int)} (h:K3 b row=some v):qp 19 [(.agg [(hP b.1),(.ay (b.2.flatMap pY) b.2.length .shared)]),(.ay (row.flatMap pY) row.length .shared)] (.tuple [(hP v.1),(hP v.2.1),(hP v.2.2)]):=by
 refine qN dH afJ rfl (Ih (pZ rfl (pZ rfl (pZ rfl rfl)))) fun Q bl=>?_;have jw:qv [.tmp 4,.tmp 5,.tmp 6] Q (fun v=>(.tuple [(hP v.1),(hP v.2.1),(hP v.2.2)])) v:=fun T H bI=>bl _ T H bI;unfold K3 at h;unfold aaA;obtain ⟨Hd,qy⟩:∃ c,QP=c:=⟨_,rfl⟩;rw [qy];obtain ⟨I3,ru⟩:∃ c,QQ=c:=⟨_,rfl⟩;rw [ru];obtain ⟨Nt,G'⟩:∃ c,QR=c:=⟨_,rfl⟩;rw [G'];conv=>whnf
 obtain ⟨r1,eT,h⟩:=qa h;refine ⟨qc.pl,_,OC eT,?_⟩;conv=>whnf
 refine bs h (fun fj h=>?_) fun fj h=>?_
 ·rw [fj];conv=>whnf
  obtain ⟨r2,qk,h⟩:=qa h;refine ⟨qc.pl,_,OC qk,?_⟩;conv=>whnf
  exact p7 h jw rfl rfl
 ·rw [fj];conv=>whnf
  refine bs h (fun qw h=>?_) fun qw h=>?_
  ·rw [qw];(conv=>whnf);exact p7 h jw rfl rfl
  ·rw [qw];(conv=>whnf);subst qy;refine aj3 ?_ ?_ (by exact rfl) h
   ·exact fun T H bI=>jw T H bI
   ·intro  p4 h qf;obtain ⟨qE,rfl⟩:=qf.ex;(conv=>whnf);subst ru;refine aj4 ?_ ?_ (by exact rfl) h
    ·exact fun T H bI=>jw T H bI
    ·intro  p4 h qf;obtain ⟨qE,rfl⟩:=qf.ex;(conv=>whnf);subst G';refine aj5 ?_ ?_ (by exact rfl) h
     ·exact fun T H bI=>jw T H bI
     ·intro  p4 h qf;obtain ⟨qE,rfl⟩:=qf.ex;(conv=>whnf);refine qj h id fun I9 h=>?_;rw [qU pY 2 ql row (0:Int) I9];(conv=>whnf);obtain ⟨Hu,I_,h⟩:=qa h;refine ⟨qc.pl,_,Z3 I_,HM,?_⟩;(conv=>whnf);refine qj h id fun Ib h=>?_;rw [qU pY 2 ql row (w ((row.length:Int)-(1:Int))) Ib];(conv=>whnf);obtain ⟨HH,J5,h⟩:=qa h;refine ⟨qc.pl,_,Z9 J5,O7 rfl,?_⟩;(conv=>whnf);exact p7 h jw rfl rfl

def aj7 (b:qb) (row:p_):Option Int :=
 (Jl b row).bind fun r1 =>
 if (decide (r1.2.2≠(0:Int)))=true then
  some r1.2.2
 else
  if (decide ((row.length:Int)<(b.2.length:Int)))=true then
   some (15:Int)
  else
   if (decide (r1.1≠r1.2.1))=true then
    some (27:Int)
   else
    some (0:Int)

def aj8 (b:qb) (row:p_):Option Int :=
 (K3 b row).bind fun r1 =>
 if (decide (r1.2.2≠(0:Int)))=true then
  some r1.2.2
 else
  if (decide ((row.length:Int)≠(b.2.length:Int)))=true then
   some (15:Int)
  else
   if (decide (r1.1≠r1.2.1))=true then
    some (27:Int)
   else
    some (0:Int)

def FV (b:qb) (l:p_):Option Bool :=
 (OA b).bind fun r1 =>
 if r1=true then
  (K2).bind fun r2 =>
  some r2
 else
  if (decide ((14:Int)<(l.length:Int)))=true then
   (K2).bind fun r3 =>
   some r3
  else
   (Jl b l).bind fun r4 =>
   (K3 b l).bind fun q8 =>
   (M3 b).bind fun Hu =>
   (Jm b).bind fun HH =>
   if (decide (Hu=HH))=true then
    if (decide (r4.1=q8.1))=true then
     if (decide (r4.2.1=q8.2.1))=true then
      if (decide (r4.2.2=q8.2.2))=true then
       (aj7 b l).bind fun JD =>
       (aj8 b l).bind fun LK =>
       if (decide (JD=LK))=true then
        (K2).bind fun Hl =>
        some Hl
       else
        some false
      else
       some false
     else
      some false
    else
     some false
   else
    some false
end Go.Proofs.YtfakoboiahbhaaaGreat.Ab


namespace Go.Proofs.YtfakoboiahbhaaaGreat.Ab
open Go
def Ht (lo hi x:Int):Bool:=decide (x<lo) || decide (hi<x)
theorem LI {lo hi x:Int}:Ht lo hi x=false↔lo≤x∧x≤hi:=by
 simp only [Ht,Bool.or_eq_false_iff,decide_eq_false_iff_not];omega
theorem ME {lo hi x:Int}:Ht lo hi x=true↔x<lo∨hi<x:=by
 simp only [Ht,tL,decide_eq_true_eq]
def posOf {α:Type} (p:α→Bool):List α→Nat→Int
 | [],_ => -1
 | x::l,i=>if p x=true then (i:Int) else posOf p l (i+1)
theorem Of {α:Type} (p:α→Bool):∀ (l:List α) (i:Nat),decide (0≤posOf p l i)=l.any p
 | [],_=>rfl
 | x::l,i=>by
   rw [posOf,uQ];by_cases h:p x=true
   ·rw [if_pos h,h];simp
   ·rw [if_neg h,Of p l (i+1)];simp [h]
theorem akT (n lo hi:Int):OS n lo hi=some (Ht lo hi n):=by
 unfold OS Ht;by_cases h:n<lo <;> simp [h]
theorem Zt {s:List Int} {f:Int→Option Bool} {p:Int→Bool} (aQ:∀ x∈s,f x=some (p x)) (ai:s.length≤140737488355328):∀ (m i:Nat) (z:Int),z=i→i≤s.length→s.length-i<m→LS s f (fun _=>some (-1:Int)) m z=some (posOf p (s.drop i) i)
 | 0,i,_,_,_,h=>absurd h (by omega)
 | m+1,i,_,rfl,hi,hm=>by
   rw [LS];by_cases h:i<s.length
   ·rw [Iz h,G7 h,qW h,aQ _ (sD h),r_,sQ h,posOf];by_cases aC:p s[i]=true
    ·rw [if_pos aC,if_pos aC]
    ·rw [if_neg aC,if_neg aC,rj i (by omega),Zt aQ ai m (i+1) _ rfl (by omega) (by omega)]
   ·rw [Iy h,tc (by omega)];rfl
theorem U3 {s:List (Int×Int)} {f:Int×Int→Option Bool} {p:Int×Int→Bool} (aQ:∀ x∈s,f x=some (p x)) (ai:s.length≤140737488355328):∀ (m i:Nat) (z:Int),z=i→i≤s.length→s.length-i<m→Me s f (fun _=>some (-1:Int)) m z=some (posOf p (s.drop i) i)
 | 0,i,_,_,_,h=>absurd h (by omega)
 | m+1,i,_,rfl,hi,hm=>by
   rw [Me];by_cases h:i<s.length
   ·rw [Iz h,G7 h,qW h,aQ _ (sD h),r_,sQ h,posOf];by_cases aC:p s[i]=true
    ·rw [if_pos aC,if_pos aC]
    ·rw [if_neg aC,if_neg aC,rj i (by omega),U3 aQ ai m (i+1) _ rfl (by omega) (by omega)]
   ·rw [Iy h,tc (by omega)];rfl
theorem aan {s:List (Int×Int)} {f:Int×Int→Option Bool} {p:Int×Int→Bool} (aQ:∀ x∈s,f x=some (p x)) (ai:s.length≤140737488355328):∀ (m i:Nat) (z:Int),z=i→i≤s.length→s.length-i<m→Mf s f (fun _=>some (-1:Int)) m z=some (posOf p (s.drop i) i)
 | 0,i,_,_,_,h=>absurd h (by omega)
 | m+1,i,_,rfl,hi,hm=>by
   rw [Mf];by_cases h:i<s.length
   ·rw [Iz h,G7 h,qW h,aQ _ (sD h),r_,sQ h,posOf];by_cases aC:p s[i]=true
    ·rw [if_pos aC,if_pos aC]
    ·rw [if_neg aC,if_neg aC,rj i (by omega),aan aQ ai m (i+1) _ rfl (by omega) (by omega)]
   ·rw [Iy h,tc (by omega)];rfl
theorem U2 {s:List Int} {f:Int→Option Bool} {p:Int→Bool} (aQ:∀ x∈s,f x=some (p x)) (ai:s.length≤140737488355328):JQ s f=some (s.any p):=by
 have:=Zt aQ ai p6 0 0 rfl (sq _) (ri (by omega));rw [sM] at this;rw [JQ,Qp,this,r_,Of]
theorem akB {s:List (Int×Int)} {f:Int×Int→Option Bool} {p:Int×Int→Bool} (aQ:∀ x∈s,f x=some (p x)) (ai:s.length≤140737488355328):M8 s f=some (s.any p):=by
 have:=U3 aQ ai p6 0 0 rfl (sq _) (ri (by omega));rw [sM] at this;rw [M8,Le,this,r_,Of]
theorem akE {s:List (Int×Int)} {f:Int×Int→Option Bool} {p:Int×Int→Bool} (aQ:∀ x∈s,f x=some (p x)) (ai:s.length≤140737488355328):OP s f=some (s.any p):=by
 have:=aan aQ ai p6 0 0 rfl (sq _) (ri (by omega));rw [sM] at this;rw [OP,QI,this,r_,Of]
theorem QC (lo hi:Int) (l:List Int) (ak:l.length≤140737488355328):K_ lo hi l=some (!(l.any (Ht lo hi))):=by
 rw [K_,U2 (p:=Ht lo hi) (fun x _=>akT x lo hi) ak,r_]
def Ik (f:Int) (s:Int×Int):Bool:=Ht 0 (f-1) s.1 || Ht 0 (f-1) s.2
def qK (b:p3):Int:=if b.1<1∨6<b.1∨(10:Int)<(b.2.length:Int) then 6 else if b.2.any (Ik b.1)=true then 3 else 0
structure qu (b:p3):Prop where
 f1:1≤b.1
 f6:b.1≤6
 len:b.2.length≤10
 left:∀ s∈b.2,0≤s.1∧s.1<b.1
 right:∀ s∈b.2,0≤s.2∧s.2<b.1
theorem G8 {b:p3}:qK b=0↔qu b:=by
 unfold qK;constructor
 ·intro h;split at h
  ·omega
  ·rename_i ad;split at h
   ·omega
   ·rename_i af;(have af:b.2.any (Ik b.1)=false:=by simpa using af);rw [uA] at af;have aG:∀ s∈b.2,Ht 0 (b.1-1) s.1=false∧Ht 0 (b.1-1) s.2=false:=fun s ai=>by
     have:=af s ai;unfold Ik at this;simpa using this
    exact ⟨by omega,by omega,by omega,fun s ai=>by have:=LI.1 (aG s ai).1;omega,fun s ai=>by have:=LI.1 (aG s ai).2;omega⟩
 ·intro h;obtain ⟨ad,af,aG,a6,bL⟩:=h;rw [if_neg (by omega),if_neg];rw [Bool.not_eq_true,uA];intro s ai;have a:=a6 s ai;have c:=bL s ai;unfold Ik;rw [LI.2 (by omega),LI.2 (by omega)];decide
theorem Qv (b:p3) (ag:b.2.length≤1000):M3 b=some (qK b):=by
 rw [M3,QC _ _ _ (by simp),r_];unfold qK;simp only [uQ,List.any_nil,Bool.or_false];by_cases h:1≤b.1∧b.1≤6
 ·rw [LI.2 h,if_pos (by decide)];by_cases af:(10:Int)<(b.2.length:Int)
  ·rw [if_pos (decide_eq_true af),if_pos (by omega)]
  ·rw [if_neg (by simpa using af),if_neg (by omega),akE (p:=Ik b.1) (fun s _=>by
    rw [QE,H2 (by omega),QC _ _ _ (by simp),r_]
    simp [Ik]) (by omega),r_]
   cases b.2.any (Ik b.1) <;> rfl
 ·have:Ht 1 6 b.1=true:=by rw [ME];omega
  rw [this,if_neg (by decide),if_pos (by omega)]
theorem ZK {b:p3} (ag:b.2.length≤1000) (aQ:1≤b.1):∀ (m i:Nat) (z:Int),z=i→i≤b.2.length→b.2.length-i<m→L0 b (fun _=>some (0:Int)) m z=some (if (b.2.drop i).any (Ik b.1)=true then 3 else 0)
 | 0,i,_,_,_,h=>absurd h (by omega)
 | m+1,i,_,rfl,hi,hm=>by
   rw [L0];by_cases h:i<b.2.length
   ·rw [Iz h,G7 h,qW h,sQ h,uQ];have e:Ik b.1 b.2[i]=true↔b.2[i].1<0∨b.1≤b.2[i].1∨b.2[i].2<0∨b.1≤b.2[i].2:=by
     unfold Ik;rw [tL,ME,ME];omega
    by_cases ai:Ik b.1 b.2[i]=true
    ·have aX:=e.1 ai;rw [ai,Bool.true_or,if_pos rfl];by_cases aB:b.2[i].1<0
     ·rw [if_pos (decide_eq_true aB)]
     rw [if_neg (by simpa using aB)];by_cases aH:b.1≤b.2[i].1
     ·rw [if_pos (decide_eq_true aH)]
     rw [if_neg (by simpa using aH)];by_cases aR:b.2[i].2<0
     ·rw [if_pos (decide_eq_true aR)]
     rw [if_neg (by simpa using aR),if_pos (decide_eq_true (by omega))]
    ·have aX:=(not_congr e).1 ai;(have gZ:Ik b.1 b.2[i]=false:=by simpa using ai);rw [gZ,vr,if_neg (by simp;omega),if_neg (by simp;omega),if_neg (by simp;omega),if_neg (by simp;omega),rj i (by omega),ZK ag aQ m (i+1) _ rfl (by omega) (by omega)]
   ·rw [Iy h,tc (by omega)];rfl
theorem UP (b:p3) (ag:b.2.length≤1000):Jm b=some (qK b):=by
 rw [Jm];unfold qK;by_cases ad:b.1<1
 ·rw [if_pos (decide_eq_true ad),if_pos (.inl ad)]
 rw [if_neg (by simpa using ad)];by_cases af:6<b.1
 ·rw [if_pos (decide_eq_true af),if_pos (.inr (.inl af))]
 rw [if_neg (by simpa using af)];by_cases aG:(10:Int)<(b.2.length:Int)
 ·rw [if_pos (decide_eq_true aG),if_pos (.inr (.inr aG))]
 rw [if_neg (by simpa using aG),if_neg (by omega),ZK ag (by omega) p6 0 0 rfl (sq _) (ri (by omega)),sM]
abbrev Row:=List (Int×Int)
def rS (b:p3) (p:Int×Int):Bool:=Ht 0 ((b.2.length:Int)-1) p.1 || Ht 0 1 p.2
theorem LO {b:p3} {p:Int×Int}:rS b p=false↔0≤p.1∧p.1<(b.2.length:Int)∧0≤p.2∧p.2≤1:=by
 unfold rS;rw [Bool.or_eq_false_iff,LI,LI];omega
def GQ:Row→Row→Bool
 | _,[]=>false
 | pre,p::r=>if (pre.any fun q=>decide (q.1=p.1))=true then true else GQ (pre++[p]) r
def qm (b:p3):Int→Row→Option Int
 | a,[]=>some a
 | a,p::r=>if qo b p=a then qm b (fin b p) r else none
def qV (b:p3) (row:Row):Int×Int×Int :=
 if qK b≠0 then (0,0,qK b) else match row with
 | []=>(0,0,6)
 | p::r=>if (p::r).any (rS b)=true then (0,0,3) else if GQ [] (p::r)=true then (0,0,11) else match qm b (qo b p) (p::r) with
   | none=>(0,0,27)
   | some a=>(qo b p,a,0)
theorem akA {b:p3} (ag:b.2.length≤1000) (p:Int×Int):M7 p b=some (rS b p):=by
 rw [M7,H2 (by omega),QC _ _ _ (by simp),r_];unfold rS;simp only [uQ,List.any_nil,Bool.or_false];cases Ht 0 ((b.2.length:Int)-1) p.1 with
 | true=>rfl
 | false=>rw [if_pos (by decide),QC _ _ _ (by simp),r_];simp
theorem acu {α:Type} (f:α→Bool) (l:List α) (x:α):(l++[x]).any f=(l.any f || f x):=by simp
theorem Ki {α:Type} {l:List α} {i:Nat} (h:i<l.length):l.take (i+1)=l.take i++[l[i]]:=by
 rw [List.take_add_one,sk h];rfl
theorem LB {t:List Int} {c:Nat} {x:Int} (h:c<t.length):ix (t.set c x) (c:Int)=x:=by unfold ix;simp [sE,h]
theorem Ju {t:List Int} {c j:Nat} {x:Int} (h:j≠c):ix (t.set c x) (j:Int)=ix t (j:Int):=by unfold ix;simp [sE,si (Ne.symm h)]
theorem SX {n:Nat} (j:Int):ix (List.replicate n (0:Int)) j=0:=by
 unfold ix;rw [sE,List.getElem?_replicate];split <;> rfl
theorem ZD {row:Row} {k:Unit→Option (Int×Int×Int)} (aj:row.length≤1000) (gX:∀ p∈row,0≤p.1∧p.1<10):∀ (m i:Nat) (z:Int) (t:List Int),z=i→i≤row.length→row.length-i<m→t.length=10 →
  (∀ j:Nat,j<10→(0<ix t (j:Int)↔((row.take i).any fun q=>decide (q.1=(j:Int)))=true))→LU row k m z t=if GQ (row.take i) (row.drop i)=true then some (0,0,11) else k ()
 | 0,i,_,_,_,_,h,_,_=>absurd h (by omega)
 | m+1,i,_,t,rfl,hi,hm,ax,bX=>by
   rw [LU];by_cases h:i<row.length
   ·have aC:=gX _ (sD h);obtain ⟨c,ao⟩:∃ c:Nat,row[i].1=(c:Int):=⟨row[i].1.toNat,by omega⟩;rw [Iz h,G7 h,qW h,p' ⟨aC.1,aC.2,ax.symm⟩,sQ h,GQ,ao];by_cases al:0<ix t (c:Int)
    ·rw [if_pos (decide_eq_true al),if_pos ((bX c (by omega)).1 al),if_pos rfl]
    ·rw [if_neg (by simpa using al),if_neg (fun e=>al ((bX c (by omega)).2 e)),p' ⟨by omega,by omega,ax.symm⟩,rj i (by omega),
      ZD aj gX m (i+1) _ _ rfl (by omega) (by omega) (by simpa using ax) (fun j aw=>?_),Ki h]
     rw [Ki h,acu,ao];by_cases pj:j=c
     ·subst pj;rw [te,LB (by omega)];simp
     ·rw [te,Ju pj,bX j aw];simp [show ¬ (c:Int)=(j:Int) by omega]
   ·rw [Iy h,tc (by omega)];simp [GQ]
theorem ZE {b:p3} {row:Row} {k:Int→Option (Int×Int×Int)} (aj:row.length≤1000) (gX:∀ p∈row,0≤p.1∧p.1<(b.2.length:Int)):∀ (m i:Nat) (z a:Int),z=i→i≤row.length→row.length-i<m →
  LV row b k m a z=match qm b a (row.drop i) with | none=>some (0,0,27) | some aM=>k aM
 | 0,i,_,_,_,_,h=>absurd h (by omega)
 | m+1,i,_,a,rfl,hi,hm=>by
   rw [LV];by_cases h:i<row.length
   ·rw [Iz h,G7 h,qW h,JK (gX _ (sD h)),r_,sQ h,qm];by_cases ag:qo b row[i]=a
    ·rw [if_pos ag,if_neg (by simp [ag]),rj i (by omega),ZE aj gX m (i+1) _ _ rfl (by omega) (by omega)]
    ·rw [if_neg ag,if_pos (decide_eq_true ag)]
   ·rw [Iy h,tc (by omega)];rfl
theorem Qu (b:p3) (row:Row) (ag:b.2.length≤1000) (aj:row.length≤1000):Jl b row=some (qV b row):=by
 rw [Jl,Im,Qv b ag,r_];unfold qV;by_cases aS:qK b≠0
 ·rw [if_pos (decide_eq_true aS),r_];dsimp only;rw [if_pos (decide_eq_true aS),if_pos aS]
 have p1:=G8.1 (vb.1 aS);rw [if_neg (by simpa using aS),r_,if_neg aS];dsimp only;rw [if_neg (by decide)];cases row with
 | nil=>rfl
 | cons p r =>
   rw [if_neg (by simp;omega),akB (p:=rS b) (fun q _=>akA ag q) (by omega),r_];dsimp only;by_cases ad:(p::r).any (rS b)=true
   ·rw [if_pos ad,if_pos ad]
   rw [if_neg ad,if_neg ad,p' (by simp)];(have iD:(p::r).any (rS b)=false:=by simpa using ad);rw [uA] at iD;have gX:∀ q∈p::r,0≤q.1∧q.1<(b.2.length:Int):=fun q a3=>by
    have:=LO.1 (by simpa using iD q a3);exact ⟨this.1,this.2.1⟩
   have hlen:=p1.len;rw [ZD aj (fun q a3=>by have:=gX q a3;omega) p6 0 0 _ rfl (sq _) (ri (by omega)) (by simp) (fun j aw=>by rw [SX];simp),tq,sM];by_cases af:GQ [] (p::r)=true
   ·rw [if_pos af,if_pos af]
   rw [if_neg af,if_neg af,p' (by simp),show ix (p::r) (0:Int)=p from rfl,JK (gX p (by simp)),r_,ZE aj gX p6 0 0 _ rfl (sq _) (ri (by omega)),sM];cases qm b (qo b p) (p::r) <;> rfl
theorem Z7 {row:Row} {s:Int} (aj:row.length≤1000):∀ (m i:Nat) (z:Int),z=i→i≤row.length→row.length-i<m→L9 row s (fun _=>some false) m z=some ((row.drop i).any fun q=>decide (q.1=s))
 | 0,i,_,_,_,h=>absurd h (by omega)
 | m+1,i,_,rfl,hi,hm=>by
   rw [L9];by_cases h:i<row.length
   ·rw [Iz h,G7 h,qW h,sQ h,uQ];by_cases aC:row[i].1=s
    ·rw [if_pos (decide_eq_true aC)];simp [aC]
    ·rw [if_neg (by simpa using aC),rj i (by omega),Z7 aj m (i+1) _ rfl (by omega) (by omega)];simp [aC]
   ·rw [Iy h,tc (by omega)];rfl
theorem Z6 (row:Row) (s:Int) (aj:row.length≤1000):M9 row s=some (row.any fun q=>decide (q.1=s)):=by
 rw [M9,Z7 aj p6 0 0 rfl (sq _) (ri (by omega)),sM]
theorem Z2 {b:p3} {p:Int×Int} (h:rS b p=false):M6 b p=some (qo b p):=by
 have h:=LO.1 h;rw [M6];unfold qo;by_cases ad:p.2=1
 ·rw [if_pos (decide_eq_true ad),if_pos (by omega),p' ⟨by omega,by omega⟩]
 ·rw [if_neg (by simpa using ad),if_neg (by omega),p' ⟨by omega,by omega⟩]
theorem Z8 {b:p3} {p:Int×Int} (h:rS b p=false):M_ b p=some (fin b p):=by
 have h:=LO.1 h;rw [M_];unfold fin;by_cases ad:p.2=1
 ·rw [if_pos (decide_eq_true ad),if_pos (by omega),p' ⟨by omega,by omega⟩]
 ·rw [if_neg (by simpa using ad),if_neg (by omega),p' ⟨by omega,by omega⟩]
theorem ZG {b:p3} {row:Row} {k:Unit→Option (Int×Int×Int)} (aj:row.length≤1000):∀ (m i:Nat) (z:Int),z=i→i≤row.length→row.length-i<m →
  LX b row k m z=if (row.drop i).any (rS b)=true then some (0,0,3) else k ()
 | 0,i,_,_,_,h=>absurd h (by omega)
 | m+1,i,_,rfl,hi,hm=>by
   rw [LX];by_cases h:i<row.length
   ·rw [Iz h,G7 h,qW h,sQ h,uQ];have e:rS b row[i]=true↔row[i].1<0∨(b.2.length:Int)≤row[i].1∨row[i].2<0∨1<row[i].2:=by
     unfold rS;rw [tL,ME,ME];omega
    by_cases ai:rS b row[i]=true
    ·have aX:=e.1 ai;rw [ai,Bool.true_or,if_pos rfl];by_cases aB:row[i].1<0
     ·rw [if_pos (decide_eq_true aB)]
     rw [if_neg (by simpa using aB),G7 h];by_cases aH:(b.2.length:Int)≤row[i].1
     ·rw [if_pos (decide_eq_true aH)]
     rw [if_neg (by simpa using aH),G7 h];by_cases aR:row[i].2<0
     ·rw [if_pos (decide_eq_true aR)]
     rw [if_neg (by simpa using aR),G7 h,if_pos (decide_eq_true (by omega))]
    ·have aX:=(not_congr e).1 ai;(have gZ:rS b row[i]=false:=by simpa using ai);rw [gZ,vr,if_neg (by simp;omega),G7 h,if_neg (by simp;omega),G7 h,if_neg (by simp;omega),G7 h,if_neg (by simp;omega),rj i (by omega),ZG aj m (i+1) _ rfl (by omega) (by omega)]
   ·rw [Iy h,tc (by omega)];rfl
theorem ZH {row:Row} {k:Unit→Option (Int×Int×Int)} (aj:row.length≤1000):∀ (m i:Nat) (z:Int),z=i→i≤row.length→row.length-i<m →
  LY row k m z=if GQ (row.take i) (row.drop i)=true then some (0,0,11) else k ()
 | 0,i,_,_,_,h=>absurd h (by omega)
 | m+1,i,_,rfl,hi,hm=>by
   rw [LY];by_cases h:i<row.length
   ·rw [Iz h,p' ⟨by omega,by omega⟩,G7 h,qW h,te,Z6 _ _ (by simp;omega),r_,sQ h,GQ];by_cases al:((row.take i).any fun q=>decide (q.1=row[i].1))=true
    ·rw [if_pos al,if_pos al,if_pos rfl]
    ·rw [if_neg al,if_neg al,rj i (by omega),ZH aj m (i+1) _ rfl (by omega) (by omega),Ki h]
   ·rw [Iy h,tc (by omega)];simp [GQ]
theorem ZI {b:p3} {row:Row} {k:Unit→Option (Int×Int×Int)} (aj:row.length≤1000) (gX:∀ p∈row,rS b p=false):∀ (m i:Nat) (z:Int),z=((i+1:Nat):Int)→(hi:i<row.length)→row.length-i<m →
  LZ b row k m z=match qm b (fin b row[i]) (row.drop (i+1)) with | none=>some (0,0,27) | some _=>k ()
 | 0,i,_,_,_,h=>absurd h (by omega)
 | m+1,i,_,rfl,hi,hm=>by
   rw [LZ];by_cases h:i+1<row.length
   ·rw [Iz h,show w (((i+1:Nat):Int)-1)=((i:Nat):Int) by rw [H2 (by omega)];omega,G7 hi,qW hi,Z8 (gX _ (sD hi)),r_,G7 h,qW h,Z2 (gX _ (sD h)),r_,sQ h,qm];by_cases ag:qo b row[i+1]=fin b row[i]
    ·rw [if_pos ag,if_neg (by simp [ag]),rj (i+1) (by omega),ZI aj gX m (i+1) _ rfl h (by omega)]
    ·rw [if_neg ag,if_pos (decide_eq_true (Ne.symm ag))]
   ·rw [Iy h,tc (by omega)];rfl
theorem X' {b:p3}:∀ (l:Row) (a aM:Int) (h:l≠[]),qm b a l=some aM→aM=fin b (l.getLast h)
 | [],_,_,h,_=>absurd rfl h
 | [p],a,aM,_,h=>by
   rw [qm] at h;split at h
   ·rw [qm] at h;cases h;rfl
   ·cases h
 | p::q::r,a,aM,_,h=>by
   rw [qm] at h;split at h
   ·rw [List.getLast_cons (by simp)];exact X' (q::r) _ aM (by simp) h
   ·cases h
theorem ZF (b:p3) (row:Row) (ag:b.2.length≤1000) (aj:row.length≤1000):K3 b row=some (qV b row):=by
 rw [K3,UP b ag,r_];unfold qV;by_cases aS:qK b≠0
 ·rw [if_pos (decide_eq_true aS),r_,if_pos aS]
 rw [if_neg (by simpa using aS),if_neg aS];cases row with
 | nil=>rfl
 | cons p r =>
   rw [if_neg (by simp;omega),ZG aj p6 0 0 rfl (sq _) (ri (by omega)),sM];dsimp only;by_cases ad:(p::r).any (rS b)=true
   ·rw [if_pos ad,if_pos ad]
   rw [if_neg ad,if_neg ad];(have iD:(p::r).any (rS b)=false:=by simpa using ad);rw [uA] at iD;(have gX:∀ q∈p::r,rS b q=false:=fun q a3=>by simpa using iD q a3);rw [ZH aj p6 0 0 rfl (sq _) (ri (by omega)),tq,sM];by_cases af:GQ [] (p::r)=true
   ·rw [if_pos af,if_pos af]
   rw [if_neg af,if_neg af,ZI aj gX p6 0 1 rfl (by simp) (ri (by omega))];rw [show qm b (qo b p) (p::r)=qm b (fin b p) r by rw [qm,if_pos rfl]];show (match qm b (fin b p) r with | none=>_ | some _=>_)=_;cases aO:qm b (fin b p) r with
   | none=>rfl
   | some a =>
     have ak:(r.length+1:Nat)=(p::r).length:=rfl;dsimp only
     rw [p' (by simp),show ix (p::r) (0:Int)=p from rfl,Z2 (gX p (by simp)),r_,
      show w (((p::r).length:Int)-1)=((r.length:Nat):Int) by rw [H2 (by omega)];omega,G7 (by simp),qW (by simp),Z8 (gX _ (sD _)),r_]
     have:=X' (p::r) (qo b p) a (by simp) (by rw [qm,if_pos rfl];exact aO);rw [this,List.getLast_eq_getElem];rfl
theorem Pk:∀ (r pre:Row),GQ pre r=false→(pre.map (·.1)).Nodup→((pre++r).map (·.1)).Nodup
 | [],pre,_,h=>by simpa using h
 | p::r,pre,h,aN=>by
   rw [GQ] at h;split at h
   ·cases h
   ·rename_i al
    have:=Pk r (pre++[p]) h (by
     rw [List.map_append,tT];refine ⟨aN,by simp,fun a cd c ao=>?_⟩;simp only [sx,List.map_nil,sK] at ao;subst ao;intro e;apply al;rw [uh];obtain ⟨q,a3,rfl⟩:=sm.1 cd
     exact ⟨q,a3,by simp [e]⟩)
    simpa using this
theorem Yo:∀ (a b:List Nat),a.Nodup→(∀ x∈a,x∈b)→a.length≤b.length
 | [],_,_,_=>sq _
 | x::a,b,aN,h=>by
   obtain ⟨ad,af⟩:=t_.1 aN;have al:=h x (by simp);have:=Yo a (b.erase x) af fun y a0=>by
    have bM:y≠x:=fun e=>ad (e ▸ a0);exact (List.mem_erase_of_ne bM).2 (h y (by simp [a0]))
   rw [List.length_erase_of_mem al] at this;have:=v8 al;simp only [sL];omega
theorem LH {l:List Int} {n:Nat} (h:l.Nodup) (ag:∀ x∈l,0≤x∧x<(n:Int)):l.length≤n:=by
 have ad:(l.map Int.toNat).Nodup:=by
  rw [List.Nodup,List.pairwise_map];refine h.imp_of_mem fun {a c} cd ao bM e=>bM ?_;have:=ag a cd;have:=ag c ao;omega
 have af:∀ x∈l.map Int.toNat,x∈List.range n:=fun x al=>by
  obtain ⟨y,a0,rfl⟩:=sm.1 al;have:=ag y a0;exact sG.2 (by omega)
 have:=Yo _ _ ad af;simpa using this
theorem ac0 {b:p3} {row:Row} (h:(qV b row).2.2=0):qu b∧row≠[]∧(∀ p∈row,rS b p=false)∧(row.map (·.1)).Nodup∧qm b (qV b row).1 row=some (qV b row).2.1:=by
 unfold qV at h ⊢;by_cases aS:qK b≠0
 ·rw [if_pos aS] at h;exact absurd h aS
 have p1:=G8.1 (vb.1 aS);rw [if_neg aS] at h ⊢;cases row with
 | nil=>simp at h
 | cons p r =>
   dsimp only at h ⊢;by_cases ad:(p::r).any (rS b)=true
   ·rw [if_pos ad] at h;simp at h
   rw [if_neg ad] at h ⊢;(have iD:(p::r).any (rS b)=false:=by simpa using ad);rw [uA] at iD;(have gX:∀ q∈p::r,rS b q=false:=fun q a3=>by simpa using iD q a3);by_cases af:GQ [] (p::r)=true
   ·rw [if_pos af] at h;simp at h
   rw [if_neg af] at h ⊢;(have F_:GQ [] (p::r)=false:=by simpa using af);have aZ:=Pk (p::r) [] F_ (by simp);rw [ub] at aZ;cases aO:qm b (qo b p) (p::r) with
   | none=>rw [aO] at h;simp at h
   | some a=>exact ⟨p1,by simp,gX,aZ,aO⟩
end Go.Proofs.YtfakoboiahbhaaaGreat.Ab


namespace Go.Proofs.YtfakoboiahbhaaaGreat.Ab
open Go
set_option maxRecDepth 20000
set_option maxHeartbeats 4000000
noncomputable def aa6:ey :=
 Gz [gL 2 [.hG 0] .box,gL 3 [.hG 1] .box,gL 4 [.iA .junk] .iQ] (Gz [gL 5 [.hJ 2,.hJ 3] (.zv 113 0 2),Gp 4 5] .ret)
theorem age:zf Tryz.prog VQ 89=some (aa6,6,[.tmp 4]):=by kernel_rfl
def QG (t:qb) (figure:Int):Option Unit :=
 some ()
theorem aal {t:qb} {figure:Int} {v:Unit} (h:QG t figure=some v):qp 89 [(.bU [(hP t.1),(.ay (t.2.flatMap pY) t.2.length .shared)]),(hP figure)] (.func 113 [] [(.bU [(.bU [(hP t.1),(.ay (t.2.flatMap pY) t.2.length .shared)])]),(.bU [(hP figure)])]):=by
 refine qN dH age rfl (JB rfl (pZ (ra (pZ (ra (pZ rfl (pZ (qX (fun _=>(pZ rfl (pZ rfl rfl))) _ _ _) rfl))) rfl)) (pZ (ra (pZ rfl rfl)) rfl))) fun Q bl=>?_;have jw:∀ T H,H5 [.tmp 4] (.func 113 [] [(.bU [(.bU [(hP t.1),(p2 t.2 .shared)])]),(.bU [(hP figure)])]) .ret T H→Q .ret T H:=fun T H bI=>bl _ T H bI;unfold QG at h;unfold aa6;conv=>whnf
 exact jw _ _ ⟨.inr rfl,_,rfl,_,(adJ S7 (PR (Wy (l:=[(.bU [(hP t.1),(p2 t.2 .shared)])]) (by first | exact qh.h | rfl | (simp [sb,I.settle];done)) (pZ (ra (pZ rfl (pZ (qX (fun _=>(pZ rfl (pZ rfl rfl))) _ _ _) rfl))) rfl)) (PR (Wy (l:=[(hP figure)]) (by first | exact qh.h | rfl | (simp [sb,I.settle];done)) (pZ rfl rfl)) S7))),rfl⟩

noncomputable def Q8:ey :=
 .loop (some (Ez false [1,1,1,1,1,3,6,1,48])) (Gz [gL 15 [.sl 14,.iA (.int .i64 6)] (.bin .lss)] (.seq (.cond (.sl 15) .skip (.exit 0)) (.seq (.block 1 (Gz [Gn 16 14,Gp 8 16] (Gs [Gp 17 8,gL 18 [.sl 7,.hJ 17] (.y3 6 1),⟨none,[.hG 18,.iA (.int .i64 (-1))],none,none,.st 1⟩]))) (Gs [FZ 19 14 1,Gp 14 19]))))
noncomputable def U6:ey :=
 .An (.sl 34) [35] (Gw Tryz.prog 81 0) (Gx Tryz.prog 81 0)
noncomputable def Q9:ey :=
 .loop (some (Ez false [3,1,1,3,1,1,53])) (.seq (Gz [gL 24 [.sl 9] (.pT .one),Gk 25 24,F0 26 25 0 .gtr] (.cond (.sl 26) .skip (.exit 2))) (.block 3 (Gz [gL 27 [.sl 9] (.pT .one),gL 28 [.hJ 27,.iA (.int .i64 0)] (.pM 1),Gl 29 28,gL 10 [] (.alloc [.int .i64 0]),⟨none,[.sl 10,.hG 29],none,none,.st 1⟩] (Gz [gL 30 [.sl 9] .take,gL 31 [.hG 30,.iA (.int .i64 1)] (.AX 1 true false false),⟨none,[.sl 9,.hG 31],none,none,.st 1⟩] (Gz [gL 32 [.sl 3] (.pT .one),gL 33 [.sl 10] (.pT .one),gL 34 [.iA (.func 89 [] []),.sl 32,.sl 33] (.call 3)] (.block 4 U6))))))
noncomputable def aa2:ey :=
 Gz [gL 3 [.hG 0] .box,gL 5 [.hG 2] .box,gL 6 [] (.alloc [.int .i64 0,.int .i64 0,.int .i64 0,.int .i64 0,.int .i64 0,.int .i64 0])] (Gz [gL 7 [] (.alloc [.int .i64 0,.int .i64 0,.int .i64 0,.int .i64 0,.int .i64 0,.int .i64 0])] (.seq (Gz [Gm 14 0] (.block 0 Q8)) (Gz [Gn 20 1,gL 21 [.sl 7,.hJ 20] (.y3 6 1),⟨none,[.hG 21,.iA (.int .i64 0)],none,none,.st 1⟩] (Gz [Gp 22 1,gL 23 [.hJ 22] (.x' 1 1 [.int .i64 0] [0]),gL 9 [] (.alloc [.ay [] 0 .full]),⟨none,[.sl 9,.hG 23],none,none,.st 1⟩] (.seq (.block 2 Q9) (Gz [gL 62 [.hJ 7] (.pT (.arr 6)),⟨none,[.sl 6,.hG 62],none,none,.st 6⟩] .ret))))))
noncomputable def aa3:ey :=
 .j0 false [gL 11 [] (.alloc [.int .i64 0,.int .i64 0]),⟨none,[.sl 11,.hG 35],none,none,.st 2⟩]
theorem agb:dS Tryz.prog HN (Gw Tryz.prog 81 0) 0=some aa3:=by kernel_rfl
noncomputable def aa4:ey :=
 .block 5 (Gz [Gl 37 3,gL 38 [.sl 11] (.pT (.str 2)),gL 39 [.iA (.func 68 [] []),.sl 37,.sl 38] (.call 3),Gp 36 39,GJ 40 36 0,gL 41 [.hJ 36] (.ext 1),Gp 12 40,Gp 13 41] (Gz [F6 42 11 0,Gl 43 42,Gl 44 5,F1 45 43 44 .neq,Gp 46 45,cP 47 [.sl 13] 46 true .iQ,⟨some 48,[.sl 7,.hJ 47],some (46,true),none,.y3 6 1⟩,cP 49 [.hJ 48] 46 true (.pT .one),cP 50 [.hJ 49,.iA (.int .i64 0)] 46 true (.bin .lss),gL 51 [.hJ 46,.hJ 50,.iA (.bool false)] .pick] (.cond (.sl 51) (Gz [Gn 52 13,Gl 53 10,gL 54 [.sl 7,.hJ 53] (.y3 6 1),Gl 55 54,FZ 56 55 1,gL 57 [.hJ 7,.hJ 52] (.y3 6 1),⟨none,[.hG 57,.hG 56],none,none,.st 1⟩] (Gs [gL 58 [.sl 9] .take,Gp 59 13,gL 60 [.hJ 59] (.x' 1 1 [.int .i64 0] [0]),gL 61 [.hG 58,.hG 60] (.app 1 8),⟨none,[.hG 9,.hG 61],none,none,.st 1⟩])) .skip)))
theorem agc:dS Tryz.prog HN (Gx Tryz.prog 81 0) 0=some aa4:=by kernel_rfl
theorem aga:zf Tryz.prog HN 81=some (aa2,63,[.cell 6 (.arr 6)]):=by kernel_rfl
def Ma (p9:p8→Option p8):Nat→Int→p8→Option p8
 | 0,_,_=>none
 | m+1,s1,s2 =>
   if (decide (s1<(6:Int)))=true then
    p5 (0≤s1∧s1<(6:Int)∧6=s2.length) <|
    Ma p9 m (w (s1+(1:Int))) (s2.set s1.toNat (-1:Int))
   else
    p9 s2
def Mc (t:qb) (without:Int) (Gy:p8) (ail:p8×p8) (e1:(Int×Int)):Option (p8×p8) :=
 match ail with
 | (t1,t2) =>
   (La t e1).bind fun r2 =>
   if (decide (e1.1≠without))=true then
    p5 (0≤r2.2∧r2.2<(6:Int)∧6=t2.length) <|
    if (decide ((ix t2 r2.2)<(0:Int)))=true then
     p5 (0≤(ix Gy (0:Int))∧(ix Gy (0:Int))<(6:Int)∧6=t2.length) <|
     p5 (0≤r2.2∧r2.2<(6:Int)∧6=t2.length) <|
     p5 ((t1.length+1)*8≤140737488355328) <|
     some ((t1++[r2.2]),(t2.set r2.2.toNat (w ((ix t2 (ix Gy (0:Int)))+(1:Int)))))
    else
     some (t1,t2)
   else
    some (t1,t2)
def Mb (t:qb) (without:Int) (qq:p8→Option p8):Nat→p8→p8→Option p8
 | 0,_,_=>none
 | m+1,s3,Gy =>
   if (decide ((0:Int)<(Gy.length:Int)))=true then
    p5 (0≤(0:Int)∧(0:Int)<(Gy.length:Int)) <|
    p5 (0≤(1:Int)∧(1:Int)≤(Gy.length:Int)) <|
    (QG t (ix Gy (0:Int))).bind fun r1 =>
    (Kf t (ix Gy (0:Int))).bind fun dJ =>
    (HD (Mc t without Gy) dJ ((Gy.drop (1:Int).toNat),s3)).bind fun r3 =>
    Mb t without qq m r3.2 r3.1
   else
    qq s3
def OQ (t:qb) (to without:Int):Option p8 :=
 Ma (fun xZ =>
   p5 (0≤to∧to<(6:Int)∧6=xZ.length) <|
   Mb t without (fun oi =>
     p5 (oi.length=6) <|
     p5 (oi.length=6∧(List.replicate 6 (0:Int)).length=6) <|
     p5 (oi.length=6) <|
     some oi) p6 (xZ.set to.toNat (0:Int)) [to]) p6 (0:Int) (List.replicate 6 (0:Int))
theorem akJ {p9:p8→Option p8} {s1:Int} {s2:p8} {t:qb} {to:Int} {without:Int} {v:p8} {Q:qY}   (q7:∀ (xZ:p8) (p4:List I),p9 xZ=some v→qI 63 [(1,(hP to)),(3,(.ptr 0 0)),(5,(.ptr 1 0)),(6,(.ptr 2 0)),(7,(.ptr 3 0))] p4→Q (.exit 0) p4 [au.cells [(.bU [(hP t.1),(p2 t.2 .shared)])],au.cells [(hP without)],au.cells ((List.replicate 6 (0:Int)).map hP),au.cells (xZ.map hP)]) {T:List I} (bX:eQ (Ez false [1,1,1,1,1,3,6,1,48]) T=GG 63 [(1,(hP to)),(3,(.ptr 0 0)),(5,(.ptr 1 0)),(6,(.ptr 2 0)),(7,(.ptr 3 0)),(14,(hP s1))]) (h:Ma p9 p6 s1 s2=some v) :
  dB Tryz.prog HN 81 0 none Q8 T [au.cells [(.bU [(hP t.1),(p2 t.2 .shared)])],au.cells [(hP without)],au.cells ((List.replicate 6 (0:Int)).map hP),au.cells (s2.map hP)] Q:=by
 unfold Q8;refine wp_loop bX ?_;refine .intro (fun m T H=>∃ (s1:Int) (s2:p8),T=GG 63 [(1,(hP to)),(3,(.ptr 0 0)),(5,(.ptr 1 0)),(6,(.ptr 2 0)),(7,(.ptr 3 0)),(14,(hP s1))]∧H=[au.cells [(.bU [(hP t.1),(p2 t.2 .shared)])],au.cells [(hP without)],au.cells ((List.replicate 6 (0:Int)).map hP),au.cells (s2.map hP)]∧Ma p9 m s1 s2=some v) p6 ⟨s1,s2,rfl,rfl,h⟩ ?_;clear h bX;rintro m T H ⟨s1,s2,rfl,rfl,h⟩;cases m
 ·exact qT h
 rename_i m;rw [Ma.eq_2] at h;conv=>whnf
 refine bs h (fun eT h=>?_) fun eT h=>?_
 ·rw [eT];conv=>whnf
  obtain ⟨fj,h⟩:=qn h;refine ⟨⟨fj.1,fj.2.1⟩,?_⟩;replace fj:0≤s1∧s1<(s2.length:Int):=⟨fj.1,by have:=fj.2;omega⟩;conv=>whnf
  refine KY hP s2 s1 (-1:Int) fj ?_;conv=>whnf
  exact ⟨m,sf m,(w (s1+(1:Int))),(s2.set s1.toNat (-1:Int)),rfl,rfl,h⟩
 ·rw [eT];conv=>whnf
  exact q7 _ _ h ⟨rfl,rfl⟩
theorem akN {t:qb} {without:Int} {Gy:p8} {s3:p8} {t1:p8} {t2:p8} {e1:(Int×Int)} {xT:I} {fq:I} {gf:I} {FH:I} {KU:I} {u8:I} {Kk:I} {Kl:I} {Km:I} {Kn:I} {Ko:I} {u16:I} {Kp:I} {Kq:I} {Kr:I} {Ks:I} {Kt:I} {Ku:I} {JF:I} {Kv:I} {Kw:I} {JG:I} {Kx:I} {Ky:I} {JH:I} {Kz:I} {KA:I} {u32:I} {KB:I} {IC:I} {ID:I} {IE:I} {IF:I} {HI:I} {HJ:I} {HK:I} {IG:I} {KC:I} {KD:I} {KE:I} {KF:I} {KG:I} {KH:I} {KI:I} {KJ:I} {KK:I} {KL:I} {KM:I} {KN:I} {KO:I} {KP:I} {KQ:I} {KR:I} {KS:I} {KT:I} {KV:I} {KW:I} {KX:I} {kO:au} {rH:List au} {UD:p8×p8} (h:Mc t without Gy (t1,t2) e1=some UD) (Y:List au) :
  ∃ q6,Sem Tryz.prog (.yield (((au.cells [(.bU [(hP t.1),(p2 t.2 .shared)])]::au.cells [(hP without)]::kO::au.cells (t2.map hP)::au.cells [(qg t1 (.own 1))]::rH)++[au.cells [(hP (ix Gy (0:Int)))]])).length) [(.agg [(hP e1.1),(hP e1.2)])] ((((au.cells [(.bU [(hP t.1),(p2 t.2 .shared)])]::au.cells [(hP without)]::kO::au.cells (t2.map hP)::au.cells [(qg t1 (.own 1))]::rH)++[au.cells [(hP (ix Gy (0:Int)))]])++[au.loop .ready none 81 [xT,fq,gf,(I.ptr 0 0),FH,(I.ptr 1 0),KU,(I.ptr 3 0),u8,(I.ptr 4 0),(I.ptr (au.cells [(.bU [(hP t.1),(p2 t.2 .shared)])]::au.cells [(hP without)]::kO::au.cells (s3.map hP)::au.cells [(qg (Gy.drop (1:Int).toNat) (.own 1))]::rH).length 0),Kk,Kl,Km,Kn,Ko,u16,Kp,Kq,Kr,Ks,Kt,Ku,JF,Kv,Kw,JG,Kx,Ky,JH,Kz,KA,u32,KB,IC,ID,IE,IF,HI,HJ,HK,IG,KC,KD,KE,KF,KG,KH,KI,KJ,KK,KL,KM,KN,KO,KP,KQ,KR,KS,KT,KV,KW,KX] [35] (Gw Tryz.prog 81 0) (Gx Tryz.prog 81 0) HN])++Y) 0 (.bool true) ((((au.cells [(.bU [(hP t.1),(p2 t.2 .shared)])]::au.cells [(hP without)]::kO::au.cells (UD.2.map hP)::au.cells [(qg UD.1 (.own 1))]::rH)++[au.cells [(hP (ix Gy (0:Int)))]])++[au.loop .ready none 81 [xT,fq,gf,(I.ptr 0 0),FH,(I.ptr 1 0),KU,(I.ptr 3 0),u8,(I.ptr 4 0),(I.ptr (au.cells [(.bU [(hP t.1),(p2 t.2 .shared)])]::au.cells [(hP without)]::kO::au.cells (s3.map hP)::au.cells [(qg (Gy.drop (1:Int).toNat) (.own 1))]::rH).length 0),Kk,Kl,Km,Kn,Ko,u16,Kp,Kq,Kr,Ks,Kt,Ku,JF,Kv,Kw,JG,Kx,Ky,JH,Kz,KA,u32,KB,IC,ID,IE,IF,HI,HJ,HK,IG,KC,KD,KE,KF,KG,KH,KI,KJ,KK,KL,KM,KN,KO,KP,KQ,KR,KS,KT,KV,KW,KX] [35] (Gw Tryz.prog 81 0) (Gx Tryz.prog 81 0) HN])++q6):=by
 unfold Mc at h;refine ⟨Y++[.dead],GF dH agb agc (NL _ _ _) rfl (Ob (by simp)) ?_⟩;unfold aa3;conv=>whnf
 refine DW (x:=au.cells [(hP (0:Int)),(hP (0:Int))]) (by first | exact qh.h | rfl | (simp [sb,I.settle];done)) ?_
 conv=>whnf
 rw [q5];refine ⟨rfl,J1 _ _ _ _,?_⟩;rw [LM];unfold aa4;conv=>whnf
 refine DW (x:=au.cells [(hP e1.1),(hP e1.2)]) (by first | exact qh.h | rfl | (simp [sb,I.settle];done)) ?_
 conv=>whnf
 obtain ⟨r2,qP,h⟩:=qa h;refine ⟨qc.pl,_,JL qP,?_⟩;conv=>whnf
 refine DW (x:=au.cells [(hP e1.1),(hP e1.2)]) (by first | exact qh.h | rfl | (simp [sb,I.settle];done)) ?_
 conv=>whnf
 refine bs h (fun q3 h=>?_) fun q3 h=>?_
 ·rw [q3];conv=>whnf
  obtain ⟨qG,h⟩:=qn h;refine ⟨⟨qG.1,qG.2.1⟩,?_⟩;replace qG:0≤r2.2∧r2.2<(t2.length:Int):=⟨qG.1,by have:=qG.2;omega⟩;conv=>whnf
  refine Kc hP t2 r2.2 qG ?_;conv=>whnf
  refine bs h (fun rE h=>?_) fun rE h=>?_
  ·rw [rE];(conv=>whnf);refine DW (x:=au.cells [(hP (ix Gy (0:Int)))]) (by first | exact qh.h | rfl | (simp [sb,I.settle];done)) ?_
   (conv=>whnf);obtain ⟨rh,h⟩:=qn h;refine ⟨⟨rh.1,rh.2.1⟩,?_⟩;replace rh:0≤(ix Gy (0:Int))∧(ix Gy (0:Int))<(t2.length:Int):=⟨rh.1,by have:=rh.2;omega⟩;(conv=>whnf);refine Kc hP t2 (ix Gy (0:Int)) rh ?_;(conv=>whnf);obtain ⟨rm,h⟩:=qn h;refine ⟨⟨rm.1,rm.2.1⟩,?_⟩;replace rm:0≤r2.2∧r2.2<(t2.length:Int):=⟨rm.1,by have:=rm.2;omega⟩;(conv=>whnf);refine KY hP t2 r2.2 (w ((ix t2 (ix Gy (0:Int)))+(1:Int))) rm ?_;(conv=>whnf);obtain ⟨rM,h⟩:=qn h;refine ⟨by first | rfl | simp,by have:=rM;omega,rfl,rM,?_⟩
   erw [Lj hP t1 r2.2];(conv=>whnf);obtain rfl:=Option.some.inj h;show _∧(((((au.cells [(.bU [(hP t.1),(p2 t.2 .shared)])]::au.cells [(hP without)]::kO::au.cells ((t2.set r2.2.toNat (w ((ix t2 (ix Gy (0:Int)))+(1:Int)))).map hP)::au.cells [(qg (t1++[r2.2]) (.own 1))]::rH)++[au.cells [(hP (ix Gy (0:Int)))]])++[au.loop .busy none 81 [xT,fq,gf,(I.ptr 0 0),FH,(I.ptr 1 0),KU,(I.ptr 3 0),u8,(I.ptr 4 0),(I.ptr (au.cells [(.bU [(hP t.1),(p2 t.2 .shared)])]::au.cells [(hP without)]::kO::au.cells (s3.map hP)::au.cells [(qg (Gy.drop (1:Int).toNat) (.own 1))]::rH).length 0),Kk,Kl,Km,Kn,Ko,u16,Kp,Kq,Kr,Ks,Kt,Ku,JF,Kv,Kw,JG,Kx,Ky,JH,Kz,KA,u32,KB,IC,ID,IE,IF,HI,HJ,HK,IG,KC,KD,KE,KF,KG,KH,KI,KJ,KK,KL,KM,KN,KO,KP,KQ,KR,KS,KT,KV,KW,KX] [35] (Gw Tryz.prog 81 0) (Gx Tryz.prog 81 0) HN])++Y)++[_])[(((au.cells [(.bU [(hP t.1),(p2 t.2 .shared)])]::au.cells [(hP without)]::kO::au.cells ((t2.set r2.2.toNat (w ((ix t2 (ix Gy (0:Int)))+(1:Int)))).map hP)::au.cells [(qg (t1++[r2.2]) (.own 1))]::rH)++[au.cells [(hP (ix Gy (0:Int)))]])).length]?=_∧jg ((((((au.cells [(.bU [(hP t.1),(p2 t.2 .shared)])]::au.cells [(hP without)]::kO::au.cells ((t2.set r2.2.toNat (w ((ix t2 (ix Gy (0:Int)))+(1:Int)))).map hP)::au.cells [(qg (t1++[r2.2]) (.own 1))]::rH)++[au.cells [(hP (ix Gy (0:Int)))]])++[au.loop .busy none 81 [xT,fq,gf,(I.ptr 0 0),FH,(I.ptr 1 0),KU,(I.ptr 3 0),u8,(I.ptr 4 0),(I.ptr (au.cells [(.bU [(hP t.1),(p2 t.2 .shared)])]::au.cells [(hP without)]::kO::au.cells (s3.map hP)::au.cells [(qg (Gy.drop (1:Int).toNat) (.own 1))]::rH).length 0),Kk,Kl,Km,Kn,Ko,u16,Kp,Kq,Kr,Ks,Kt,Ku,JF,Kv,Kw,JG,Kx,Ky,JH,Kz,KA,u32,KB,IC,ID,IE,IF,HI,HJ,HK,IG,KC,KD,KE,KF,KG,KH,KI,KJ,KK,KL,KM,KN,KO,KP,KQ,KR,KS,KT,KV,KW,KX] [35] (Gw Tryz.prog 81 0) (Gx Tryz.prog 81 0) HN])++Y)++[_]).set (((au.cells [(.bU [(hP t.1),(p2 t.2 .shared)])]::au.cells [(hP without)]::kO::au.cells ((t2.set r2.2.toNat (w ((ix t2 (ix Gy (0:Int)))+(1:Int)))).map hP)::au.cells [(qg (t1++[r2.2]) (.own 1))]::rH)++[au.cells [(hP (ix Gy (0:Int)))]])).length _) _;exact ⟨rfl,J1 _ _ _ _,by rw [LM];exact Pn _ _ _ _⟩
  ·rw [rE];(conv=>whnf);obtain rfl:=Option.some.inj h;show _∧(((((au.cells [(.bU [(hP t.1),(p2 t.2 .shared)])]::au.cells [(hP without)]::kO::au.cells (t2.map hP)::au.cells [(qg t1 (.own 1))]::rH)++[au.cells [(hP (ix Gy (0:Int)))]])++[au.loop .busy none 81 [xT,fq,gf,(I.ptr 0 0),FH,(I.ptr 1 0),KU,(I.ptr 3 0),u8,(I.ptr 4 0),(I.ptr (au.cells [(.bU [(hP t.1),(p2 t.2 .shared)])]::au.cells [(hP without)]::kO::au.cells (s3.map hP)::au.cells [(qg (Gy.drop (1:Int).toNat) (.own 1))]::rH).length 0),Kk,Kl,Km,Kn,Ko,u16,Kp,Kq,Kr,Ks,Kt,Ku,JF,Kv,Kw,JG,Kx,Ky,JH,Kz,KA,u32,KB,IC,ID,IE,IF,HI,HJ,HK,IG,KC,KD,KE,KF,KG,KH,KI,KJ,KK,KL,KM,KN,KO,KP,KQ,KR,KS,KT,KV,KW,KX] [35] (Gw Tryz.prog 81 0) (Gx Tryz.prog 81 0) HN])++Y)++[_])[(((au.cells [(.bU [(hP t.1),(p2 t.2 .shared)])]::au.cells [(hP without)]::kO::au.cells (t2.map hP)::au.cells [(qg t1 (.own 1))]::rH)++[au.cells [(hP (ix Gy (0:Int)))]])).length]?=_∧jg ((((((au.cells [(.bU [(hP t.1),(p2 t.2 .shared)])]::au.cells [(hP without)]::kO::au.cells (t2.map hP)::au.cells [(qg t1 (.own 1))]::rH)++[au.cells [(hP (ix Gy (0:Int)))]])++[au.loop .busy none 81 [xT,fq,gf,(I.ptr 0 0),FH,(I.ptr 1 0),KU,(I.ptr 3 0),u8,(I.ptr 4 0),(I.ptr (au.cells [(.bU [(hP t.1),(p2 t.2 .shared)])]::au.cells [(hP without)]::kO::au.cells (s3.map hP)::au.cells [(qg (Gy.drop (1:Int).toNat) (.own 1))]::rH).length 0),Kk,Kl,Km,Kn,Ko,u16,Kp,Kq,Kr,Ks,Kt,Ku,JF,Kv,Kw,JG,Kx,Ky,JH,Kz,KA,u32,KB,IC,ID,IE,IF,HI,HJ,HK,IG,KC,KD,KE,KF,KG,KH,KI,KJ,KK,KL,KM,KN,KO,KP,KQ,KR,KS,KT,KV,KW,KX] [35] (Gw Tryz.prog 81 0) (Gx Tryz.prog 81 0) HN])++Y)++[_]).set (((au.cells [(.bU [(hP t.1),(p2 t.2 .shared)])]::au.cells [(hP without)]::kO::au.cells (t2.map hP)::au.cells [(qg t1 (.own 1))]::rH)++[au.cells [(hP (ix Gy (0:Int)))]])).length _) _;exact ⟨rfl,J1 _ _ _ _,by rw [LM];exact Pn _ _ _ _⟩
 ·rw [q3];conv=>whnf
  obtain rfl:=Option.some.inj h;show _∧(((((au.cells [(.bU [(hP t.1),(p2 t.2 .shared)])]::au.cells [(hP without)]::kO::au.cells (t2.map hP)::au.cells [(qg t1 (.own 1))]::rH)++[au.cells [(hP (ix Gy (0:Int)))]])++[au.loop .busy none 81 [xT,fq,gf,(I.ptr 0 0),FH,(I.ptr 1 0),KU,(I.ptr 3 0),u8,(I.ptr 4 0),(I.ptr (au.cells [(.bU [(hP t.1),(p2 t.2 .shared)])]::au.cells [(hP without)]::kO::au.cells (s3.map hP)::au.cells [(qg (Gy.drop (1:Int).toNat) (.own 1))]::rH).length 0),Kk,Kl,Km,Kn,Ko,u16,Kp,Kq,Kr,Ks,Kt,Ku,JF,Kv,Kw,JG,Kx,Ky,JH,Kz,KA,u32,KB,IC,ID,IE,IF,HI,HJ,HK,IG,KC,KD,KE,KF,KG,KH,KI,KJ,KK,KL,KM,KN,KO,KP,KQ,KR,KS,KT,KV,KW,KX] [35] (Gw Tryz.prog 81 0) (Gx Tryz.prog 81 0) HN])++Y)++[_])[(((au.cells [(.bU [(hP t.1),(p2 t.2 .shared)])]::au.cells [(hP without)]::kO::au.cells (t2.map hP)::au.cells [(qg t1 (.own 1))]::rH)++[au.cells [(hP (ix Gy (0:Int)))]])).length]?=_∧jg ((((((au.cells [(.bU [(hP t.1),(p2 t.2 .shared)])]::au.cells [(hP without)]::kO::au.cells (t2.map hP)::au.cells [(qg t1 (.own 1))]::rH)++[au.cells [(hP (ix Gy (0:Int)))]])++[au.loop .busy none 81 [xT,fq,gf,(I.ptr 0 0),FH,(I.ptr 1 0),KU,(I.ptr 3 0),u8,(I.ptr 4 0),(I.ptr (au.cells [(.bU [(hP t.1),(p2 t.2 .shared)])]::au.cells [(hP without)]::kO::au.cells (s3.map hP)::au.cells [(qg (Gy.drop (1:Int).toNat) (.own 1))]::rH).length 0),Kk,Kl,Km,Kn,Ko,u16,Kp,Kq,Kr,Ks,Kt,Ku,JF,Kv,Kw,JG,Kx,Ky,JH,Kz,KA,u32,KB,IC,ID,IE,IF,HI,HJ,HK,IG,KC,KD,KE,KF,KG,KH,KI,KJ,KK,KL,KM,KN,KO,KP,KQ,KR,KS,KT,KV,KW,KX] [35] (Gw Tryz.prog 81 0) (Gx Tryz.prog 81 0) HN])++Y)++[_]).set (((au.cells [(.bU [(hP t.1),(p2 t.2 .shared)])]::au.cells [(hP without)]::kO::au.cells (t2.map hP)::au.cells [(qg t1 (.own 1))]::rH)++[au.cells [(hP (ix Gy (0:Int)))]])).length _) _;exact ⟨rfl,J1 _ _ _ _,by rw [LM];exact Pn _ _ _ _⟩
theorem akK {t:qb} {without:Int} {qq:p8→Option p8} {s3:p8} {Gy:p8} {v:p8} {Q:qY}   (Hk:∀ (oi:p8) (bA bQ g8:au) (qs:List au) (p4:List I),qq oi=some v→qI 63 [(6,(.ptr 2 0)),(7,(.ptr 3 0))] p4→Q (.exit 2) p4 (bA::bQ::au.cells ((List.replicate 6 (0:Int)).map hP)::au.cells (oi.map hP)::g8::qs)) {T:List I} (bX:eQ (Ez false [3,1,1,3,1,1,53]) T=GG 63 [(3,(.ptr 0 0)),(5,(.ptr 1 0)),(6,(.ptr 2 0)),(7,(.ptr 3 0)),(9,(.ptr 4 0))]) (h:Mb t without qq p6 s3 Gy=some v) :
  dB Tryz.prog HN 81 0 none Q9 T [au.cells [(.bU [(hP t.1),(p2 t.2 .shared)])],au.cells [(hP without)],au.cells ((List.replicate 6 (0:Int)).map hP),au.cells (s3.map hP),au.cells [(qg Gy (.own 1))]] Q:=by
 unfold Q9;obtain ⟨I3,ru⟩:∃ c,U6=c:=⟨_,rfl⟩;rw [ru];refine wp_loop bX ?_;refine .intro (fun m T H=>∃ (s3 Gy:p8) (rH:List au),T=GG 63 [(3,(.ptr 0 0)),(5,(.ptr 1 0)),(6,(.ptr 2 0)),(7,(.ptr 3 0)),(9,(.ptr 4 0))]∧H=(au.cells [(.bU [(hP t.1),(p2 t.2 .shared)])]::au.cells [(hP without)]::au.cells ((List.replicate 6 (0:Int)).map hP)::au.cells (s3.map hP)::au.cells [(qg Gy (.own 1))]::rH)∧Mb t without qq m s3 Gy=some v) p6 ⟨s3,Gy,[],rfl,rfl,h⟩ ?_;clear h bX;rintro m T H ⟨s3,Gy,rH,rfl,rfl,h⟩;cases m
 ·exact qT h
 rename_i m;rw [Mb.eq_2] at h;conv=>whnf
 refine bs h (fun qw h=>?_) fun qw h=>?_
 ·rw [qw];conv=>whnf
  refine qj h id fun qC h=>?_;rw [rJ hP Gy (0:Int) qC];conv=>whnf
  refine DW (x:=au.cells [(hP (0:Int))]) (by first | exact qh.h | rfl | (simp [sb,I.settle];done)) ?_
  conv=>whnf
  rw [q5];obtain ⟨rk,h⟩:=qn h;refine ⟨⟨rfl,rk⟩,?_⟩;erw [ah_ hP Gy (1:Int) rk];conv=>whnf
  refine DW (x:=au.cells [(hP (ix Gy (0:Int)))]) (by first | exact qh.h | rfl | (simp [sb,I.settle];done)) ?_
  conv=>whnf
  obtain ⟨r1,qM,h⟩:=qa h;refine ⟨qc.pl,_,aal qM,?_⟩;conv=>whnf
  obtain ⟨dJ,Iw,h⟩:=qa h;obtain ⟨r3,Ha,h⟩:=qa h;obtain ⟨Ml,WJ,WK,bB⟩:=Pr Ha;subst ru;unfold U6;refine X4 (f:=fun (e1:(Int×Int))=>(.agg [(hP e1.1),(hP e1.2)])) (Yb Iw) (fun i=>((au.cells [(.bU [(hP t.1),(p2 t.2 .shared)])]::au.cells [(hP without)]::au.cells ((List.replicate 6 (0:Int)).map hP)::au.cells (((Ml i).2).map hP)::au.cells [(qg ((Ml i).1) (.own 1))]::rH)++[au.cells [(hP (ix Gy (0:Int)))]])) (by exact rfl) (by show ((au.cells [(.bU [(hP t.1),(p2 t.2 .shared)])]::au.cells [(hP without)]::au.cells ((List.replicate 6 (0:Int)).map hP)::au.cells (((Ml 0).2).map hP)::au.cells [(qg ((Ml 0).1) (.own 1))]::rH)++[au.cells [(hP (ix Gy (0:Int)))]])=_;first | (rw [WJ];done) | (rw [WJ];rfl)) (fun _=>rfl) ?_ (rl:=none) (by exact rfl) (Hn:=((au.cells [(.bU [(hP t.1),(p2 t.2 .shared)])]::au.cells [(hP without)]::au.cells ((List.replicate 6 (0:Int)).map hP)::au.cells (r3.2.map hP)::au.cells [(qg r3.1 (.own 1))]::rH)++[au.cells [(hP (ix Gy (0:Int)))]])) (by show ((au.cells [(.bU [(hP t.1),(p2 t.2 .shared)])]::au.cells [(hP without)]::au.cells ((List.replicate 6 (0:Int)).map hP)::au.cells (((Ml dJ.length).2).map hP)::au.cells [(qg ((Ml dJ.length).1) (.own 1))]::rH)++[au.cells [(hP (ix Gy (0:Int)))]])=_;first | (rw [WK];done) | (rw [WK];rfl)) (fun alb=>?_)
  ·intro i hi Y;exact akN (s3:=s3) (bB i hi) Y
  conv=>whnf
  exact ⟨m,sf m,r3.2,r3.1,_,rfl,rfl,h⟩
 ·rw [qw];conv=>whnf
  exact Hk _ _ _ _ _ _ h ⟨rfl,rfl⟩
theorem akL {t:qb} {to:Int} {without:Int} {v:p8} (h:OQ t to without=some v):qp 81 [(.bU [(hP t.1),(.ay (t.2.flatMap pY) t.2.length .shared)]),(hP to),(hP without)] (.agg ((v.map hP))):=by
 refine qN dH aga rfl (Jg (PZ (fun _=>rfl) _)) fun Q bl=>?_;have jw:qv [.cell 6 (.arr 6)] Q (fun v=>(.agg ((v.map hP)))) v:=fun T H bI=>bl _ T H bI;unfold OQ at h;unfold aa2;obtain ⟨Hd,qy⟩:∃ c,Q8=c:=⟨_,rfl⟩;rw [qy];obtain ⟨Nt,G'⟩:∃ c,Q9=c:=⟨_,rfl⟩;rw [G'];conv=>whnf
 subst qy;refine akJ ?_ (by exact rfl) h;intro xZ p4 h qf;obtain ⟨qE,rfl⟩:=qf.ex;conv=>whnf
 obtain ⟨qk,h⟩:=qn h;refine ⟨⟨qk.1,qk.2.1⟩,?_⟩;replace qk:0≤to∧to<(xZ.length:Int):=⟨qk.1,by have:=qk.2;omega⟩;conv=>whnf
 refine KY hP xZ to (0:Int) qk ?_;conv=>whnf
 subst G';refine akK ?_ (by exact rfl) h;intro oi bA bQ g8 qs p4 h qf;obtain ⟨qE,rfl⟩:=qf.ex;conv=>whnf
 obtain ⟨HT,h⟩:=qn h;refine ⟨by simp [HT],?_⟩;rw [S1 hP oi (fun _=>rfl) HT];conv=>whnf
 obtain ⟨GU,h⟩:=qn h
 try rw [show List.map I.gR (List.map hP oi)=List.map hP oi from by rw [tr];rfl]
 first | (refine Yl hP oi (n:=6) (l:=(List.replicate 6 (0:Int))) (sq _) (fun _=>rfl) (by first | exact qh.h | rfl | (simp [sb,I.settle];done)) GU.1 GU.2 (by decide) ?_) | (rw [show Nat.beq (List.map hP oi).length 6=true from by rw [List.length_map,GU.1] <;> exact Nat.beq_refl _];refine UB hP (List.replicate 6 (0:Int)) oi (fun _=>rfl) (by rw [GU.1,GU.2]) ?_)
 conv=>whnf
 obtain ⟨Ix,h⟩:=qn h;obtain rfl:=Option.some.inj h;exact jw _ _ ⟨.inr rfl,_,ahK (l:=oi) (by rfl) (by first | exact qh.h | rfl | (simp [sb,I.settle];done)) Ix,_,oR (Jg (PZ (fun _=>rfl) _)),(by show I.agg (List.map I.gR (List.map _ _))=_;rw [tr];rfl)⟩
end Go.Proofs.YtfakoboiahbhaaaGreat.Ab


namespace Go.Proofs.YtfakoboiahbhaaaGreat.Ab
open Go
def rO (b:p3) (wo f g:Int):Prop:=∃ p∈places b f,p.1≠wo∧fin b p=g
def rT (b:p3) (wo:Int):Nat→Int→Int→Prop
 | 0,a,g=>a=g
 | n+1,a,g=>∃ f,rT b wo n a f∧rO b wo f g
def Ql (b:p3) (wo f:Int) (s:List Int×List Int) (p:Int×Int):List Int×List Int :=
 if p.1≠wo∧ix s.2 (fin b p)<0 then (s.1++[fin b p],s.2.set (fin b p).toNat (ix s.2 f+1)) else s
theorem agL {n r:Nat} (h:r<2*n):0≤(qZ r).1∧(qZ r).1<(n:Int)∧0≤(qZ r).2∧(qZ r).2≤1:=by
 unfold qZ;simp only;omega
theorem Tj {b:p3} {f:Int} {p:Int×Int} (h:p∈places b f):0≤p.1∧p.1<(b.2.length:Int)∧0≤p.2∧p.2≤1∧qo b p=f:=by
 unfold places at h;obtain ⟨r,aj,rfl⟩:=sm.1 h;obtain ⟨ad,af⟩:=sO.1 aj;have:=agL (sG.1 ad);exact ⟨this.1,this.2.1,this.2.2.1,this.2.2.2,by simpa [rA] using af⟩
theorem PN {l:List (Int×Int)} {i:Int} (h:0≤i∧i<(l.length:Int)):ix l i∈l:=by
 obtain ⟨k,rfl⟩:∃ k:Nat,i=(k:Int):=⟨i.toNat,by omega⟩;rw [qW (by omega)];exact sD _
theorem Pp {b:p3} (p1:qu b) {f:Int} {p:Int×Int} (h:p∈places b f):0≤fin b p∧fin b p<b.1:=by
 have h:=Tj h;have hm:=PN (l:=b.2) ⟨h.1,h.2.1⟩;unfold fin;split
 ·exact p1.left _ hm
 ·exact p1.right _ hm
def H9 (D:List Int):Nat:=D.countP fun x=>decide (x<0)
theorem RK:∀ (D:List Int) (j:Nat) (x:Int) (h:j<D.length),D[j]<0→0≤x→H9 (D.set j x)+1=H9 D
 | a::D,0,x,_,ad,af=>by
   have ad:a<0:=ad;simp [H9,List.countP_cons,ad,show ¬ x<0 by omega]
 | a::D,j+1,x,h,ad,af=>by
   have:=RK D j x (by simpa using h) ad af;simp only [H9,List.set_cons_succ,List.countP_cons] at this ⊢;omega
theorem akM {b:p3} (p1:qu b) {wo f:Int} {Q0:List Int} (aQ:ix Q0 (0:Int)=f∧0≤f∧f<b.1) {s:List Int×List Int} {p:Int×Int} (aC:p∈places b f) (ak:s.2.length=6) (aj:s.1.length+H9 s.2≤1000) (aZ:-1≤ix s.2 f∧ix s.2 f≤100) :
  Mc b wo Q0 s p=some (Ql b wo f s p):=by
 obtain ⟨t1,t2⟩:=s;have h4:=Tj aC;have Cp:=Pp p1 aC;have bV:=p1.f6;simp only at ak aj aZ;rw [Mc];simp only [JK ⟨h4.1,h4.2.1⟩,r_,aQ.1];unfold Ql;by_cases ad:p.1≠wo
 ·rw [if_pos (decide_eq_true ad),p' ⟨by omega,by omega,ak.symm⟩];by_cases af:ix t2 (fin b p)<0
  ·rw [if_pos (decide_eq_true af),p' ⟨by omega,by omega,ak.symm⟩,p' ⟨by omega,by omega,ak.symm⟩,p' (by omega),H2 (by omega),if_pos ⟨ad,af⟩]
  ·rw [if_neg (by simpa using af),if_neg (by simp [af])]
 ·rw [if_neg (by simpa using ad),if_neg (by simp [ad])]
structure Mk (b:p3) (wo f:Int) (Q0 D0:List Int) (He:List (Int×Int)) (s:List Int×List Int):Prop where
 len:s.2.length=6
 Wb:s.1.length+H9 s.2=Q0.length+H9 D0
 fI:∀ g:Nat,g<6→0≤ix D0 (g:Int)→ix s.2 (g:Int)=ix D0 (g:Int)
 new:∀ g:Nat,g<6→ix D0 (g:Int)<0→ix s.2 (g:Int)=ix D0 (g:Int)∨(ix s.2 (g:Int)=ix D0 f+1∧rO b wo f (g:Int)∧(g:Int)∈s.1)
 alH:∃ N,s.1=Q0++N∧∀ g∈N,0≤g∧g<b.1∧ix s.2 g=ix D0 f+1
 He:∀ p∈He,p.1≠wo→0≤ix s.2 (fin b p)
theorem Mk.step {b:p3} (p1:qu b) {wo f:Int} {Q0 D0:List Int} (aQ:0≤f∧f<b.1) (aZ:0≤ix D0 f) {He:List (Int×Int)} {s:List Int×List Int} (h:Mk b wo f Q0 D0 He s) {p:Int×Int} (aC:p∈places b f):Mk b wo f Q0 D0 (He++[p]) (Ql b wo f s p):=by
 obtain ⟨Q,D⟩:=s;obtain ⟨ad,af,aG,a6,⟨N,bL,bV⟩,cN⟩:=h;simp only at ad af aG a6 bL bV cN;have Cp:=Pp p1 aC;have NP:=p1.f6;obtain ⟨a,cd⟩:∃ a:Nat,fin b p=(a:Int):=⟨(fin b p).toNat,by omega⟩;obtain ⟨c,ao⟩:∃ c:Nat,f=(c:Int):=⟨f.toNat,by omega⟩;have WH:ix D f=ix D0 f:=by rw [ao];exact aG c (by omega) (by rw [←ao];exact aZ)
 unfold Ql;by_cases al:p.1≠wo∧ix D (fin b p)<0
 ·rw [if_pos al,cd,te,WH];have SV:ix D (a:Int)<0:=by rw [←cd];exact al.2
  have NQ:ix D0 (a:Int)<0:=by
   refine Classical.byContradiction fun bI=>?_;have:=aG a (by omega) (by omega);omega
  have adU:D[a]'(by omega)<0:=by rw [qW (by omega)] at SV;exact SV
  have nv:ix (D.set a (ix D0 f+1)) (a:Int)=ix D0 f+1:=LB (by omega);refine ⟨by simpa using ad,?_,fun g aO yF=>?_,fun g aO yF=>?_,⟨N++[(a:Int)],by simp [bL],fun g aO=>?_⟩,fun q a3 PK=>?_⟩
  ·have:=RK D a (ix D0 f+1) (by omega) adU (by omega);simp only [su,List.length_singleton];omega
  ·(have bM:g≠a:=fun e=>by subst e;omega);simp only;rw [Ju bM];exact aG g aO yF
  ·by_cases N3:g=a
   ·subst N3;exact .inr ⟨nv,⟨p,aC,al.1,cd⟩,by simp⟩
   ·simp only;rw [Ju N3];rcases a6 g aO yF with e | ⟨e,ck,dE⟩
    ·exact .inl e
    ·exact .inr ⟨e,ck,by simp [dE]⟩
  ·rcases sN.1 aO with aO | aO
   ·obtain ⟨aJ,aP,cj⟩:=bV g aO;obtain ⟨F8,rfl⟩:∃ F8:Nat,g=(F8:Int):=⟨g.toNat,by omega⟩;refine ⟨aJ,aP,?_⟩;by_cases N3:F8=a
    ·subst N3;exact nv
    ·simp only;rw [Ju N3];exact cj
   ·simp only [sK] at aO;subst aO;exact ⟨by omega,by omega,nv⟩
  ·have key:0≤ix D (fin b q)∨fin b q=(a:Int):=by
    rcases sN.1 a3 with a3 | a3
    ·exact .inl (cN q a3 PK)
    ·simp only [sK] at a3;subst a3;exact .inr cd
   rcases key with key | key
   ·rcases Classical.em (fin b q=(a:Int)) with e | e
    ·simp only;rw [e,nv];omega
    ·have:ix (D.set a (ix D0 f+1)) (fin b q)=ix D (fin b q):=by
      unfold ix;rcases uB (fin b q) 0 with aN | aN
      ·(have fQ:(fin b q).toNat=0:=by omega);rw [fQ];rw [sE];by_cases WO:a=0
       ·subst WO;exfalso;have k:=key;unfold ix at k;rw [fQ,sE] at k;rw [qW (by omega)] at SV;rw [sk (by omega)] at k;simp at k;omega
       ·rw [si WO];rfl
      ·rw [sE,si (by omega)];rfl
     simp only;rw [this];exact key
   ·simp only;rw [key,nv];omega
 ·rw [if_neg al];refine ⟨ad,af,aG,a6,⟨N,bL,bV⟩,fun q a3 PK=>?_⟩;rcases sN.1 a3 with a3 | a3
  ·exact cN q a3 PK
  ·simp only [sK] at a3;subst a3
   have:¬ ix D (fin b q)<0:=fun e=>al ⟨PK,e⟩
   simp only;omega
theorem Wv {b:p3} (p1:qu b) {wo f:Int} {Q0 D0:List Int} (aQ:0≤f∧f<b.1) (aZ:0≤ix D0 f) (aet:ix D0 f≤50) {Qh:List Int} (a3:ix Qh (0:Int)=f) (en:Q0.length+H9 D0≤100):∀ (l He:List (Int×Int)) (s:List Int×List Int),(∀ p∈l,p∈places b f)→Mk b wo f Q0 D0 He s →
  ∃ aF,HD (Mc b wo Qh) l s=some aF∧Mk b wo f Q0 D0 (He++l) aF
 | [],He,s,_,h=>⟨s,rfl,by simpa using h⟩
 | p::l,He,s,ak,h=>by
   have aC:=ak p (by simp);have NP:=p1.f6;obtain ⟨c,ao⟩:∃ c:Nat,f=(c:Int):=⟨f.toNat,by omega⟩;(have WH:ix s.2 f=ix D0 f:=by rw [ao];exact h.fI c (by omega) (by rw [←ao];exact aZ));obtain ⟨aF,e1,ck⟩:=Wv p1 aQ aZ aet a3 en l (He++[p]) _ (fun q a3=>ak q (by simp [a3])) (h.step p1 aQ aZ aC);have hW:=h.Wb;refine ⟨aF,?_,by simpa using ck⟩;rw [HD,akM p1 ⟨a3,aQ⟩ aC h.len (by omega) (by omega),r_];exact e1
structure I2 (b:p3) (wo to:Int) (Q D:List Int):Prop where
 len:D.length=6
 q:∀ f∈Q,0≤f∧f<b.1∧0≤ix D f
 room:Q.length+H9 D≤6
 small:∀ g:Nat,g<6→0≤ix D (g:Int)→ix D (g:Int)+H9 D≤5
 walk:∀ g:Nat,g<6→0≤ix D (g:Int)→rT b wo (ix D (g:Int)).toNat to (g:Int)
 sort:Q.Pairwise fun x y=>ix D x≤ix D y
 top:∀ f r,Q=f::r→∀ g:Nat,g<6→ix D (g:Int)≤ix D f+1
 proc:∀ g:Nat,g<6→0≤ix D (g:Int)→(g:Int) ∉ Q→∀ h,rO b wo (g:Int) h→0≤ix D h∧ix D h≤ix D (g:Int)+1
 zero:0≤to∧to<6∧ix D to=0
theorem rO.in {b:p3} (p1:qu b) {wo f g:Int} (h:rO b wo f g):0≤g∧g<b.1:=by
 obtain ⟨p,ad,_,rfl⟩:=h;exact Pp p1 ad
theorem I2.next {b:p3} (p1:qu b) {wo to f:Int} {r D:List Int} (h:I2 b wo to (f::r) D) {s:List Int×List Int} (ai:Mk b wo f r D (places b f) s):I2 b wo to s.1 s.2:=by
 obtain ⟨cG,Jn⟩:=s;obtain ⟨aJ,aP,cj,jM,⟨N,Dh,LD⟩,Xb⟩:=ai;simp only at aJ aP cj jM Dh LD Xb;subst Dh;have NP:=p1.f6;have WV:=h.q f (by simp);obtain ⟨c,ao⟩:∃ c:Nat,f=(c:Int):=⟨f.toNat,by omega⟩;have yN:∀ g:Int,0≤g→g<6→∃ n:Nat,g=(n:Int)∧n<6:=fun g ad af=>⟨g.toNat,by omega,by omega⟩;have hold:∀ g:Int,0≤g→g<6→0≤ix D g→ix Jn g=ix D g:=fun g ad af aG=>by
  obtain ⟨n,rfl,aN⟩:=yN g ad af;exact cj n aN aG
 have hle:∀ g:Nat,g<6→ix Jn (g:Int)≤ix D f+1:=fun g aO=>by
  rcases uB (ix D (g:Int)) 0 with aS | aS
  ·rcases jM g aO aS with e | e
   ·omega
   ·omega
  ·rw [cj g aO aS];exact h.top f r rfl g aO
 have aj:∀ x∈r,0≤x∧x<b.1∧0≤ix D x∧ix Jn x=ix D x:=fun x al=>by
  have:=h.q x (by simp [al]);exact ⟨this.1,this.2.1,this.2.2,hold x this.1 (by omega) this.2.2⟩
 have C':=tB.1 h.sort;have en:=h.room;simp only [sL] at en;refine ⟨aJ,fun g aO=>?_,by simp only;omega,fun g aO aS=>?_,fun g aO aS=>?_,?_,fun Nz r' he g aO=>?_,fun g aO aS SO aX he=>?_,⟨h.zero.1,h.zero.2.1,by simp only;rw [hold to h.zero.1 h.zero.2.1 (by have:=h.zero.2.2;omega)];exact h.zero.2.2⟩⟩
 ·rcases sN.1 aO with aO | aO
  ·have:=aj g aO;exact ⟨this.1,this.2.1,by simp only;omega⟩
  ·have:=LD g aO;exact ⟨this.1,this.2.1,by simp only;omega⟩
 ·have Cs:=h.small c (by omega) (by rw [←ao];omega);rw [←ao] at Cs;simp only [su] at aP;rcases uB (ix D (g:Int)) 0 with ad | ad
  ·rcases jM g aO ad with e | e
   ·simp only at aS;omega
   ·have B9:1≤N.length:=by
     rcases sN.1 e.2.2 with dE | dE
     ·have:=(aj _ dE).2.2.1;omega
     ·exact v8 dE
    simp only;omega
  ·have:=h.small g aO ad;simp only;rw [cj g aO ad];omega
 ·rcases uB (ix D (g:Int)) 0 with ad | ad
  ·rcases jM g aO ad with e | ⟨e,ck,_⟩
   ·simp only at aS;omega
   ·simp only;rw [e,show (ix D f+1).toNat=(ix D f).toNat+1 by omega];exact ⟨f,by have:=h.walk c (by omega) (by rw [←ao];omega);rw [ao];rw [←ao] at this ⊢;exact this,ck⟩
  ·simp only;rw [cj g aO ad];exact h.walk g aO ad
 ·simp only;rw [uW];refine ⟨C'.2.imp_of_mem fun {x y} al a0 HF=>by rw [(aj x al).2.2.2,(aj y a0).2.2.2];exact HF,?_,fun x al y a0=>?_⟩
  ·exact List.Pairwise.imp_of_mem (R:=fun _ _=>True) (fun {x y} al a0 _=>by rw [(LD x al).2.2,(LD y a0).2.2];omega) (List.pairwise_of_forall fun _ _=>trivial)
  ·obtain ⟨n,rfl,aN⟩:=yN x (aj x al).1 (by have:=(aj x al).2.1;omega);rw [(LD y a0).2.2];exact hle n aN
 ·simp only at he ⊢;have alx:ix D f≤ix Jn Nz:=by
   (have hm:Nz∈r++N:=by rw [he];simp);rcases sN.1 hm with hm | hm
   ·rw [(aj Nz hm).2.2.2];exact C'.1 Nz hm
   ·rw [(LD Nz hm).2.2];omega
  have:=hle g aO;omega
 ·simp only at aS SO ⊢;have bI:=rO.in p1 he;rcases Classical.em ((g:Int)=f) with e | e
  ·rw [e] at he ⊢;obtain ⟨n,rfl,aN⟩:=yN aX bI.1 (by omega);rw [hold f WV.1 (by omega) WV.2.2];obtain ⟨p,bR,b4,eC⟩:=he;exact ⟨by rw [←eC];exact Xb p bR b4,hle n aN⟩
  ·rcases uB (ix D (g:Int)) 0 with ad | ad
   ·rcases jM g aO ad with ck | ⟨_,_,dE⟩
    ·omega
    ·exact absurd dE SO
   ·have:=h.proc g aO ad (fun hm=>by
     rcases sj.1 hm with ck | ck
     ·exact e ck
     ·exact SO (List.mem_append_left _ ck)) aX he
    rw [cj g aO ad,hold aX bI.1 (by omega) this.1];exact this
theorem aaf {b:p3} (p1:qu b) {wo to:Int} {k:List Int→Option (List Int)}:∀ (m:Nat) (Q D:List Int),I2 b wo to Q D→Q.length+H9 D<m→∃ Jn,I2 b wo to [] Jn∧Mb b wo k m D Q=k Jn
 | 0,_,_,_,h=>absurd h (by omega)
 | m+1,Q,D,cm,hm=>by
   rw [Mb];have NP:=p1.f6;have ak:=p1.len;cases Q with
   | nil=>rw [if_neg (by simp)];exact ⟨D,cm,rfl⟩
   | cons f r =>
     have aQ:=cm.q f (by simp);obtain ⟨c,ao⟩:∃ c:Nat,f=(c:Int):=⟨f.toNat,by omega⟩;have ae4:=cm.small c (by omega) (by rw [←ao];omega);rw [←ao] at ae4;have en:=cm.room;simp only [sL] at en hm;obtain ⟨aF,e1,ck⟩:=Wv p1 ⟨aQ.1,aQ.2.1⟩ aQ.2.2 (by omega) (Qh:=f::r) rfl (by omega) (Q0:=r) (D0:=D) (wo:=wo) (places b f) [] (r,D) (fun p h=>h) ⟨cm.len,rfl,fun _ _ _=>rfl,fun _ _ _=>.inl rfl,⟨[],by simp,by simp⟩,by simp⟩;rw [ub] at ck;have hW:=ck.Wb;obtain ⟨Jn,d1,d2⟩:=aaf p1 m aF.1 aF.2 (I2.next p1 cm ck) (by omega);refine ⟨Jn,d1,?_⟩;rw [if_pos (decide_eq_true (by simp)),p' (by simp),p' ⟨by omega,by simp only [sL];omega⟩,show ix (f::r) (0:Int)=f from rfl,QG,r_,Kf,if_pos (by omega),r_];show ((HD (Mc b wo (f::r)) (places b f) (r,D)).bind _)=_;rw [e1,r_];exact d2
structure Mm (b:p3) (wo to:Int) (D:List Int):Prop where
 len:D.length=6
 walk:∀ g:Nat,g<6→0≤ix D (g:Int)→rT b wo (ix D (g:Int)).toNat to (g:Int)
 least:∀ (n:Nat) (g:Int),rT b wo n to g→0≤g∧g<6∧0≤ix D g∧ix D g≤n
 small:∀ g:Nat,g<6→ix D (g:Int)≤5
theorem I2.adw {b:p3} (p1:qu b) {wo to:Int} {D:List Int} (h:I2 b wo to [] D):Mm b wo to D:=by
 have NP:=p1.f6;refine ⟨h.len,h.walk,fun n=>?_,fun g aO=>?_⟩
 ·induction n with
  | zero =>
    intro g aO;have aO:to=g:=aO;subst aO;have:=h.zero;exact ⟨this.1,this.2.1,by omega,by omega⟩
  | succ n a_ =>
    rintro g ⟨f,ad,af⟩;obtain ⟨i1,i2,i3,i4⟩:=a_ f ad;obtain ⟨c,rfl⟩:∃ c:Nat,f=(c:Int):=⟨f.toNat,by omega⟩;have aC:=h.proc c (by omega) i3 (by simp) g af;have hi:=rO.in p1 af;exact ⟨hi.1,by omega,aC.1,by omega⟩
 ·rcases uB (ix D (g:Int)) 0 with ad | ad
  ·omega
  ·have:=h.small g aO ad;omega
theorem aae {k:List Int→Option (List Int)}:∀ (m i:Nat) (z:Int) (D:List Int),z=i→i≤6→6-i<m→D.length=6→(∀ j:Nat,j<i→ix D (j:Int)=-1)→Ma k m z D=k (List.replicate 6 (-1))
 | 0,i,_,_,_,_,h,_,_=>absurd h (by omega)
 | m+1,i,_,D,rfl,hi,hm,ak,qQ=>by
   rw [Ma];by_cases h:i<6
   ·rw [if_pos (decide_eq_true (by omega)),p' ⟨by omega,by omega,ak.symm⟩,rj i (by omega),te];refine aae m (i+1) _ _ rfl (by omega) (by omega) (by simpa using ak) fun j aw=>?_;by_cases gY:j=i
    ·subst gY;exact LB (by omega)
    ·rw [Ju gY];exact qQ j (by omega)
   ·rw [if_neg (by simp;omega)];congr 1;refine List.ext_getElem (by simp [ak]) fun j ad af=>?_;have:=qQ j (by omega);rw [qW ad] at this;rw [this,v9]
theorem aad {b:p3} (p1:qu b) {wo to:Int} (ax:0≤to∧to<b.1):∃ D,OQ b to wo=some D∧Mm b wo to D:=by
 have NP:=p1.f6;obtain ⟨c,ao⟩:∃ c:Nat,to=(c:Int):=⟨to.toNat,by omega⟩;subst ao;have nv:ix ((List.replicate 6 (-1:Int)).set c 0) (c:Int)=0:=LB (by simp;omega);have PJ:∀ g:Nat,g<6→g≠c→ix ((List.replicate 6 (-1:Int)).set c 0) (g:Int)=-1:=fun g aO bM=>by
  rw [Ju bM,qW (by rw [List.length_replicate];omega),v9]
 have SK:H9 ((List.replicate 6 (-1:Int)).set c 0)=5:=by
  have:=RK (List.replicate 6 (-1:Int)) c 0 (by rw [List.length_replicate];omega) (by rw [v9];omega) (by omega);have e:H9 (List.replicate 6 (-1:Int))=6:=by decide
  omega
 have cm:I2 b wo (c:Int) [(c:Int)] ((List.replicate 6 (-1:Int)).set c 0):=by
  refine ⟨by simp,fun f aQ=>?_,by rw [SK];simp,fun g aO aS=>?_,fun g aO aS=>?_,by simp,fun f r he g aO=>?_,fun g aO aS aN h he=>?_,⟨by omega,by omega,nv⟩⟩
  ·simp only [sK] at aQ;subst aQ;exact ⟨ax.1,ax.2,by rw [nv];omega⟩
  ·by_cases e:g=c
   ·subst e;rw [nv,SK];omega
   ·rw [PJ g aO e] at aS;omega
  ·by_cases e:g=c
   ·subst e;rw [nv];exact rfl
   ·rw [PJ g aO e] at aS;omega
  ·simp only [List.cons.injEq] at he;obtain ⟨rfl,_⟩:=he;rw [nv];by_cases e:g=c
   ·subst e;rw [nv];omega
   ·rw [PJ g aO e];omega
  ·by_cases e:g=c
   ·subst e;simp at aN
   ·rw [PJ g aO e] at aS;omega
 obtain ⟨D,d1,d2⟩:=aaf p1 (k:=fun oi =>
         p5 (oi.length=6) <|
         p5 (oi.length=6∧(List.replicate 6 (0:Int)).length=6) <|
         p5 (oi.length=6) <|
         some oi) p6 _ _ cm (ri (by rw [SK];simp))
 refine ⟨D,?_,I2.adw p1 d1⟩;rw [OQ,aae p6 0 0 _ rfl (by omega) (ri (by omega)) (by simp) (fun j aw=>absurd aw (by omega)),p' ⟨by omega,by omega,by simp⟩,te,d2];have:=d1.len;rw [p' this,p' ⟨this,by simp⟩,p' this]
end Go.Proofs.YtfakoboiahbhaaaGreat.Ab


namespace Go.Proofs.YtfakoboiahbhaaaGreat.Ab
open Go
set_option maxRecDepth 20000
set_option maxHeartbeats 4000000
end Go.Proofs.YtfakoboiahbhaaaGreat.Ab


namespace Go.Proofs.YtfakoboiahbhaaaGreat.Ab
open Go
theorem J' {b:p3} {f:Int} {p:Int×Int}:p∈places b f↔0≤p.1∧p.1<(b.2.length:Int)∧0≤p.2∧p.2≤1∧qo b p=f:=by
 refine ⟨Tj,fun ⟨ad,af,aG,a6,bL⟩=>?_⟩;have e:qZ (2*p.1.toNat+p.2.toNat)=p:=by
  rw [PX (n:=b.2.length) (by omega) (by omega)];exact Prod.ext (by simp only;omega) (by simp only;omega)
 refine sm.2 ⟨2*p.1.toNat+p.2.toNat,sO.2 ⟨sG.2 (by omega),?_⟩,e⟩;rw [rA,e];exact decide_eq_true bL
def Lp (p:Int×Int):Int×Int:=(p.1,1-p.2)
theorem acE {b:p3} {p:Int×Int} (h:0≤p.2∧p.2≤1):qo b (Lp p)=fin b p:=by
 unfold qo fin Lp;simp only;by_cases ad:0<p.2
 ·rw [if_neg (by omega),if_pos ad]
 ·rw [if_pos (by omega),if_neg ad]
theorem adC {b:p3} {p:Int×Int} (h:0≤p.2∧p.2≤1):fin b (Lp p)=qo b p:=by
 unfold qo fin Lp;simp only;by_cases ad:0<p.2
 ·rw [if_neg (by omega),if_pos ad]
 ·rw [if_pos (by omega),if_neg ad]
theorem rO.symm {b:p3} {wo f g:Int} (h:rO b wo f g):rO b wo g f:=by
 obtain ⟨p,ad,af,aG⟩:=h;have aC:=J'.1 ad;exact ⟨Lp p,J'.2 ⟨aC.1,aC.2.1,by simp only [Lp];omega,by simp only [Lp];omega,by rw [acE ⟨aC.2.2.1,aC.2.2.2.1⟩,aG]⟩,af,by rw [adC ⟨aC.2.2.1,aC.2.2.2.1⟩,aC.2.2.2.2]⟩
theorem rT.cons {b:p3} {wo:Int}:∀ {n:Nat} {a c g:Int},rO b wo a c→rT b wo n c g→rT b wo (n+1) a g
 | 0,a,c,g,h,(k:c=g)=>⟨a,rfl,k ▸ h⟩
 | n+1,a,c,g,h,⟨f,aJ,aP⟩=>⟨f,rT.cons h aJ,aP⟩
theorem rT.symm {b:p3} {wo:Int}:∀ {n:Nat} {a g:Int},rT b wo n a g→rT b wo n g a
 | 0,_,_,(h:_=_)=>h.symm
 | _+1,_,_,⟨_,ad,af⟩=>rT.cons af.symm ad.symm
theorem rT.gK {b:p3} {wo:Int} {n:Nat} {a g:Int} (h:rT b wo (n+1) a g):∃ c,rO b wo a c∧rT b wo n c g:=by
 obtain ⟨f,ad,af⟩:=h.symm;exact ⟨f,af.symm,ad.symm⟩
theorem agr {b:p3} (p1:qu b) {wo to f:Int} {D:List Int} (qQ:Mm b wo to D) {n:Nat} (aQ:0≤f∧f<6) (aN:ix D f=((n+1:Nat):Int)):∃ p∈places b f,p.1≠wo∧ix D (fin b p)=(n:Int):=by
 obtain ⟨c,rfl⟩:∃ c:Nat,f=(c:Int):=⟨f.toNat,by omega⟩;have hw:=qQ.walk c (by omega) (by omega);rw [aN] at hw;obtain ⟨e,he,hw⟩:=hw.symm.gK;have ak:=qQ.least n e hw.symm;have po:(n:Int)≤ix D e:=by
  refine Classical.byContradiction fun bI=>?_;have af:=qQ.walk e.toNat (by omega) (by rw [tQ ak.1];exact ak.2.2.1);rw [tQ ak.1] at af;have:=(qQ.least ((ix D e).toNat+1) (c:Int) ⟨e,af,he.symm⟩).2.2.2;omega
 obtain ⟨p,ad,af,aG⟩:=he;exact ⟨p,ad,af,by rw [aG];omega⟩
end Go.Proofs.YtfakoboiahbhaaaGreat.Ab


namespace Go.Proofs.YtfakoboiahbhaaaGreat.Ab
open Go
set_option maxRecDepth 20000
set_option maxHeartbeats 4000000

end Go.Proofs.YtfakoboiahbhaaaGreat.Ab


namespace Go.Proofs.YtfakoboiahbhaaaGreat.Ab
open Go
set_option maxRecDepth 20000
set_option maxHeartbeats 4000000

end Go.Proofs.YtfakoboiahbhaaaGreat.Ab


namespace Go.Proofs.YtfakoboiahbhaaaGreat.Ab
open Go
def alU (r:Row) (s:Int):Bool:=r.any fun q=>decide (q.1=s)
theorem Wk {b:p3} (p1:qu b) {wo to:Int} {D:List Int} (qQ:Mm b wo to D):∀ (n:Nat) (f:Int),0≤f→f<b.1→ix D f=(n:Int)→∃ l:List Int,l.Nodup∧l.length=n+1∧∀ x∈l,0≤x∧x<b.1∧ix D x≤(n:Int)
 | 0,f,ad,af,h=>⟨[f],by simp,rfl,fun x al=>by simp only [sK] at al;subst al;exact ⟨ad,af,by omega⟩⟩
 | n+1,f,ad,af,h=>by
   have bV:=p1.f6;obtain ⟨p,bR,_,b4⟩:=agr p1 qQ ⟨ad,by omega⟩ h;have aQ:=Pp p1 bR;obtain ⟨l,dJ,kI,MC⟩:=Wk p1 qQ n _ aQ.1 aQ.2 b4;refine ⟨f::l,t_.2 ⟨fun hm=>?_,dJ⟩,by simp [kI],fun x al=>?_⟩
   ·have:=(MC f hm).2.2;omega
   ·rcases sj.1 al with e | e
    ·subst e;exact ⟨ad,af,by omega⟩
    ·have:=MC x e;exact ⟨this.1,this.2.1,by omega⟩
theorem ady {b:p3} (p1:qu b) {wo to f:Int} {D:List Int} (qQ:Mm b wo to D) (ad:0≤f) (af:f<b.1):ix D f<b.1:=by
 rcases uB (ix D f) 0 with h | h
 ·omega
 ·obtain ⟨l,dJ,kI,MC⟩:=Wk p1 qQ (ix D f).toNat f ad af (by omega);have:=LH (n:=b.1.toNat) dJ fun x al=>by have:=MC x al;omega
  omega
end Go.Proofs.YtfakoboiahbhaaaGreat.Ab


namespace Go.Proofs.YtfakoboiahbhaaaGreat.Ab
open Go
set_option maxRecDepth 20000
set_option maxHeartbeats 4000000
def QB (b:qb) (p9:p8→Option p8):Nat→Int→p8→Option p8
 | 0,_,_=>none
 | m+1,s1,s2 =>
   if (decide (s1<b.1))=true then
    p5 ((s2.length+1)*8≤140737488355328) <|
    QB b p9 m (w (s1+(1:Int))) (s2++[s1])
   else
    p9 s2
def OM (b:qb) (but:Int) (q2:p8→Option p8):Nat→Int→p8→Option p8
 | 0,_,_=>none
 | m+1,qe,qi =>
   if (decide (qe<(b.2.length:Int)))=true then
    p5 (0≤qe∧qe<(b.2.length:Int)) <|
    p5 (0≤qe∧qe<(b.2.length:Int)) <|
    if (decide (qe≠but))=true then
     p5 (0≤(ix b.2 qe).1∧(ix b.2 qe).1<(qi.length:Int)) <|
     p5 (0≤(ix b.2 qe).2∧(ix b.2 qe).2<(qi.length:Int)) <|
     p5 (0≤(ix b.2 qe).1∧(ix b.2 qe).1<(qi.length:Int)) <|
     p5 (0≤(ix b.2 qe).2∧(ix b.2 qe).2<((qi.set ((ix b.2 qe).1).toNat (min (ix qi ((ix b.2 qe).1)) (ix qi ((ix b.2 qe).2)))).length:Int)) <|
     OM b but q2 m (w (qe+(1:Int))) ((qi.set ((ix b.2 qe).1).toNat (min (ix qi ((ix b.2 qe).1)) (ix qi ((ix b.2 qe).2)))).set ((ix b.2 qe).2).toNat (min (ix qi ((ix b.2 qe).1)) (ix qi ((ix b.2 qe).2))))
    else
     OM b but q2 m (w (qe+(1:Int))) qi
   else
    q2 qi
def M5 (b:qb) (but:Int) (qq:p8→Option p8):Nat→Int→p8→Option p8
 | 0,_,_=>none
 | m+1,s3,Gy =>
   if (decide (s3<b.1))=true then
    OM b but (fun oi =>
      M5 b but qq m (w (s3+(1:Int))) oi) p6 (0:Int) Gy
   else
    qq Gy
def US (b:qb) (but:Int):Option p8 :=
 if (decide ((0:Int)<b.1))=true then
  QB b (fun xZ =>
    M5 b but (fun FW =>
      some FW) p6 (0:Int) xZ) p6 (w ((0:Int)+(1:Int))) [(0:Int)]
 else
  none
end Go.Proofs.YtfakoboiahbhaaaGreat.Ab


namespace Go.Proofs.YtfakoboiahbhaaaGreat.Ab
open Go
def rU (b:p3) (wo f g:Int):Prop:=∃ n,rT b wo n f g
theorem rT.trans {b:p3} {wo:Int}:∀ {n m:Nat} {a c g:Int},rT b wo n a c→rT b wo m c g→rT b wo (n+m) a g
 | n,0,a,c,g,h,(k:c=g)=>k ▸ h
 | n,m+1,a,c,g,h,⟨f,aJ,aP⟩=>⟨f,rT.trans h aJ,aP⟩
theorem rU.refl {b:p3} {wo:Int} (f:Int):rU b wo f f:=⟨0,rfl⟩
theorem rU.symm {b:p3} {wo f g:Int} (h:rU b wo f g):rU b wo g f:=h.elim fun n h=>⟨n,h.symm⟩
theorem rU.trans {b:p3} {wo f g h:Int} (ad:rU b wo f g) (af:rU b wo g h):rU b wo f h:=by
 obtain ⟨n,ad⟩:=ad;obtain ⟨m,af⟩:=af;exact ⟨n+m,ad.trans af⟩
theorem rO.Nv {b:p3} {wo f g:Int} (h:rO b wo f g):rU b wo f g:=⟨1,f,rfl,h⟩
theorem rO.of {b:p3} {wo:Int} {i:Nat} (hi:i<b.2.length) (hw:(i:Int)≠wo):rO b wo (ix b.2 (i:Int)).1 (ix b.2 (i:Int)).2 :=
 ⟨((i:Int),0),J'.2 ⟨by simp only;omega,by simp only;omega,by simp only;omega,by simp only;omega,rfl⟩,hw,rfl⟩
theorem rO.rN {b:p3} {wo f g:Int} (h:rO b wo f g):∃ i:Nat,i<b.2.length∧(i:Int)≠wo∧(((ix b.2 (i:Int)).1=f∧(ix b.2 (i:Int)).2=g)∨((ix b.2 (i:Int)).2=f∧(ix b.2 (i:Int)).1=g)):=by
 obtain ⟨p,ad,af,aG⟩:=h;have aC:=J'.1 ad;refine ⟨p.1.toNat,by omega,by omega,?_⟩;rw [tQ aC.1];have a6:=aC.2.2.2.2;unfold qo at a6;unfold fin at aG;by_cases ao:0<p.2
 ·rw [if_pos ao] at a6 aG;exact .inr ⟨a6,aG⟩
 ·rw [if_neg ao] at a6 aG;exact .inl ⟨a6,aG⟩
theorem rU.short {b:p3} (p1:qu b) {wo f g:Int} (aO:0≤g∧g<b.1) (aQ:0≤f∧f<b.1) (h:rU b wo f g):∃ n:Nat,(n:Int)<b.1∧rT b wo n f g:=by
 obtain ⟨D,_,qQ⟩:=aad p1 (wo:=wo) aO;obtain ⟨n,h⟩:=h;have ak:=qQ.least n f h.symm;have bV:=p1.f6;have aU:=ady p1 qQ aQ.1 aQ.2;have hw:=qQ.walk f.toNat (by omega) (by rw [tQ aQ.1];exact ak.2.2.1);rw [tQ aQ.1] at hw;exact ⟨(ix D f).toNat,by omega,hw.symm⟩
theorem LN {b:p3} (p1:qu b) {i:Nat} (hi:i<b.2.length):0≤(ix b.2 (i:Int)).1∧(ix b.2 (i:Int)).1<b.1∧0≤(ix b.2 (i:Int)).2∧(ix b.2 (i:Int)).2<b.1:=by
 have hm:=PN (l:=b.2) (i:=(i:Int)) ⟨by omega,by omega⟩;have ad:=p1.left _ hm;have af:=p1.right _ hm;exact ⟨ad.1,ad.2,af.1,af.2⟩
def upto (n:Nat):List Int:=(List.range n).map fun (j:Nat)=>(j:Int)
theorem GN (n:Nat):(upto n).length=n:=by simp [upto]
theorem Y4 {n j:Nat} (h:j<n):ix (upto n) (j:Int)=(j:Int):=by
 rw [qW (by rw [GN];exact h)];simp [upto]
theorem Oy (n:Nat):upto (n+1)=upto n++[(n:Int)]:=by simp [upto,List.range_succ]
theorem Z0 {b:p3} (bV:b.1≤6) {k:List Int→Option (List Int)}:∀ (m i:Nat) (z:Int),z=i→(i:Int)≤b.1→b.1.toNat-i<m→QB b k m z (upto i)=k (upto b.1.toNat)
 | 0,i,_,_,_,h=>absurd h (by omega)
 | m+1,i,_,rfl,hi,hm=>by
   rw [QB];by_cases h:(i:Int)<b.1
   ·rw [if_pos (decide_eq_true h),p' (by rw [GN];omega),rj i (by omega),←Oy];exact Z0 bV m (i+1) _ rfl (by omega) (by omega)
   ·rw [if_neg (by simpa using h),show i=b.1.toNat by omega]
structure NI (b:p3) (wo:Int) (S:List Int):Prop where
 len:S.length=b.1.toNat
 HP:∀ f:Int,0≤f→f<b.1→rU b wo f (ix S f)∧0≤ix S f∧ix S f<b.1
structure Nm (b:p3) (wo:Int) (S0:List Int) (i:Nat) (S:List Int):Prop extends NI b wo S where
 mono:∀ f:Int,0≤f→f<b.1→ix S f≤ix S0 f
 done:∀ j:Nat,j<i→(j:Int)≠wo→ix S (ix b.2 (j:Int)).1≤ix S0 (ix b.2 (j:Int)).2∧ix S (ix b.2 (j:Int)).2≤ix S0 (ix b.2 (j:Int)).1
theorem afm {S:List Int} {x y f v:Int} (al:0≤x∧x<(S.length:Int)) (a0:0≤y∧y<(S.length:Int)) (aQ:0≤f∧f<(S.length:Int)):ix ((S.set x.toNat v).set y.toNat v) f=if f=x∨f=y then v else ix S f:=by
 obtain ⟨a,rfl⟩:∃ a:Nat,x=(a:Int):=⟨x.toNat,by omega⟩;obtain ⟨c,rfl⟩:∃ c:Nat,y=(c:Int):=⟨y.toNat,by omega⟩;obtain ⟨e,rfl⟩:∃ e:Nat,f=(e:Int):=⟨f.toNat,by omega⟩;rw [te,te];by_cases ad:e=c
 ·subst ad;rw [LB (by simp;omega),if_pos (.inr rfl)]
 ·rw [Ju ad];by_cases af:e=a
  ·subst af;rw [LB (by omega),if_pos (.inl rfl)]
  ·rw [Ju af,if_neg (by omega)]
theorem Nm.step {b:p3} (p1:qu b) {wo:Int} {S0 S:List Int} {i:Nat} (h:Nm b wo S0 i S) (hi:i<b.2.length) (hw:(i:Int)≠wo) :
  Nm b wo S0 (i+1) ((S.set (ix b.2 (i:Int)).1.toNat (min (ix S (ix b.2 (i:Int)).1) (ix S (ix b.2 (i:Int)).2))).set (ix b.2 (i:Int)).2.toNat (min (ix S (ix b.2 (i:Int)).1) (ix S (ix b.2 (i:Int)).2))):=by
 have ai:=LN p1 hi;have he:=rO.of hi hw;obtain ⟨x,al⟩:∃ x,x=(ix b.2 (i:Int)).1:=⟨_,rfl⟩;obtain ⟨y,a0⟩:∃ y,y=(ix b.2 (i:Int)).2:=⟨_,rfl⟩;rw [←al,←a0] at ai he;rw [←al,←a0];have ak:=h.len;have PG:∀ f:Int,0≤f→f<b.1→_:=fun f ad af=>afm (S:=S) (x:=x) (y:=y) (f:=f) (v:=min (ix S x) (ix S y)) ⟨ai.1,by omega⟩ ⟨ai.2.2.1,by omega⟩ ⟨ad,by omega⟩;have SF:=h.HP x ai.1 ai.2.1;have SG:=h.HP y ai.2.2.1 ai.2.2.2;have hle:∀ f:Int,0≤f→f<b.1→ix ((S.set x.toNat (min (ix S x) (ix S y))).set y.toNat (min (ix S x) (ix S y))) f≤ix S f:=fun f ad af=>by
  rw [PG f ad af];split
  ·rename_i e;rcases e with rfl | rfl <;> omega
  ·exact uD _
 refine ⟨⟨by simpa using ak,fun f ad af=>?_⟩,fun f ad af=>vj (hle f ad af) (h.mono f ad af),fun j aw SN=>?_⟩
 ·rw [PG f ad af];split
  ·rename_i e;rcases Int.le_total (ix S x) (ix S y) with hm | hm
   ·rw [Int.min_eq_left hm];refine ⟨?_,SF.2⟩;rcases e with rfl | rfl
    ·exact SF.1
    ·exact he.symm.Nv.trans SF.1
   ·rw [Int.min_eq_right hm];refine ⟨?_,SG.2⟩;rcases e with rfl | rfl
    ·exact he.Nv.trans SG.1
    ·exact SG.1
  ·exact h.HP f ad af
 ·have ed:j<i∨j=i:=by omega
  rcases ed with ed | rfl
  ·have My:=LN p1 (i:=j) (by omega);obtain ⟨d1,d2⟩:=h.done j ed SN;exact ⟨vj (hle _ My.1 My.2.1) d1,vj (hle _ My.2.2.1 My.2.2.2) d2⟩
  ·rw [←al,←a0,PG x ai.1 ai.2.1,PG y ai.2.2.1 ai.2.2.2,if_pos (.inl rfl),if_pos (.inr rfl)];have dd:=h.mono x ai.1 ai.2.1;have de:=h.mono y ai.2.2.1 ai.2.2.2;omega
theorem UT {b:p3} (p1:qu b) {wo:Int} {S0:List Int} {k:List Int→Option (List Int)}:∀ (m i:Nat) (z:Int) (S:List Int),z=i→i≤b.2.length→b.2.length-i<m→Nm b wo S0 i S →
  ∃ S',Nm b wo S0 b.2.length S'∧OM b wo k m z S=k S'
 | 0,i,_,_,_,_,h,_=>absurd h (by omega)
 | m+1,i,_,S,rfl,hi,hm,h=>by
   have ak:=p1.len;rw [OM];by_cases aU:i<b.2.length
   ·have ai:=LN p1 aU;have C_:=h.len;rw [Iz aU,G7 aU,G7 aU];by_cases hw:(i:Int)≠wo
    ·rw [if_pos (decide_eq_true hw),p' ⟨ai.1,by omega⟩,p' ⟨ai.2.2.1,by omega⟩,p' ⟨ai.1,by omega⟩,p' ⟨ai.2.2.1,by rw [List.length_set];omega⟩,rj i (by omega)];exact UT p1 m (i+1) _ _ rfl (by omega) (by omega) (h.step p1 aU hw)
    ·rw [if_neg (by simpa using hw),rj i (by omega)];exact UT p1 m (i+1) _ _ rfl (by omega) (by omega) ⟨h.toNI,h.mono,fun j aw SN=>h.done j (by omega) SN⟩
   ·rw [Iy aU];(obtain rfl:i=b.2.length:=by omega);exact ⟨S,h,rfl⟩
theorem Z1 {b:p3} (p1:qu b) {wo:Int} {k:List Int→Option (List Int)}:∀ (m r:Nat) (z:Int) (S:List Int),z=r→(r:Int)≤b.1→b.1.toNat-r<m→NI b wo S→(∀ (n:Nat) (f g:Int),n≤r→0≤f→f<b.1→rT b wo n f g→ix S f≤g) →
  ∃ S',NI b wo S'∧(∀ (n:Nat) (f g:Int),(n:Int)≤b.1→0≤f→f<b.1→rT b wo n f g→ix S' f≤g)∧M5 b wo k m z S=k S'
 | 0,i,_,_,_,_,h,_,_=>absurd h (by omega)
 | m+1,r,_,S,rfl,aj,hm,h,hw=>by
   have bV:=p1.f6;rw [M5];by_cases aU:(r:Int)<b.1
   ·rw [if_pos (decide_eq_true aU)];obtain ⟨S',d1,d2⟩:=UT p1 (wo:=wo) (S0:=S) (k:=fun oi=>M5 b wo k m (w ((r:Int)+(1:Int))) oi) p6 0 0 S rfl (sq _) (ri (by have:=p1.len;omega)) ⟨h,fun _ _ _=>uD _,fun j aw=>absurd aw (by omega)⟩;rw [d2,rj r (by omega)];refine Z1 p1 m (r+1) _ S' rfl (by omega) (by omega) d1.toNI fun n f g aN ad af J8=>?_;cases n with
    | zero =>
      have e:f=g:=J8;subst e;have:=hw 0 f f (by omega) ad af rfl;have:=d1.mono f ad af;omega
    | succ n =>
      obtain ⟨c,he,ao⟩:=J8.gK;have WT:=rO.in p1 he;have:=hw n c g (by omega) WT.1 WT.2 ao;obtain ⟨i,i1,i2,i3⟩:=he.rN;obtain ⟨e1,ck⟩:=d1.done i i1 i2;rcases i3 with ⟨rfl,rfl⟩ | ⟨rfl,rfl⟩ <;> omega
   ·rw [if_neg (by simpa using aU)];exact ⟨S,h,fun n f g aN ad af J8=>hw n f g (by omega) ad af J8,rfl⟩
structure O6 (b:p3) (wo:Int) (N:List Int):Prop extends NI b wo N where
 least:∀ f g:Int,0≤f→f<b.1→0≤g→g<b.1→rU b wo f g→ix N f≤g
theorem akz {b:p3} (p1:qu b) (wo:Int):∃ N,US b wo=some N∧O6 b wo N:=by
 have bV:=p1.f6;have ad:=p1.f1
 have B9:NI b wo (upto b.1.toNat):=⟨GN _,fun f J7 Co=>by
  obtain ⟨a,rfl⟩:∃ a:Nat,f=(a:Int):=⟨f.toNat,by omega⟩
  rw [Y4 (by omega)];exact ⟨rU.refl _,J7,Co⟩⟩
 obtain ⟨S',d1,d2,d3⟩:=Z1 p1 (wo:=wo) (k:=fun FW=>some FW) p6 0 0 (upto b.1.toNat) rfl (by omega) (ri (by omega)) B9 (fun n f g aN J7 Co J8=>by
  obtain rfl:n=0:=by omega
  have e:f=g:=J8;subst e;obtain ⟨a,rfl⟩:∃ a:Nat,f=(a:Int):=⟨f.toNat,by omega⟩
  rw [Y4 (by omega)];exact uD _)
 refine ⟨S',?_,d1,fun f g f1 f2 cb b8 ao=>?_⟩
 ·rw [US,if_pos (decide_eq_true (by omega))];have:=Z0 bV (k:=fun xZ=>M5 b wo (fun FW=>some FW) p6 (0:Int) xZ) p6 1 1 rfl (by omega) (ri (by omega));rw [show upto 1=[(0:Int)] from rfl] at this;rw [show w ((0:Int)+(1:Int))=1 from rfl,this,d3]
 ·obtain ⟨n,aN,J8⟩:=ao.short p1 ⟨cb,b8⟩ ⟨f1,f2⟩;exact d2 n f g (by omega) f1 f2 J8
theorem O6.iff {b:p3} {wo:Int} {N:List Int} (h:O6 b wo N) {f g:Int} (aQ:0≤f∧f<b.1) (aO:0≤g∧g<b.1):ix N f=ix N g↔rU b wo f g:=by
 have a:=h.HP f aQ.1 aQ.2;have c:=h.HP g aO.1 aO.2;refine ⟨fun e=>a.1.trans (by rw [e];exact c.1.symm),fun e=>?_⟩;have dJ:=h.least f (ix N g) aQ.1 aQ.2 c.2.1 c.2.2 (e.trans c.1);have kI:=h.least g (ix N f) aO.1 aO.2 a.2.1 a.2.2 (e.symm.trans a.1);omega
end Go.Proofs.YtfakoboiahbhaaaGreat.Ab


namespace Go.Proofs.YtfakoboiahbhaaaGreat.Ab
open Go
theorem X3:∀ {a b:List Int},a.Pairwise (·<·)→b.Pairwise (·<·)→(∀ x,x∈a↔x∈b)→a=b
 | [],[],_,_,_=>rfl
 | [],y::b,_,_,h=>by have:=(h y).2 (by simp);simp at this
 | x::a,[],_,_,h=>by have:=(h x).1 (by simp);simp at this
 | x::a,y::b,cd,ag,h=>by
   obtain ⟨aB,aH⟩:=tB.1 cd;obtain ⟨bo,cI⟩:=tB.1 ag;have HF:x=y:=by
    rcases sj.1 ((h x).1 (by simp)) with e | e
    ·exact e
    ·rcases sj.1 ((h y).2 (by simp)) with ck | ck
     ·exact ck.symm
     ·have:=aB y ck;have:=bo x e;omega
   subst HF;rw [X3 aH cI fun z=>?_];constructor
   ·intro bm;rcases sj.1 ((h z).1 (by simp [bm])) with e | e
    ·have:=aB z bm;omega
    ·exact e
   ·intro bm;rcases sj.1 ((h z).2 (by simp [bm])) with e | e
    ·have:=bo z bm;omega
    ·exact e
theorem Ov {α:Type} [Inhabited α] {lt:α→α→Bool} (ai:Sort.SWO lt) (l:List α):((Sort.insertionSort lt l.toArray 0 l.length).toList).Perm l∧((Sort.insertionSort lt l.toArray 0 l.length).toList).Pairwise (fun x y=>lt y x=false):=by
 obtain ⟨⟨ad,_,aG⟩,a6⟩:=Sort.insertionSort_holds (lt:=lt) ai l.toArray 0 l.length (sq _) (by simp);generalize Sort.insertionSort lt l.toArray 0 l.length=d at ad aG a6;have ad:d.size=l.length:=by simpa using ad
 have e1:(d.extract 0 l.length).toList=d.toList:=by rw [←ad];simp
 have ck:(l.toArray.extract 0 l.length).toList=l:=by simp
 rw [e1,ck] at aG;refine ⟨aG,tf.2 fun i j hi aw gW=>?_⟩;have hi':i<d.size:=by simpa using hi
 have ed:j<d.size:=by simpa using aw
 have:=a6 i j (sq _) gW (by omega);rw [getElem!_pos d i hi',getElem!_pos d j ed] at this;simpa using this
theorem Yi (l:List Int):(rY l).Perm l:=(Ov Sort.swo_ltInt l).1
theorem aid {l:List Int} (h:l.Nodup):(rY l).Pairwise (·<·):=by
 have aQ:=Ov Sort.swo_ltInt l;have aN:(rY l).Nodup:=aQ.1.nodup_iff.2 h;refine tf.2 fun i j hi aw gW=>?_;have ad:=tf.1 aQ.2 i j hi aw gW;have af:=tf.1 aN i j hi aw gW;simp only [Sort.ltInt,decide_eq_false_iff_not] at ad;have ad:¬ (rY l)[j]<(rY l)[i]:=ad;omega
theorem Yp:Sort.SWO Hq:=by
 constructor
 all_goals intros
 all_goals simp only [Hq,decide_eq_true_eq,decide_eq_false_iff_not] at *
 all_goals omega
theorem aii (l:List (List Int)):(HY l).Perm l:=(Ov Yp l).1
theorem aij {l:List (List Int)} (h:l.Pairwise fun x y=>ix x 0≠ix y 0):(HY l).Pairwise fun x y=>ix x 0<ix y 0:=by
 have aQ:=Ov Yp l;have aN:(HY l).Pairwise fun x y=>ix x 0≠ix y 0:=aQ.1.symm.pairwise h fun {x y} HF=>Ne.symm HF;refine tf.2 fun i j hi aw gW=>?_;have ad:=tf.1 aQ.2 i j hi aw gW;have af:=tf.1 aN i j hi aw gW;simp only [Hq,decide_eq_false_iff_not] at ad;have ad:¬ ix (HY l)[j] 0<ix (HY l)[i] 0:=ad;omega
theorem X7:∀ {P Q:List (List Int)},P.Pairwise (fun x y=>ix x 0<ix y 0)→Q.Pairwise (fun x y=>ix x 0<ix y 0)→(∀ r,r∈P↔r∈Q)→P=Q
 | [],[],_,_,_=>rfl
 | [],y::b,_,_,h=>by have:=(h y).2 (by simp);simp at this
 | x::a,[],_,_,h=>by have:=(h x).1 (by simp);simp at this
 | x::a,y::b,cd,ag,h=>by
   obtain ⟨aB,aH⟩:=tB.1 cd;obtain ⟨bo,cI⟩:=tB.1 ag;have HF:x=y:=by
    rcases sj.1 ((h x).1 (by simp)) with e | e
    ·exact e
    ·rcases sj.1 ((h y).2 (by simp)) with ck | ck
     ·exact ck.symm
     ·have:=aB y ck;have:=bo x e;omega
   subst HF;rw [X7 aH cI fun z=>?_];constructor
   ·intro bm;rcases sj.1 ((h z).1 (by simp [bm])) with e | e
    ·subst e;have:=aB z bm;omega
    ·exact e
   ·intro bm;rcases sj.1 ((h z).2 (by simp [bm])) with e | e
    ·subst e;have:=bo z bm;omega
    ·exact e
end Go.Proofs.YtfakoboiahbhaaaGreat.Ab


namespace Go.Proofs.YtfakoboiahbhaaaGreat.Ab
open Go
def qD (b:p3) (i f:Int):Prop:=(ix b.2 i).1=f∨(ix b.2 i).2=f
inductive q9 (b:p3) (S:List Int) (f:Int):Int→Prop
 | refl:q9 b S f f
 | step {g h:Int} (i:Int):q9 b S f g→i∈S→qD b i g→qD b i h→q9 b S f h
theorem q9.trans {b:p3} {S:List Int} {f g h:Int} (ad:q9 b S f g) (af:q9 b S g h):q9 b S f h:=by
 induction af with
 | refl=>exact ad
 | step i _ hi aB aH a_=>exact .step i a_ hi aB aH
theorem q9.one {b:p3} {S:List Int} {f g i:Int} (hi:i∈S) (ad:qD b i f) (af:qD b i g):q9 b S f g:=.step i .refl hi ad af
theorem q9.symm {b:p3} {S:List Int} {f g:Int} (h:q9 b S f g):q9 b S g f:=by
 induction h with
 | refl=>exact .refl
 | step i _ hi aB aH a_=>exact (q9.one hi aH aB).trans a_
theorem q9.mono {b:p3} {S S':List Int} {f g:Int} (cm:∀ x∈S,x∈S') (h:q9 b S f g):q9 b S' f g:=by
 induction h with
 | refl=>exact .refl
 | step i _ hi aB aH a_=>exact .step i a_ (cm i hi) aB aH
def Qm (b:p3) (i k:Int):Bool:=IB (ix b.2 i) (ix b.2 k)
theorem YU {b:p3} {i k:Int}:Qm b i k=true↔∃ f,qD b i f∧qD b k f:=by
 unfold Qm IB qD;simp only [tL,decide_eq_true_eq];constructor
 ·rintro (((h | h) | h) | h)
  ·exact ⟨_,.inl rfl,.inl h.symm⟩
  ·exact ⟨_,.inl rfl,.inr h.symm⟩
  ·exact ⟨_,.inr rfl,.inl h.symm⟩
  ·exact ⟨_,.inr rfl,.inr h.symm⟩
 ·rintro ⟨f,ad | ad,af | af⟩ <;> omega
def HE (b:p3) (s:Int) (r:List Int):Bool:=r.any (Qm b s)
structure q4 (b:p3) (S:List Int) (out:List (List Int)):Prop where
 ne:∀ r∈out,r≠[]
 so:∀ r∈out,r.Pairwise (·<·)
 mem:∀ x,x∈S↔∃ r∈out,x∈r
 rf:out.Pairwise fun r q=>∀ x∈r,x ∉ q
 HP:∀ r∈out,∀ x∈r,∀ y∈r,∀ f g,qD b x f→qD b y g→q9 b S f g
 sep:∀ r∈out,∀ q∈out,∀ x∈r,∀ y∈q,∀ f,qD b x f→qD b y f→r=q
def own (b:p3) (out:List (List Int)) (s:Int):List Int:=s::(out.filter (HE b s)).flatten
def zC (b:p3) (out:List (List Int)) (s:Int):List (List Int):=(out.filter fun r=>!HE b s r)++[rY (own b out s)]
section
variable {b:p3} {S:List Int} {out:List (List Int)} {s:Int}
theorem q4.uniq (h:q4 b S out) {r q:List Int} {x:Int} (aj:r∈out) (a3:q∈out) (ad:x∈r) (af:x∈q):r=q:=h.sep r aj q a3 x ad x af _ (.inl rfl) (.inl rfl)
theorem Xt {x:Int}:x∈own b out s↔x=s∨∃ r∈out,HE b s r=true∧x∈r:=by
 unfold own;simp only [sj,ui,sO,and_assoc]
theorem q4.XB (h:q4 b S out) (ai:s ∉ S):(own b out s).Nodup:=by
 unfold own;refine t_.2 ⟨fun hm=>?_,?_⟩
 ·obtain ⟨r,aj,al⟩:=ui.1 hm;exact ai ((h.mem s).2 ⟨r,(sO.1 aj).1,al⟩)
 ·refine List.pairwise_flatten.2 ⟨fun r aj=>(h.so r (sO.1 aj).1).imp fun HF e=>by omega,(h.rf.filter _).imp fun Lz x al y a0 e=>Lz x al (by rw [e];exact a0)⟩
theorem q4.step (h:q4 b S out) (ai:s ∉ S):q4 b (S++[s]) (zC b out s):=by
 have jG:=h.XB ai;have Mx:∀ x,x∈rY (own b out s)↔x=s∨∃ r∈out,HE b s r=true∧x∈r:=fun x=>by rw [(Yi _).mem_iff];exact Xt
 have Ja:∀ r,r∈zC b out s↔(r∈out∧HE b s r=false)∨r=rY (own b out s):=fun r=>by
  unfold zC;simp only [sN,sO,sK,Bool.not_eq_true']
 have Je:∀ x∈S,x∈S++[s]:=fun x al=>by simp [al]
 have W5:∀ x∈rY (own b out s),∀ f,qD b x f→q9 b (S++[s]) (ix b.2 s).1 f:=fun x al f aQ=>by
  rcases (Mx x).1 al with rfl | ⟨r,aj,bI,IQ⟩
  ·exact .one (by simp) (.inl rfl) aQ
  ·obtain ⟨k,av,ax⟩:=uh.1 bI;obtain ⟨g,cb,b8⟩:=YU.1 ax;exact (q9.one (i:=s) (by simp) (.inl rfl) cb).trans ((h.HP r aj k av x IQ g f b8 aQ).mono Je)
 have fU:∀ r∈out,HE b s r=false→∀ x∈r,∀ y∈rY (own b out s),∀ f,qD b x f→qD b y f→False:=fun r aj bI x al y a0 f f1 f2=>by
  rcases (Mx y).1 a0 with rfl | ⟨q,a3,CW,afc⟩
  ·have:HE b y r=true:=uh.2 ⟨x,al,YU.2 ⟨f,f2,f1⟩⟩
   rw [this] at bI;cases bI
  ·obtain rfl:=h.sep r aj q a3 x al y afc f f1 f2;rw [CW] at bI;cases bI
 refine ⟨fun r aj=>?_,fun r aj=>?_,fun x=>?_,?_,fun r aj x al y a0 f g aQ aO=>?_,fun r aj q a3 x al y a0 f aQ aO=>?_⟩
 ·rcases (Ja r).1 aj with ⟨ad,_⟩ | rfl
  ·exact h.ne r ad
  ·intro e;have:=(Mx s).2 (.inl rfl);rw [e] at this;cases this
 ·rcases (Ja r).1 aj with ⟨ad,_⟩ | rfl
  ·exact h.so r ad
  ·exact aid jG
 ·constructor
  ·intro al;rcases sN.1 al with al | al
   ·obtain ⟨r,aj,IQ⟩:=(h.mem x).1 al;cases bI:HE b s r with
    | true=>exact ⟨_,(Ja _).2 (.inr rfl),(Mx x).2 (.inr ⟨r,aj,bI,IQ⟩)⟩
    | false=>exact ⟨r,(Ja r).2 (.inl ⟨aj,bI⟩),IQ⟩
   ·exact ⟨_,(Ja _).2 (.inr rfl),(Mx x).2 (.inl (by simpa using al))⟩
  ·rintro ⟨r,aj,IQ⟩;rcases (Ja r).1 aj with ⟨ad,_⟩ | rfl
   ·exact Je x ((h.mem x).2 ⟨r,ad,IQ⟩)
   ·rcases (Mx x).1 IQ with rfl | ⟨q,a3,_,MA⟩
    ·simp
    ·exact Je x ((h.mem x).2 ⟨q,a3,MA⟩)
 ·unfold zC;refine uW.2 ⟨h.rf.filter _,by simp,fun r aj q a3 x al MA=>?_⟩;simp only [sK] at a3;subst a3;have aj:=sO.1 aj;exact fU r aj.1 (by simpa using aj.2) x al x MA _ (.inl rfl) (.inl rfl)
 ·rcases (Ja r).1 aj with ⟨ad,_⟩ | rfl
  ·exact (h.HP r ad x al y a0 f g aQ aO).mono Je
  ·exact (W5 x al f aQ).symm.trans (W5 y a0 g aO)
 ·rcases (Ja r).1 aj with ⟨ad,af⟩ | rfl
  ·rcases (Ja q).1 a3 with ⟨aG,_⟩ | rfl
   ·exact h.sep r ad q aG x al y a0 f aQ aO
   ·exact (fU r ad af x al y a0 f aQ aO).elim
  ·rcases (Ja q).1 a3 with ⟨aG,a6⟩ | rfl
   ·exact (fU q aG a6 y a0 x al f aO aQ).elim
   ·rfl
theorem q4.perm {GM:List (List Int)} (h:q4 b S out) (aC:GM.Perm out):q4 b S GM:=by
 refine ⟨fun r aj=>h.ne r (aC.mem_iff.1 aj),fun r aj=>h.so r (aC.mem_iff.1 aj),fun x=>?_,aC.symm.pairwise h.rf fun {r q} Lz x al iN=>Lz x iN al,fun r aj=>h.HP r (aC.mem_iff.1 aj),fun r aj q a3=>h.sep r (aC.mem_iff.1 aj) q (aC.mem_iff.1 a3)⟩;rw [h.mem x];exact ⟨fun ⟨r,aj,al⟩=>⟨r,aC.mem_iff.2 aj,al⟩,fun ⟨r,aj,al⟩=>⟨r,aC.mem_iff.1 aj,al⟩⟩
theorem q4.closed (h:q4 b S out) {q:List Int} (a3:q∈out) {x:Int} (al:x∈q) {f g:Int} (aQ:qD b x f) (ao:q9 b S f g):∀ z∈S,qD b z g→z∈q:=by
 induction ao with
 | refl =>
   intro z bm SW;obtain ⟨r,aj,fG⟩:=(h.mem z).1 bm;rw [h.sep q a3 r aj x al z fG f aQ SW];exact fG
 | step i _ hi aB aH a_ =>
   intro z bm SW;have lU:=a_ i hi aB;obtain ⟨r,aj,fG⟩:=(h.mem z).1 bm;rw [h.sep q a3 r aj i lU z fG _ aH SW];exact fG
theorem q4.same {P Q:List (List Int)} (B_:q4 b S P) (bl:q4 b S Q) (ad:P.Pairwise fun x y=>ix x 0<ix y 0) (af:Q.Pairwise fun x y=>ix x 0<ix y 0):P=Q:=by
 have key:∀ {P Q:List (List Int)},q4 b S P→q4 b S Q→∀ r∈P,r∈Q:=fun {P Q} B_ bl r aj=>by
  obtain ⟨x,al⟩:=List.exists_mem_of_ne_nil r (B_.ne r aj);have afa:=(B_.mem x).2 ⟨r,aj,al⟩;obtain ⟨q,a3,MA⟩:=(bl.mem x).1 afa;have e:r=q:=X3 (B_.so r aj) (bl.so q a3) fun y=>by
   constructor
   ·intro a0;exact bl.closed a3 MA (.inl rfl) (B_.HP r aj x al y a0 _ _ (.inl rfl) (.inl rfl)) y ((B_.mem y).2 ⟨r,aj,a0⟩) (.inl rfl)
   ·intro a0;exact B_.closed aj al (.inl rfl) (bl.HP q a3 x MA y a0 _ _ (.inl rfl) (.inl rfl)) y ((bl.mem y).2 ⟨q,a3,a0⟩) (.inl rfl)
  rw [e];exact a3
 exact X7 ad af fun r=>⟨key B_ bl r,key bl B_ r⟩
end
end Go.Proofs.YtfakoboiahbhaaaGreat.Ab


namespace Go.Proofs.YtfakoboiahbhaaaGreat.Ab
open Go
def rr (b:p3) (l:List Int):Prop:=∀ x∈l,0≤x∧x<(b.2.length:Int)
section
variable {b:p3} {S:List Int} {out:List (List Int)} {s:Int}
theorem aao {r:List Int} (ag:b.2.length≤1000) (aj:rr b r) (ai:0≤s∧s<(b.2.length:Int)) (ak:r.length≤1000):Mg r b s=some (HE b s r):=by
 rw [Mg,U2 (p:=Qm b s) (fun k av=>by
  rw [QJ,UG,p' ai,p' (aj k av)];rfl) (by omega),r_];rfl
theorem J_ {l:List Int} (aN:l.Nodup) (ak:rr b l):l.length≤b.2.length:=LH aN ak
theorem R6 (ag:b.2.length≤1000) (ai:0≤s∧s<(b.2.length:Int)):∀ (out:List (List Int)) (acc:List Int),(∀ r∈out,rr b r∧r.length≤1000)→(acc++(out.filter (HE b s)).flatten).length≤1000 →
  HD (PB b s) out acc=some (acc++(out.filter (HE b s)).flatten)
 | [],acc,_,_=>by simp [HD]
 | r::out,acc,h,ak=>by
   have aj:=h r (by simp);rw [HD,PB,aao ag aj.1 ai aj.2,r_];rw [tO] at ak ⊢;cases bI:HE b s r with
   | true =>
     rw [bI,if_pos rfl,tS,←sA] at ak;have e9:acc.length+r.length≤1000:=by
      rw [su,su] at ak;omega
     rw [if_pos rfl,p' (by omega),r_,R6 ag ai out _ (fun q a3=>h q (by simp [a3])) ak,if_pos rfl,tS,sA]
   | false =>
     rw [bI] at ak;rw [if_neg (by decide),r_,R6 ag ai out _ (fun q a3=>h q (by simp [a3])) (by simpa using ak),if_neg (by decide)]
theorem Wc {f:List Int→Option Bool} {p:List Int→Bool}:∀ (l:List (List Int)),(∀ r∈l,f r=some (p r))→Lm f l=some (l.filter fun r=>!p r)
 | [],_=>rfl
 | r::l,h=>by
   rw [Lm,h r (by simp),r_,Wc l fun q a3=>h q (by simp [a3]),r_,tO];cases p r <;> rfl
theorem XG:∀ (l:List (List Int)),(∀ r∈l,r≠[])→l.length≤l.flatten.length
 | [],_=>Nat.le_refl _
 | r::l,h=>by
   have:=XG l fun q a3=>h q (by simp [a3]);have:=List.length_pos_iff.2 (h r (by simp));simp only [tS,su,sL];omega
theorem q4.Ws (h:q4 b S out):out.flatten.Nodup :=
 List.pairwise_flatten.2 ⟨fun r aj=>(h.so r aj).imp fun HF e=>by omega,h.rf.imp fun Lz x al y a0 e=>Lz x al (by rw [e];exact a0)⟩
theorem q4.LA (h:q4 b S out) (cm:rr b S):∀ r∈out,rr b r:=fun r aj x al=>cm x ((h.mem x).2 ⟨r,aj,al⟩)
theorem q4.few (h:q4 b S out) (cm:rr b S):out.length≤b.2.length:=by
 refine Nat.le_trans (XG out h.ne) (J_ h.Ws fun x al=>?_);obtain ⟨r,aj,al⟩:=ui.1 al;exact h.LA cm r aj x al
theorem agB (ag:b.2.length≤10) (cm:rr b S) (h:q4 b S out) (ai:s ∉ S) (dM:0≤s∧s<(b.2.length:Int)):Od b out s=some (zC b out s):=by
 have gX:=h.LA cm;have C3:∀ r∈out,r.length≤10:=fun r aj=>by
  have:=J_ ((h.so r aj).imp fun HF e=>by omega:r.Nodup) (gX r aj);omega
 have fE:(own b out s).length≤10:=by
  have aeW:rr b (own b out s):=fun x al=>by
   rcases Xt.1 al with e | ⟨r,aj,_,IQ⟩
   ·rw [e];exact dM
   ·exact gX r aj x IQ
  have:=J_ (h.XB ai) aeW;omega
 have aQ:=h.few cm;have WU:=R6 (by omega) dM out [s] (fun r aj=>⟨gX r aj,by have:=C3 r aj;omega⟩) (by have:[s]++(out.filter (HE b s)).flatten=own b out s:=rfl;rw [this];omega);rw [show [s]++(out.filter (HE b s)).flatten=own b out s from rfl] at WU;rw [Od,WU,r_,p' ⟨by omega,by unfold own;simp,by omega⟩,Wc (p:=HE b s) out (fun r aj=>aao (by omega) (gX r aj) dM (by have:=C3 r aj;omega)),r_];rfl
theorem XH (ag:b.2.length≤10):∀ (R S:List Int) (out:List (List Int)),(S++R).Nodup→rr b (S++R)→q4 b S out→∃ GM,HD (Od b) R out=some GM∧q4 b (S++R) GM
 | [],S,out,_,_,h=>⟨out,rfl,by simpa using h⟩
 | s::R,S,out,aN,gX,h=>by
   have ai:s ∉ S:=fun ai=>by
    have:=(tT.1 aN).2.2 s ai s (by simp);exact this rfl
   (have e:S++s::R=(S++[s])++R:=by simp);obtain ⟨GM,ad,af⟩:=XH ag R (S++[s]) (zC b out s) (by rw [←e];exact aN) (by rw [←e];exact gX) (h.step ai);refine ⟨GM,?_,by rw [e];exact af⟩;rw [HD,agB ag (fun x al=>gX x (by simp [al])) h ai (gX s (by simp)),r_,ad]
theorem q4.nil:q4 b [] []:=⟨fun r aj=>absurd aj (by simp),fun r aj=>absurd aj (by simp),fun x=>by simp,.nil,fun r aj=>absurd aj (by simp),fun r aj=>absurd aj (by simp)⟩
theorem head_mem {r:List Int} (h:r≠[]):ix r 0∈r:=by
 cases r with
 | nil=>exact absurd rfl h
 | cons a r=>simp [ix]
theorem aab (ag:b.2.length≤10) (aN:S.Nodup) (gX:rr b S):∃ out,JN b S=some out∧q4 b S out∧out.Pairwise fun x y=>ix x 0<ix y 0:=by
 obtain ⟨out,ad,af⟩:=XH ag S [] [] (by simpa using aN) (by simpa using gX) q4.nil;rw [ub] at af;have aC:=af.perm (aii out);have ak:=J_ aN gX;refine ⟨HY out,?_,aC,aij (af.rf.imp_of_mem fun {r q} aj a3 Lz e=>Lz _ (head_mem (af.ne r aj)) (by rw [e];exact head_mem (af.ne q a3)))⟩;have aQ:=af.few gX;have c9:out.all MU=true:=List.all_eq_true.2 fun r aj=>by
  have hm:=head_mem (af.ne r aj);have hi:=af.LA gX r aj _ hm;have he:(!r.isEmpty)=true:=by
   cases r with
   | nil=>exact absurd rfl (af.ne [] aj)
   | cons a r=>rfl
  rw [MU,he,decide_eq_true hi.1,decide_eq_true (by omega)];rfl
 rw [JN,p' (by omega),ad,r_,p' ⟨by omega,c9⟩]
end
end Go.Proofs.YtfakoboiahbhaaaGreat.Ab
