
import Derived.Test.YtfakoboiahbhaaaGreatJp5
import Derived.KernelRfl
import Derived.Test.YtfakoboiahbhaaaGreatJp6
import Derived.Test.YtfakoboiahbhaaaGreatJp7
import Derived.Test.YtfakoboiahbhaaaGreatJp4
set_option linter.unusedSimpArgs false
set_option linter.unusedVariables false
set_option linter.unusedSectionVars false

open Bool renaming false_or→vg,or_eq_true→tQ
open Decidable renaming not_not→uS
open Int renaming le_refl→uw,le_trans→uY,lt_or_le→uo,toNat_natCast→ti,toNat_of_nonneg→tK
open List renaming any_cons→uH,any_eq_false→uI,drop_eq_getElem_cons→sU,drop_eq_nil_of_le→tb,drop_zero→sT,getD_eq_getElem?_getD→sC,getElem?_append→sg,getElem?_eq_getElem→sd,getElem?_set_ne→sa,getElem_mem→sH,getElem_replicate→vT,length_append→sj,length_cons→sD,length_pos_of_mem→vS,length_set→tz,map_cons→sE,map_map→tq,mem_append→sQ,mem_cons→sf,mem_filter→sK,mem_map→sq,mem_range→sx,mem_singleton→sI,nil_append→uc,nodup_cons→tY,pairwise_cons→tx,pairwise_iff_getElem→tc,take_zero→tI
open Nat renaming lt_succ_self→su,zero_le→si
open Option renaming bind_some→rW
namespace Go.Proofs.YtfakoboiahbhaaaGreat.Ab
open Go
def aJ:qu:=.pure 18 [.agg [.int .i64 4,.ay [.int .i64 0,.int .i64 1,.int .i64 1,.int .i64 2,.int .i64 2,.int .i64 0,.int .i64 2,.int .i64 3] 4 .shared],.ay [.int .i64 1,.int .i64 1,.int .i64 0,.int .i64 1,.int .i64 2,.int .i64 1,.int .i64 3,.int .i64 0] 4 .shared] (.tuple [.int .i64 2,.int .i64 3,.int .i64 0])
def aP:qu:=.pure 22 [.agg [.int .i64 4,.ay [.int .i64 0,.int .i64 1,.int .i64 1,.int .i64 2,.int .i64 2,.int .i64 0,.int .i64 2,.int .i64 3] 4 .shared],.ay [.int .i64 1,.int .i64 1,.int .i64 0,.int .i64 1,.int .i64 2,.int .i64 1,.int .i64 3,.int .i64 0] 4 .shared] (.int .i64 27)
def cl:qu:=.pure 27 [.agg [.int .i64 5,.ay [.int .i64 0,.int .i64 1,.int .i64 2,.int .i64 3,.int .i64 4,.int .i64 4] 3 .shared]] (.tuple [.ay [.int .i64 0,.int .i64 1,.int .i64 2,.int .i64 3] 4 .full,.int .i64 0])
def jP:qu:=.pure 29 [.agg [.int .i64 4,.ay [.int .i64 0,.int .i64 1,.int .i64 1,.int .i64 2,.int .i64 2,.int .i64 0,.int .i64 2,.int .i64 3] 4 .shared]] (.tuple [.ay [.ay [.int .i64 0,.int .i64 1,.int .i64 2,.int .i64 3] 4 .shared] 1 .shared,.int .i64 0])
def Di:qu:=.pure 35 [.agg [.int .i64 4,.ay [.int .i64 0,.int .i64 1,.int .i64 1,.int .i64 2,.int .i64 2,.int .i64 0,.int .i64 2,.int .i64 3] 4 .shared]] (.tuple [.int .i64 1,.int .i64 0])
def Ic:qu:=.pure 35 [.agg [.int .i64 2,.ay [.int .i64 0,.int .i64 1,.int .i64 1,.int .i64 0] 2 .shared]] (.tuple [.int .i64 1,.int .i64 0])
end Go.Proofs.YtfakoboiahbhaaaGreat.Ab


namespace Go.Proofs.YtfakoboiahbhaaaGreat.Ab
open Go
def ZU:List qu:=[bE,bV,rv,Jy,MV,Jh,ZN,ZO,ZP,Zz,ZA,ZB,ZC,ZD,ZE,ZF,ZG,ZH,ZI,ZJ,ZK,ZL,ZM]
theorem ajL:∀ e∈ZU,qF Go.Proofs.Tryz.prog e:=by
 simp only [ZU,List.forall_mem_cons];exact ⟨ajs,ajx,ajy,ajz,ajA,ajB,ajC,ajD,ajE,aji,ajj,ajk,ajl,ajm,ajn,ajo,ajp,ajq,ajr,ajt,aju,ajv,ajw,by simp⟩
abbrev abZ:Prop:=qt 17 [] (B true)
theorem ajM:abZ:=GO ajL (by kernel_rfl)
end Go.Proofs.YtfakoboiahbhaaaGreat.Ab


namespace Go.Proofs.YtfakoboiahbhaaaGreat.Ab
open Go
def IU:Option Bool:=some true
theorem Uy {v:Bool} (h:IU=some v):qt 17 [] (B v):=by
 obtain rfl:=Option.some.inj h;exact ajM
end Go.Proofs.YtfakoboiahbhaaaGreat.Ab


namespace Go.Proofs.YtfakoboiahbhaaaGreat.Ab
open Go
set_option maxRecDepth 20000
set_option maxHeartbeats 4000000
noncomputable def aa5:ez :=
 GC [gO 1 [.hJ 0] .box,gO 2 [.iD (.bool false)] .iT] (GC [F7 3 1 1,Gm 4 3,Gl 5 4,F1 6 5 14 .gtr,Gq 2 6] .ret)
theorem afJ:zg Tryz.prog Vx 16=some (aa5,7,[.tmp 2]):=by kernel_rfl
def LW (b:p8):Option Bool :=
 some (decide ((14:Int)<(b.2.length:Int)))
theorem ajY {b:p8} {v:Bool} (h:LW b=some v):qt 16 [(.agg [(hS b.1),(.ay (b.2.flatMap p7) b.2.length .shared)])] (B v):=by
 refine qN dI afJ rfl rfl fun Q bn=>?_;have jz:qD [.tmp 2] Q (fun v=>(B v)) v:=fun T H bK=>bn _ T H bK;unfold LW at h;unfold aa5;conv=>whnf
 exact qd h jz rfl rfl

noncomputable def abI:ez :=
 GC [gO 4 [.iD (.bool false)] .iT] (GC [Gp 5 0,Gm 6 1,F2 7 5 6 .lss,Gq 8 7,cR 9 [.hJ 0] 8 false .iT,cR 10 [.hM 2] 8 false (.w8 .one),cR 11 [.hM 9,.hM 10] 8 false (.bin .gtr),gO 12 [.hM 8,.iD (.bool true),.hM 11] .pick,Gq 4 12] .ret)
theorem agl:zg Tryz.prog VT 93=some (abI,13,[.tmp 4]):=by kernel_rfl
def OK (n gR ba:Int):Option Bool :=
 if (decide (n<gR))=true then
  some true
 else
  some (decide (ba<n))
theorem alk {n:Int} {gR:Int} {ba:Int} {v:Bool} (h:OK n gR ba=some v):qt 93 [(hS n),(.bW [(hS gR)]),(.bW [(hS ba)])] (B v):=by
 refine qN dI agl rfl rfl fun Q bn=>?_;have jz:qD [.tmp 4] Q (fun v=>(B v)) v:=fun T H bK=>bn _ T H bK;unfold OK at h;unfold abI;conv=>whnf
 refine bs h (fun eV h=>?_) fun eV h=>?_
 ·rw [eV];conv=>whnf
  exact qd h jz rfl rfl
 ·rw [eV];conv=>whnf
  exact qd h jz rfl rfl

noncomputable def abq:ez :=
 GC [gO 3 [.hJ 0] .box,gO 4 [.hJ 1] .box,gO 6 [.iD (.bool false)] .iT] (GC [Gq 7 2,gO 8 [.hM 3,.hM 4] (.zw 93 0 2),gO 9 [.iD (.func 92 [] []),.sl 7,.sl 8] (.call 6),gO 10 [.hM 9] (.un .not),Gq 6 10] .ret)
theorem af4:zg Tryz.prog VI 66=some (abq,11,[.tmp 6]):=by kernel_rfl
def JT (lo hi:Int) (l:p0):Option Bool :=
 (Ki l (fun qq=>OK qq lo hi)).bind fun aS =>
 some (!aS)
theorem QA {lo:Int} {hi:Int} {l:p0} {v:Bool} (h:JT lo hi l=some v):qt 66 [(hS lo),(hS hi),(.ay (l.map hS) l.length .shared)] (B v):=by
 refine qN dI af4 rfl rfl fun Q bn=>?_;have jz:qD [.tmp 6] Q (fun v=>(B v)) v:=fun T H bK=>bn _ T H bK;unfold JT at h;unfold abq;conv=>whnf
 obtain ⟨aS,eV,h⟩:=qi h;refine ⟨_,_,JX (cs:=[(qj l .shared),(.func 93 [] [(.bW [(hS lo)]),(.bW [(hS hi)])])]) (bs:=[(qj l .shared),(.func 93 [] [(.bW [(hS lo)]),(.bW [(hS hi)])])]) (GN rfl (GN (Og HC (GN (LR (cs:=[(hS lo)]) (by first | exact qL.h | rfl | (simp [sg,I.settle];done)) rfl) (GN (LR (cs:=[(hS hi)]) (by first | exact qL.h | rfl | (simp [sg,I.settle];done)) rfl) HC))) HC)) (by rfl) (by exact (p5 (rz (fun _=>rfl) _ _ _) (p5 (MM rfl (p5 (Hf (p5 rfl rfl)) (p5 (Hf (p5 rfl rfl)) rfl))) rfl))) (aaV ⟨(p5 (Hf (p5 rfl rfl)) (p5 (Hf (p5 rfl rfl)) rfl)),by simp⟩ (fun _ _ a1=>alk a1) eV) rfl,?_⟩
 conv=>whnf
 exact qd h jz rfl rfl

noncomputable def abw:ez :=
 GC [gO 2 [.hJ 0] .box,gO 3 [.iD (.bool false)] .iT] (GC [F7 4 1 0,Gm 5 4,F1 6 5 1 .sub,gO 7 [.sl 2] (.oT 0),Gm 8 7,F7 9 2 1,Gm 10 9,gO 11 [.hM 8,.hM 10] (.ya 2 1 [.int .i64 0] [0,1]),gO 12 [.iD (.func 66 [] []),.iD (.int .i64 0),.sl 6,.sl 11] (.call 3),gO 13 [.hM 12] (.un .not),Gq 3 13] .ret)
theorem af9:zg Tryz.prog VM 71=some (abw,14,[.tmp 3]):=by kernel_rfl
def QD (s:(Int×Int)) (gR:p8):Option Bool :=
 (JT (0:Int) (w (gR.1-(1:Int))) [s.1,s.2]).bind fun aS =>
 some (!aS)
theorem akU {s:(Int×Int)} {gR:p8} {v:Bool} (h:QD s gR=some v):qt 71 [(.agg [(hS s.1),(hS s.2)]),(.bW [(hS gR.1),(.ay (gR.2.flatMap p7) gR.2.length .shared)])] (B v):=by
 refine qN dI af9 rfl rfl fun Q bn=>?_;have jz:qD [.tmp 3] Q (fun v=>(B v)) v:=fun T H bK=>bn _ T H bK;unfold QD at h;unfold abw;conv=>whnf
 obtain ⟨aS,eV,h⟩:=qi h;refine ⟨(p5 rfl (p5 rfl (p5 rfl rfl))),_,QA eV,?_⟩;conv=>whnf
 exact qd h jz rfl rfl

noncomputable def Q_:ez :=
 .loop (some (EA false [0,2,5,2,10])) (GC [gO 9 [.sl 8,.sl 7] (.bin .lss)] (.seq (.cond (.sl 9) .skip (.exit 0)) (.seq (.block 1 (GC [Gp 10 8,Gq 5 10] (GC [Gp 11 1,Gp 12 0,Gp 13 5,Gi 14 12 13 2,gO 15 [.hM 14] (.w8 (.str 2)),gO 16 [.sl 11,.sl 15] (.call 6)] (.cond (.sl 16) (GC [Gq 17 5,Gq 4 17] .ret) .skip)))) (Gt [F0 18 8 1,Gq 8 18]))))
noncomputable def abK:ez :=
 GC [Gn 4 0] (.seq (GC [Gp 6 0,Gl 7 6,Gn 8 0] (.block 0 Q_)) (GC [Gn 4 (-1)] .ret))
theorem agn:zg Tryz.prog Rs 95=some (abK,19,[.tmp 4]):=by kernel_rfl
def Mm (s:qc) (f:((Int×Int)→Option Bool)) (p4:Unit→Option Int):Nat→Int→Option Int
 | 0,_=>none
 | m+1,s1 =>
   if (decide (s1<(s.length:Int)))=true then
    p2 (0≤s1∧s1<(s.length:Int)) <|
    (f (ix s s1)).bind fun aS =>
    if aS=true then
     some s1
    else
     Mm s f p4 m (w (s1+(1:Int)))
   else
    p4 ()
def QG (s:qc) (f:((Int×Int)→Option Bool)):Option Int :=
 Mm s f (fun _ =>
   some (-1:Int)) p6 (0:Int)
theorem alo {s:qc} {f:((Int×Int)→Option Bool)} {p4:Unit→Option Int} {s1:Int} {q':FuncId} {qM:List I} (rn:Ha qM) (HQ:∀ (qq:(Int×Int)) (r:Bool),f qq=some r→qt q' ((.agg [(hS qq.1),(hS qq.2)])::qM) (B r)) {v:Int} {Q:rm}   (jz:qD [.tmp 4] Q (fun v=>(hS v)) v) (qY:∀ (p9:List I),p4 ()=some v→qV 19 [] p9→Q (.exit 0) p9 []) {T:List I} (bZ:eS (EA false [0,2,5,2,10]) T=GH 19 [(0,(qf s .shared)),(1,(.func q' [] qM)),(7,(hS (s.length:Int))),(8,(hS s1))]) (h:Mm s f p4 p6 s1=some v) :
  dC Tryz.prog Rs 95 0 none Q_ T [] Q:=by
 unfold Q_;refine wp_loop bZ ?_;refine .intro (fun m T H=>∃ (s1:Int),T=GH 19 [(0,(qf s .shared)),(1,(.func q' [] qM)),(7,(hS (s.length:Int))),(8,(hS s1))]∧H=[]∧Mm s f p4 m s1=some v) p6 ⟨s1,rfl,rfl,h⟩ ?_;clear h bZ;rintro m T H ⟨s1,rfl,rfl,h⟩;cases m
 ·exact q4 h
 rename_i m;rw [Mm.eq_2] at h;conv=>whnf
 refine bs h (fun eV h=>?_) fun eV h=>?_
 ·rw [eV];conv=>whnf
  refine qy h id fun fl h=>?_;rw [qR p7 2 qK s s1 fl];conv=>whnf
  obtain ⟨aS,qo,h⟩:=qi h;refine ⟨_,_,call6 (bs:=((.agg [(hS (ix s s1).1),(hS (ix s s1).2)])::qM)) (by simp only [sE,rn.im,rn.cu];rfl) (by simp only [sE,rn.im];exact (p5 (N1 (p5 rfl (p5 rfl rfl))) rn.Rf)) (HQ _ _ qo) rfl,?_⟩;conv=>whnf
  cases aS
  ·(conv=>whnf);replace h:=Hu rfl h;exact ⟨m,su m,(w (s1+(1:Int))),rfl,rfl,h⟩
  ·(conv=>whnf);replace h:=Hv rfl h;exact qd h jz rfl rfl
 ·rw [eV];conv=>whnf
  exact qY  _ h ⟨rfl,rfl⟩
theorem alp {s:qc} {f:((Int×Int)→Option Bool)} {q':FuncId} {qM:List I} (rn:Ha qM) (HQ:∀ (qq:(Int×Int)) (r:Bool),f qq=some r→qt q' ((.agg [(hS qq.1),(hS qq.2)])::qM) (B r)) {v:Int} (h:QG s f=some v):qt 95 [(.ay (s.flatMap p7) s.length .shared),(.func q' [] qM)] (hS v):=by
 refine qN dI agn rfl rfl fun Q bn=>?_;have jz:qD [.tmp 4] Q (fun v=>(hS v)) v:=fun T H bK=>bn _ T H bK;unfold QG at h;unfold abK;obtain ⟨Hy,qB⟩:∃ c,Q_=c:=⟨_,rfl⟩;rw [qB];conv=>whnf
 subst qB;refine alo rn HQ ?_ ?_ (by exact rfl) h
 ·exact fun T H bK=>jz T H bK
 ·intro  p9 h qs;obtain ⟨ru,rfl⟩:=qs.ex;conv=>whnf
  exact qd h jz rfl rfl

noncomputable def abx:ez :=
 GC [gO 4 [.iD (.bool false)] .iT] (GC [Gq 5 0,Gq 6 1,gO 7 [.iD (.func 95 [] []),.sl 5,.sl 6] (.call 6),F1 8 7 0 .geq,Gq 4 8] .ret)
theorem af_:zg Tryz.prog VN 72=some (abx,9,[.tmp 4]):=by kernel_rfl
def OE (s:qc) (f:((Int×Int)→Option Bool)):Option Bool :=
 (QG s f).bind fun aS =>
 some (decide ((0:Int)≤aS))
theorem akW {s:qc} {f:((Int×Int)→Option Bool)} {q':FuncId} {qM:List I} (rn:Ha qM) (HQ:∀ (qq:(Int×Int)) (r:Bool),f qq=some r→qt q' ((.agg [(hS qq.1),(hS qq.2)])::qM) (B r)) {v:Bool} (h:OE s f=some v):qt 72 [(.ay (s.flatMap p7) s.length .shared),(.func q' [] qM)] (B v):=by
 refine qN dI af_ rfl rfl fun Q bn=>?_;have jz:qD [.tmp 4] Q (fun v=>(B v)) v:=fun T H bK=>bn _ T H bK;unfold OE at h;unfold abx;conv=>whnf
 obtain ⟨aS,eV,h⟩:=qi h;refine ⟨_,_,JX (cs:=[(qf s .shared),(.func q' [] qM)]) (bs:=[(qf s .shared),(.func q' [] qM)]) (GN rfl (GN (rn.fn _ _) HC)) (by rfl) (by exact (p5 (HM (fun _=>(p5 rfl (p5 rfl rfl))) _ _ _) (p5 (rn.SL _) rfl))) (alp rn HQ eV) rfl,?_⟩;conv=>whnf
 exact qd h jz rfl rfl

noncomputable def aa8:ez :=
 GC [gO 1 [.hJ 0] .box,Gn 2 0] (GC [gO 4 [.sl 1] (.zw 71 0 1),Gq 3 4] (.seq (.block 0 (GC [gO 6 [.sl 1] (.oT 0),Gm 7 6,gO 8 [.hM 7] (.ya 1 1 [.int .i64 0] [0]),gO 9 [.iD (.func 66 [] []),.iD (.int .i64 1),.iD (.int .i64 6),.sl 8] (.call 3),gO 10 [.hM 9] (.un .not),Gq 11 10,cR 12 [.sl 1] 11 false (.oT 1),cR 13 [.hM 12] 11 false (.w8 .one),cR 14 [.hJ 13] 11 false .w_,cR 15 [.hM 14,.iD (.int .i64 10)] 11 false (.bin .gtr),gO 16 [.hM 11,.iD (.bool true),.hM 15] .pick,Gq 5 16] (.cond (.sl 5) (GC [Gn 2 6] .ret) (GC [F7 18 1 1,Gm 19 18,Gq 20 3,gO 21 [.iD (.func 72 [] []),.sl 19,.sl 20] (.call 6),Gq 17 21] (.cond (.sl 17) (GC [Gn 2 3] .ret) .skip))))) (GC [Gn 2 0] .ret)))
theorem afM:zg Tryz.prog Vy 20=some (aa8,22,[.tmp 2]):=by kernel_rfl
def MY (b:p8):Option Int :=
 (JT (1:Int) (6:Int) [b.1]).bind fun aS =>
 if aS=true then
  if (decide ((10:Int)<(b.2.length:Int)))=true then
   some (6:Int)
  else
   (OE b.2 (fun qq=>QD qq b)).bind fun bk =>
   if bk=true then
    some (3:Int)
   else
    some (0:Int)
 else
  some (6:Int)
theorem Z7 {b:p8} {v:Int} (h:MY b=some v):qt 20 [(.agg [(hS b.1),(.ay (b.2.flatMap p7) b.2.length .shared)])] (hS v):=by
 refine qN dI afM rfl rfl fun Q bn=>?_;have jz:qD [.tmp 2] Q (fun v=>(hS v)) v:=fun T H bK=>bn _ T H bK;unfold MY at h;unfold aa8;conv=>whnf
 obtain ⟨aS,eV,h⟩:=qi h;refine ⟨(p5 rfl (p5 rfl (p5 rfl rfl))),_,QA eV,?_⟩;conv=>whnf
 cases aS
 ·conv=>whnf
  replace h:=Hu rfl h;exact qd h jz rfl rfl
 ·conv=>whnf
  replace h:=Hv rfl h;refine bs h (fun fl h=>?_) fun fl h=>?_
  ·rw [fl];(conv=>whnf);exact qd h jz rfl rfl
  ·rw [fl];(conv=>whnf);obtain ⟨bk,qo,h⟩:=qi h;refine ⟨_,_,JX (cs:=[(qf b.2 .shared),(.func 71 [] [(.bW [(hS b.1),(qf b.2 .shared)])])]) (bs:=[(qf b.2 .shared),(.func 71 [] [(.bW [(hS b.1),(qf b.2 .shared)])])]) (GN rfl (GN (Og HC (GN (LR (cs:=[(hS b.1),(qf b.2 .shared)]) (by first | exact qL.h | rfl | (simp [sg,I.settle];done)) rfl) HC)) HC)) (by rfl) (by exact (p5 (HM (fun _=>(p5 rfl (p5 rfl rfl))) _ _ _) (p5 (MM rfl (p5 (Hf (p5 rfl (p5 (HM (fun _=>(p5 rfl (p5 rfl rfl))) _ _ _) rfl))) rfl)) rfl))) (akW ⟨(p5 (Hf (p5 rfl (p5 (HM (fun _=>(p5 rfl (p5 rfl rfl))) _ _ _) rfl))) rfl),by simp⟩ (fun _ _ a1=>akU a1) qo) rfl,?_⟩
   (conv=>whnf);cases bk
   ·(conv=>whnf);replace h:=Hu rfl h;exact qd h jz rfl rfl
   ·(conv=>whnf);replace h:=Hv rfl h;exact qd h jz rfl rfl

def Q' (x:p8):List I:=[(hS x.1),(qf x.2 .shared)]
instance {d:Nat} {x:p8}:qh (d+2) (Q' x):=⟨(inferInstance:qh (d+2) [(hS x.1),(qf x.2 .shared)]).pl⟩
noncomputable def abo:ez :=
 GC [gO 1 [.hJ 0] .box,gO 2 [.iD .eC] .iT,Gn 3 0] (.seq (GC [gO 5 [.sl 1] (.w8 (.str 2)),gO 6 [.iD (.func 20 [] []),.sl 5] (.call 3),Gq 4 6] (GC [Gp 7 4,F1 8 7 0 .neq] (.cond (.sl 8) (GC [Gq 9 4,gO 2 [.iD .eC] .iT,Gq 3 9] .ret) .skip))) (GC [gO 10 [.hM 1] (.w8 (.str 2)),gO 11 [.hM 10] (.build [.int .i64 0,.ay [] 0 .full] [(0,2)]),gO 12 [.hJ 11] .x_,Gq 2 12,Gn 3 0] .ret))
theorem af2:zg Tryz.prog VG 64=some (abo,13,[.tmp 2,.tmp 3]):=by kernel_rfl
def Ih (b:p8):Option ((Option p8)×Int) :=
 (MY b).bind fun aS =>
 if (decide (aS≠(0:Int)))=true then
  some (none,aS)
 else
  some ((some b),(0:Int))
theorem Lk {b:p8} {v:((Option p8)×Int)} (h:Ih b=some v):qt 64 [(.agg [(hS b.1),(.ay (b.2.flatMap p7) b.2.length .shared)])] (.tuple [(PL Q' v.1),(hS v.2)]):=by
 refine qN dI af2 rfl (I8 (p5 (XY (fun _=>(p5 rfl (p5 (HM (fun _=>(p5 rfl (p5 rfl rfl))) _ _ _) rfl))) _) (p5 rfl rfl))) fun Q bn=>?_;have jz:qD [.tmp 2,.tmp 3] Q (fun v=>(.tuple [(PL Q' v.1),(hS v.2)])) v:=fun T H bK=>bn _ T H bK;unfold Ih at h;unfold abo;conv=>whnf
 obtain ⟨aS,eV,h⟩:=qi h;refine ⟨qh.pl,_,Z7 eV,?_⟩;conv=>whnf
 refine bs h (fun fl h=>?_) fun fl h=>?_
 ·rw [fl];conv=>whnf
  exact qd h jz rfl rfl
 ·rw [fl];conv=>whnf
  refine ⟨rfl,?_⟩;conv=>whnf
  exact qd h jz rfl rfl

noncomputable def abp:ez :=
 GC [gO 2 [.hJ 0] .box,gO 3 [.iD (.bool false)] .iT] (GC [F7 4 1 1,Gm 5 4,Gl 6 5,F1 7 6 1 .sub,gO 8 [.sl 2] (.oT 0),Gm 9 8,gO 10 [.hM 9] (.ya 1 1 [.int .i64 0] [0]),gO 11 [.iD (.func 66 [] []),.iD (.int .i64 0),.sl 7,.sl 10] (.call 3),gO 12 [.hM 11] (.un .not),Gq 13 12,cR 14 [.hM 2] 13 false (.oT 1),cR 15 [.hM 14] 13 false (.w8 .one),⟨some 16,[.hM 15],some (13,false),none,.ya 1 1 [.int .i64 0] [0]⟩,⟨some 17,[.iD (.func 66 [] []),.iD (.int .i64 0),.iD (.int .i64 1),.sl 16],some (13,false),none,.call 3⟩,cR 18 [.hM 17] 13 false (.un .not),gO 19 [.hM 13,.iD (.bool true),.hM 18] .pick,Gq 3 19] .ret)
theorem af3:zg Tryz.prog VH 65=some (abp,20,[.tmp 3]):=by kernel_rfl
def M5 (p:(Int×Int)) (gR:p8):Option Bool :=
 (JT (0:Int) (w ((gR.2.length:Int)-(1:Int))) [p.1]).bind fun aS =>
 if aS=true then
  (JT (0:Int) (1:Int) [p.2]).bind fun bk =>
  some (!bk)
 else
  some true
theorem aaz {p:(Int×Int)} {gR:p8} {v:Bool} (h:M5 p gR=some v):qt 65 [(.agg [(hS p.1),(hS p.2)]),(.bW [(hS gR.1),(.ay (gR.2.flatMap p7) gR.2.length .shared)])] (B v):=by
 refine qN dI af3 rfl rfl fun Q bn=>?_;have jz:qD [.tmp 3] Q (fun v=>(B v)) v:=fun T H bK=>bn _ T H bK;unfold M5 at h;unfold abp;conv=>whnf
 obtain ⟨aS,eV,h⟩:=qi h;refine ⟨(p5 rfl (p5 rfl (p5 rfl rfl))),_,QA eV,?_⟩;conv=>whnf
 cases aS
 ·conv=>whnf
  replace h:=Hu rfl h;exact qd h jz rfl rfl
 ·conv=>whnf
  replace h:=Hv rfl h;obtain ⟨bk,fl,h⟩:=qi h;refine ⟨(p5 rfl (p5 rfl (p5 rfl rfl))),_,QA fl,?_⟩;conv=>whnf
  exact qd h jz rfl rfl

noncomputable def Q9:ez :=
 .loop (some (EA false [0,2,5,2,10])) (GC [gO 9 [.sl 8,.sl 7] (.bin .lss)] (.seq (.cond (.sl 9) .skip (.exit 0)) (.seq (.block 1 (GC [Gp 10 8,Gq 5 10] (GC [Gp 11 1,Gp 12 0,Gp 13 5,Gi 14 12 13 2,gO 15 [.hM 14] (.w8 (.str 2)),gO 16 [.sl 11,.sl 15] (.call 6)] (.cond (.sl 16) (GC [Gq 17 5,Gq 4 17] .ret) .skip)))) (Gt [F0 18 8 1,Gq 8 18]))))
noncomputable def abJ:ez :=
 GC [Gn 4 0] (.seq (GC [Gp 6 0,Gl 7 6,Gn 8 0] (.block 0 Q9)) (GC [Gn 4 (-1)] .ret))
theorem agm:zg Tryz.prog Rr 94=some (abJ,19,[.tmp 4]):=by kernel_rfl
def Ml (s:qc) (f:((Int×Int)→Option Bool)) (p4:Unit→Option Int):Nat→Int→Option Int
 | 0,_=>none
 | m+1,s1 =>
   if (decide (s1<(s.length:Int)))=true then
    p2 (0≤s1∧s1<(s.length:Int)) <|
    (f (ix s s1)).bind fun aS =>
    if aS=true then
     some s1
    else
     Ml s f p4 m (w (s1+(1:Int)))
   else
    p4 ()
def OL (s:qc) (f:((Int×Int)→Option Bool)):Option Int :=
 Ml s f (fun _ =>
   some (-1:Int)) p6 (0:Int)
theorem alm {s:qc} {f:((Int×Int)→Option Bool)} {p4:Unit→Option Int} {s1:Int} {q':FuncId} {qM:List I} (rn:Ha qM) (HQ:∀ (qq:(Int×Int)) (r:Bool),f qq=some r→qt q' ((.agg [(hS qq.1),(hS qq.2)])::qM) (B r)) {v:Int} {Q:rm}   (jz:qD [.tmp 4] Q (fun v=>(hS v)) v) (qY:∀ (p9:List I),p4 ()=some v→qV 19 [] p9→Q (.exit 0) p9 []) {T:List I} (bZ:eS (EA false [0,2,5,2,10]) T=GH 19 [(0,(qf s .shared)),(1,(.func q' [] qM)),(7,(hS (s.length:Int))),(8,(hS s1))]) (h:Ml s f p4 p6 s1=some v) :
  dC Tryz.prog Rr 94 0 none Q9 T [] Q:=by
 unfold Q9;refine wp_loop bZ ?_;refine .intro (fun m T H=>∃ (s1:Int),T=GH 19 [(0,(qf s .shared)),(1,(.func q' [] qM)),(7,(hS (s.length:Int))),(8,(hS s1))]∧H=[]∧Ml s f p4 m s1=some v) p6 ⟨s1,rfl,rfl,h⟩ ?_;clear h bZ;rintro m T H ⟨s1,rfl,rfl,h⟩;cases m
 ·exact q4 h
 rename_i m;rw [Ml.eq_2] at h;conv=>whnf
 refine bs h (fun eV h=>?_) fun eV h=>?_
 ·rw [eV];conv=>whnf
  refine qy h id fun fl h=>?_;rw [qR p7 2 qK s s1 fl];conv=>whnf
  obtain ⟨aS,qo,h⟩:=qi h;refine ⟨_,_,call6 (bs:=((.agg [(hS (ix s s1).1),(hS (ix s s1).2)])::qM)) (by simp only [sE,rn.im,rn.cu];rfl) (by simp only [sE,rn.im];exact (p5 (N1 (p5 rfl (p5 rfl rfl))) rn.Rf)) (HQ _ _ qo) rfl,?_⟩;conv=>whnf
  cases aS
  ·(conv=>whnf);replace h:=Hu rfl h;exact ⟨m,su m,(w (s1+(1:Int))),rfl,rfl,h⟩
  ·(conv=>whnf);replace h:=Hv rfl h;exact qd h jz rfl rfl
 ·rw [eV];conv=>whnf
  exact qY  _ h ⟨rfl,rfl⟩
theorem aln {s:qc} {f:((Int×Int)→Option Bool)} {q':FuncId} {qM:List I} (rn:Ha qM) (HQ:∀ (qq:(Int×Int)) (r:Bool),f qq=some r→qt q' ((.agg [(hS qq.1),(hS qq.2)])::qM) (B r)) {v:Int} (h:OL s f=some v):qt 94 [(.ay (s.flatMap p7) s.length .shared),(.func q' [] qM)] (hS v):=by
 refine qN dI agm rfl rfl fun Q bn=>?_;have jz:qD [.tmp 4] Q (fun v=>(hS v)) v:=fun T H bK=>bn _ T H bK;unfold OL at h;unfold abJ;obtain ⟨Hy,qB⟩:∃ c,Q9=c:=⟨_,rfl⟩;rw [qB];conv=>whnf
 subst qB;refine alm rn HQ ?_ ?_ (by exact rfl) h
 ·exact fun T H bK=>jz T H bK
 ·intro  p9 h qs;obtain ⟨ru,rfl⟩:=qs.ex;conv=>whnf
  exact qd h jz rfl rfl

noncomputable def abr:ez :=
 GC [gO 4 [.iD (.bool false)] .iT] (GC [Gq 5 0,Gq 6 1,gO 7 [.iD (.func 94 [] []),.sl 5,.sl 6] (.call 6),F1 8 7 0 .geq,Gq 4 8] .ret)
theorem af5:zg Tryz.prog VJ 67=some (abr,9,[.tmp 4]):=by kernel_rfl
def M6 (s:qc) (f:((Int×Int)→Option Bool)):Option Bool :=
 (OL s f).bind fun aS =>
 some (decide ((0:Int)≤aS))
theorem aaA {s:qc} {f:((Int×Int)→Option Bool)} {q':FuncId} {qM:List I} (rn:Ha qM) (HQ:∀ (qq:(Int×Int)) (r:Bool),f qq=some r→qt q' ((.agg [(hS qq.1),(hS qq.2)])::qM) (B r)) {v:Bool} (h:M6 s f=some v):qt 67 [(.ay (s.flatMap p7) s.length .shared),(.func q' [] qM)] (B v):=by
 refine qN dI af5 rfl rfl fun Q bn=>?_;have jz:qD [.tmp 4] Q (fun v=>(B v)) v:=fun T H bK=>bn _ T H bK;unfold M6 at h;unfold abr;conv=>whnf
 obtain ⟨aS,eV,h⟩:=qi h;refine ⟨_,_,JX (cs:=[(qf s .shared),(.func q' [] qM)]) (bs:=[(qf s .shared),(.func q' [] qM)]) (GN rfl (GN (rn.fn _ _) HC)) (by rfl) (by exact (p5 (HM (fun _=>(p5 rfl (p5 rfl rfl))) _ _ _) (p5 (rn.SL _) rfl))) (aln rn HQ eV) rfl,?_⟩;conv=>whnf
 exact qd h jz rfl rfl

noncomputable def M9:ez :=
 .loop (some (EA false [1,1,5,1,2,1,28,3,40])) (GC [gO 42 [.sl 41,.sl 40] (.bin .lss)] (.seq (.cond (.sl 42) .skip (.exit 1)) (.seq (.block 2 (GC [gO 43 [.sl 39,.sl 41] (.pQ 2),gO 44 [.hM 43] (.w8 (.str 2)),gO 12 [] (.alloc [.int .i64 0,.int .i64 0]),⟨none,[.sl 12,.hJ 44],none,none,.st 2⟩] (.seq (GC [gO 45 [.sl 12] (.oT 0),Gm 46 45,gO 47 [.sl 10,.hM 46] (.y4 10 1),Gm 48 47,F1 49 48 0 .gtr] (.cond (.sl 49) (GC [Gn 4 0,Gn 5 0,Gn 6 11] .ret) .skip)) (Gt [F7 50 12 0,Gm 51 50,gO 52 [.sl 10,.hM 51] (.y4 10 1),⟨none,[.hJ 52,.iD (.int .i64 1)],none,none,.st 1⟩])))) (Gt [F0 53 41 1,Gq 41 53]))))
noncomputable def QJ:ez :=
 .loop (some (EA false [7,1,5,1,1,1,47,3,16])) (GC [gO 66 [.sl 65,.sl 64] (.bin .lss)] (.seq (.cond (.sl 66) .skip (.exit 3)) (.seq (.block 4 (GC [gO 67 [.sl 63,.sl 65] (.pQ 2),gO 68 [.hM 67] (.w8 (.str 2)),gO 17 [] (.alloc [.int .i64 0,.int .i64 0]),⟨none,[.sl 17,.hJ 68],none,none,.st 2⟩] (GC [Gp 70 7,gO 71 [.hM 17] (.w8 (.str 2)),gO 72 [.iD (.func 68 [] []),.sl 70,.sl 71] (.call 3),Gq 69 72,GK 73 69 0,gO 74 [.hM 69] (.ext 1),Gq 18 73,Gq 19 74] (.seq (GC [Gq 75 18,Gq 76 15,F2 77 75 76 .neq] (.cond (.sl 77) (GC [Gn 4 0,Gn 5 0,Gn 6 27] .ret) .skip)) (Gt [Gq 78 19,Gq 15 78]))))) (Gt [F0 79 65 1,Gq 65 79]))))
noncomputable def aa6:ez :=
 GC [gO 2 [.hJ 0] .box, Gn 4 0, Gn 5 0, Gn 6 0] (GC [gO 21 [.sl 2] (.w8 (.str 2)), gO 22 [.iD (.func 64 [] []), .sl 21] (.call 3), Gq 20 22, GK 23 20 0, gO 24 [.hM 20] (.ext 1), Gq 7 23, Gq 8 24] (GC [gO 25 [.hM 2] (.zw 65 0 1), Gq 9 25] (.seq (.block 0 (GC [Gp 27 8, F1 28 27 0 .neq, Gq 26 28] (.cond (.sl 26) (GC [Gq 29 8, Gn 4 0, Gn 5 0, Gq 6 29] .ret) (GC [Gp 31 1, Gl 32 31, F1 33 32 0 .eql, Gq 30 33] (.cond (.sl 30) (GC [Gn 4 0, Gn 5 0, Gn 6 6] .ret) (GC [Gp 35 1, Gq 36 9, gO 37 [.iD (.func 67 [] []), .sl 35, .sl 36] (.call 6), Gq 34 37] (.cond (.sl 34) (GC [Gn 4 0, Gn 5 0, Gn 6 3] .ret) .skip))))))) (GC [gO 10 [] (.alloc [.int .i64 0, .int .i64 0, .int .i64 0, .int .i64 0, .int .i64 0, .int .i64 0, .int .i64 0, .int .i64 0, .int .i64 0, .int .i64 0])] (GC [gO 38 [.sl 10] (.other (Oper.mk (some 38) (Op.slice 89 (Operand.tmp 10) none none none) 38 "match.go:50" (Array.mk []) none) 0), ⟨none, [.hJ 38], none, none, .other (Oper.mk none (Op.call (Call.mk (Callee.builtin Builtin.clear) (Array.mk [Operand.tmp 38]) (Array.mk [38]))) 0 "match.go:50" (Array.mk [Edge.mk 0 Ground.data]) none) 0⟩] (.seq (GC [Gp 39 1, gO 40 [.sl 39] .w_, Gn 41 0] (.block 1 M9)) (GC [Gp 55 7, Gp 56 1, gO 57 [.hM 56, .iD (.int .i64 0)] (.pQ 2), gO 58 [.hM 57] (.w8 (.str 2)), gO 59 [.iD (.func 68 [] []), .sl 55, .sl 58] (.call 3), Gq 54 59, GK 60 54 0, gO 61 [.hM 54] (.ext 1), Gq 13 60, Gq 14 61] (GC [Gp 62 13, Gq 15 62] (.seq (GC [Gq 63 1, gO 64 [.sl 63] .w_, Gn 65 0] (.block 3 QJ)) (GC [Gq 80 13, Gq 81 15, Gq 4 80, Gq 5 81, Gn 6 0] .ret))))))))))
theorem afK:zg Tryz.prog Ng 18=some (aa6,82,[.tmp 4,.tmp 5,.tmp 6]):=by kernel_rfl
def Ou (row:qc) (p4:Unit→Option (Int×Int×Int)):Nat→Int→p0→Option (Int×Int×Int)
 | 0,_,_=>none
 | m+1,s1,s2 =>
   if (decide (s1<(row.length:Int)))=true then
    p2 (0≤s1∧s1<(row.length:Int)) <|
    p2 (0≤(ix row s1).1∧(ix row s1).1<(10:Int)∧10=s2.length) <|
    if (decide ((0:Int)<(ix s2 ((ix row s1).1))))=true then
     some ((0:Int),(0:Int),(11:Int))
    else
     p2 (0≤(ix row s1).1∧(ix row s1).1<(10:Int)∧10=s2.length) <|
     Ou row p4 m (w (s1+(1:Int))) (s2.set ((ix row s1).1).toNat (1:Int))
   else
    p4 ()
def LX (row:qc) (qn:Unit→Option (Int×Int×Int)):Nat→Int→p0→Option (Int×Int×Int)
 | 0,_,_=>none
 | m+1,s3,Gz =>
   if (decide (s3<(row.length:Int)))=true then
    p2 (0≤s3∧s3<(row.length:Int)) <|
    p2 (0≤(ix row s3).1∧(ix row s3).1<(10:Int)∧10=Gz.length) <|
    if (decide ((0:Int)<(ix Gz ((ix row s3).1))))=true then
     some ((0:Int),(0:Int),(11:Int))
    else
     p2 (0≤(ix row s3).1∧(ix row s3).1<(10:Int)∧10=Gz.length) <|
     LX row qn m (w (s3+(1:Int))) (Gz.set ((ix row s3).1).toNat (1:Int))
   else
    qn ()
def LY (row:qc) (bT:p8) (ra:Int→Option (Int×Int×Int)):Nat→Int→Int→Option (Int×Int×Int)
 | 0,_,_=>none
 | m+1,p_,ql =>
   if (decide (ql<(row.length:Int)))=true then
    p2 (0≤ql∧ql<(row.length:Int)) <|
    (Kf bT (ix row ql)).bind fun rj =>
    if (decide (rj.1≠p_))=true then
     some ((0:Int),(0:Int),(27:Int))
    else
     LY row bT ra m rj.2 (w (ql+(1:Int)))
   else
    ra p_
def MX (b:p8) (row:qc):Option (Int×Int×Int) :=
 (Ih b).bind fun aS =>
 match aS with
 | (none,q1) =>
   if (decide (q1≠(0:Int)))=true then
    some ((0:Int),(0:Int),q1)
   else
    if (decide ((row.length:Int)=(0:Int)))=true then
     some ((0:Int),(0:Int),(6:Int))
    else
     (M6 row (fun qq=>M5 qq b)).bind fun bk =>
     if bk=true then
      some ((0:Int),(0:Int),(3:Int))
     else
      p2 ((List.replicate 10 (0:Int)).length=10) <|
      Ou row (fun _ =>
        p2 (0≤(0:Int)∧(0:Int)<(row.length:Int)) <|
        none) p6 (0:Int) (List.replicate 10 (0:Int))
 | (some bT,q1) =>
   if (decide (q1≠(0:Int)))=true then
    some ((0:Int),(0:Int),q1)
   else
    if (decide ((row.length:Int)=(0:Int)))=true then
     some ((0:Int),(0:Int),(6:Int))
    else
     (M6 row (fun qq=>M5 qq b)).bind fun eE =>
     if eE=true then
      some ((0:Int),(0:Int),(3:Int))
     else
      p2 ((List.replicate 10 (0:Int)).length=10) <|
      LX row (fun _ =>
        p2 (0≤(0:Int)∧(0:Int)<(row.length:Int)) <|
        (Kf bT (ix row (0:Int))).bind fun qp =>
        LY row bT (fun x0 =>
          some (qp.1,x0,(0:Int))) p6 qp.1 (0:Int)) p6 (0:Int) (List.replicate 10 (0:Int))
theorem aj0 {row:qc} {p4:Unit→Option (Int×Int×Int)} {s1:Int} {s2:p0} {v:(Int×Int×Int)} {Q:rm} {bC:au}  (jz:qD [.tmp 4,.tmp 5,.tmp 6] Q (fun v=>(.tuple [(hS v.1),(hS v.2.1),(hS v.2.2)])) v) (qY:∀ (bS:au) (Hs:List au) (p9:List I),p4 ()=some v→qV 82 [(1,(qf row .shared)),(7,.eC)] p9→Q (.exit 1) p9 (bC::bS::Hs)) {T:List I} (bZ:eS (EA false [1,1,5,1,2,1,28,3,40]) T=GH 82 [(1,(qf row .shared)),(7,.eC),(10,(.ptr 1 0)),(39,(qf row .shared)),(40,(hS (row.length:Int))),(41,(hS s1))]) (h:Ou row p4 p6 s1 s2=some v) :
  dC Tryz.prog Ng 18 0 none M9 T [bC,au.cells (s2.map hS)] Q:=by
 unfold M9;refine wp_loop bZ ?_;refine .intro (fun m T H=>∃ (s1:Int) (s2:p0) (Nf:List au),T=GH 82 [(1,(qf row .shared)),(7,.eC),(10,(.ptr 1 0)),(39,(qf row .shared)),(40,(hS (row.length:Int))),(41,(hS s1))]∧H=(bC::au.cells (s2.map hS)::Nf)∧Ou row p4 m s1 s2=some v) p6 ⟨s1,s2,[],rfl,rfl,h⟩ ?_;clear h bZ;rintro m T H ⟨s1,s2,Nf,rfl,rfl,h⟩;cases m
 ·exact q4 h
 rename_i m;rw [Ou.eq_2] at h;conv=>whnf
 refine bs h (fun qZ h=>?_) fun qZ h=>?_
 ·rw [qZ];conv=>whnf
  refine qy h id fun qT h=>?_;rw [qR p7 2 qK row s1 qT];conv=>whnf
  refine DX (x:=au.cells [(hS (0:Int)),(hS (0:Int))]) (by first | exact qL.h | rfl | (simp [sg,I.settle];done)) ?_
  conv=>whnf
  rw [Ig];refine DX (x:=au.cells [(hS (ix row s1).1),(hS (ix row s1).2)]) (by first | exact qL.h | rfl | (simp [sg,I.settle];done)) ?_
  conv=>whnf
  obtain ⟨qO,h⟩:=qw h;refine ⟨⟨qO.1,qO.2.1⟩,?_⟩;replace qO:0≤(ix row s1).1∧(ix row s1).1<(s2.length:Int):=⟨qO.1,by have:=qO.2;omega⟩;conv=>whnf
  refine Js hS s2 ((ix row s1).1) qO ?_;conv=>whnf
  refine bs h (fun q5 h=>?_) fun q5 h=>?_
  ·rw [q5];(conv=>whnf);exact qd h jz rfl rfl
  ·rw [q5];(conv=>whnf);refine DX (x:=au.cells [(hS (ix row s1).1),(hS (ix row s1).2)]) (by first | exact qL.h | rfl | (simp [sg,I.settle];done)) ?_
   (conv=>whnf);obtain ⟨q2,h⟩:=qw h;refine ⟨⟨q2.1,q2.2.1⟩,?_⟩;replace q2:0≤(ix row s1).1∧(ix row s1).1<(s2.length:Int):=⟨q2.1,by have:=q2.2;omega⟩;(conv=>whnf);refine Jx hS s2 ((ix row s1).1) (1:Int) q2 ?_;(conv=>whnf);exact ⟨m,su m,(w (s1+(1:Int))),(s2.set ((ix row s1).1).toNat (1:Int)),_,rfl,rfl,h⟩
 ·rw [qZ];conv=>whnf
  exact qY _ _ _ h ⟨rfl,rfl⟩
theorem aj1 {row:qc} {qn:Unit→Option (Int×Int×Int)} {s3:Int} {Gz:p0} {bT:p8} {v:(Int×Int×Int)} {Q:rm} {bC:au}  (jz:qD [.tmp 4,.tmp 5,.tmp 6] Q (fun v=>(.tuple [(hS v.1),(hS v.2.1),(hS v.2.2)])) v) (HT:∀ (ib:au) (Hs:List au) (p9:List I),qn ()=some v→qV 82 [(1,(qf row .shared)),(7,(.bW [(hS bT.1),(qf bT.2 .shared)]))] p9→Q (.exit 1) p9 (bC::ib::Hs)) {T:List I} (bZ:eS (EA false [1,1,5,1,2,1,28,3,40]) T=GH 82 [(1,(qf row .shared)),(7,(.bW [(hS bT.1),(qf bT.2 .shared)])),(10,(.ptr 1 0)),(39,(qf row .shared)),(40,(hS (row.length:Int))),(41,(hS s3))]) (h:LX row qn p6 s3 Gz=some v) :
  dC Tryz.prog Ng 18 0 none M9 T [bC,au.cells (Gz.map hS)] Q:=by
 unfold M9;refine wp_loop bZ ?_;refine .intro (fun m T H=>∃ (s3:Int) (Gz:p0) (Nf:List au),T=GH 82 [(1,(qf row .shared)),(7,(.bW [(hS bT.1),(qf bT.2 .shared)])),(10,(.ptr 1 0)),(39,(qf row .shared)),(40,(hS (row.length:Int))),(41,(hS s3))]∧H=(bC::au.cells (Gz.map hS)::Nf)∧LX row qn m s3 Gz=some v) p6 ⟨s3,Gz,[],rfl,rfl,h⟩ ?_;clear h bZ;rintro m T H ⟨s3,Gz,Nf,rfl,rfl,h⟩;cases m
 ·exact q4 h
 rename_i m;rw [LX.eq_2] at h;conv=>whnf
 refine bs h (fun HI h=>?_) fun HI h=>?_
 ·rw [HI];conv=>whnf
  refine qy h id fun I2 h=>?_;rw [qR p7 2 qK row s3 I2];conv=>whnf
  refine DX (x:=au.cells [(hS (0:Int)),(hS (0:Int))]) (by first | exact qL.h | rfl | (simp [sg,I.settle];done)) ?_
  conv=>whnf
  rw [Ig];refine DX (x:=au.cells [(hS (ix row s3).1),(hS (ix row s3).2)]) (by first | exact qL.h | rfl | (simp [sg,I.settle];done)) ?_
  conv=>whnf
  obtain ⟨rS,h⟩:=qw h;refine ⟨⟨rS.1,rS.2.1⟩,?_⟩;replace rS:0≤(ix row s3).1∧(ix row s3).1<(Gz.length:Int):=⟨rS.1,by have:=rS.2;omega⟩;conv=>whnf
  refine Js hS Gz ((ix row s3).1) rS ?_;conv=>whnf
  refine bs h (fun HB h=>?_) fun HB h=>?_
  ·rw [HB];(conv=>whnf);exact qd h jz rfl rfl
  ·rw [HB];(conv=>whnf);refine DX (x:=au.cells [(hS (ix row s3).1),(hS (ix row s3).2)]) (by first | exact qL.h | rfl | (simp [sg,I.settle];done)) ?_
   (conv=>whnf);obtain ⟨Ia,h⟩:=qw h;refine ⟨⟨Ia.1,Ia.2.1⟩,?_⟩;replace Ia:0≤(ix row s3).1∧(ix row s3).1<(Gz.length:Int):=⟨Ia.1,by have:=Ia.2;omega⟩;(conv=>whnf);refine Jx hS Gz ((ix row s3).1) (1:Int) Ia ?_;(conv=>whnf);exact ⟨m,su m,(w (s3+(1:Int))),(Gz.set ((ix row s3).1).toNat (1:Int)),_,rfl,rfl,h⟩
 ·rw [HI];conv=>whnf
  exact HT _ _ _ h ⟨rfl,rfl⟩
theorem aj2 {row:qc} {bT:p8} {ra:Int→Option (Int×Int×Int)} {p_:Int} {ql:Int} {qp:(Int×Int)} {v:(Int×Int×Int)} {Q:rm} {bC:au} {ib:au} {Hs:List au} (jz:qD [.tmp 4,.tmp 5,.tmp 6] Q (fun v=>(.tuple [(hS v.1),(hS v.2.1),(hS v.2.2)])) v) (LD:∀ (x0:Int) (Hs:List au) (p9:List I),ra x0=some v→qV 82 [(13,(hS qp.1)),(15,(hS x0))] p9→Q (.exit 3) p9 (bC::ib::Hs)) {T:List I} (bZ:eS (EA false [7,1,5,1,1,1,47,3,16]) T=GH 82 [(7,(.bW [(hS bT.1),(qf bT.2 .shared)])),(13,(hS qp.1)),(15,(hS p_)),(63,(qf row .shared)),(64,(hS (row.length:Int))),(65,(hS ql))]) (h:LY row bT ra p6 p_ ql=some v) :
  dC Tryz.prog Ng 18 0 none QJ T (bC::ib::Hs) Q:=by
 unfold QJ;refine wp_loop bZ ?_;refine .intro (fun m T H=>∃ (p_ ql:Int) (U8:List au),T=GH 82 [(7,(.bW [(hS bT.1),(qf bT.2 .shared)])),(13,(hS qp.1)),(15,(hS p_)),(63,(qf row .shared)),(64,(hS (row.length:Int))),(65,(hS ql))]∧H=(bC::ib::U8)∧LY row bT ra m p_ ql=some v) p6 ⟨p_,ql,Hs,rfl,rfl,h⟩ ?_;clear h bZ;rintro m T H ⟨p_,ql,U8,rfl,rfl,h⟩;cases m
 ·exact q4 h
 rename_i m;rw [LY.eq_2] at h;conv=>whnf
 refine bs h (fun JK h=>?_) fun JK h=>?_
 ·rw [JK];conv=>whnf
  refine qy h id fun NM h=>?_;rw [qR p7 2 qK row ql NM];conv=>whnf
  refine DX (x:=au.cells [(hS (0:Int)),(hS (0:Int))]) (by first | exact qL.h | rfl | (simp [sg,I.settle];done)) ?_
  conv=>whnf
  rw [Ig];refine DX (x:=au.cells [(hS (ix row ql).1),(hS (ix row ql).2)]) (by first | exact qL.h | rfl | (simp [sg,I.settle];done)) ?_
  conv=>whnf
  obtain ⟨rj,RY,h⟩:=qi h;refine ⟨qh.pl,_,QC RY,?_⟩;conv=>whnf
  refine bs h (fun NN h=>?_) fun NN h=>?_
  ·rw [NN];(conv=>whnf);exact qd h jz rfl rfl
  ·rw [NN];(conv=>whnf);exact ⟨m,su m,rj.2,(w (ql+(1:Int))),_,rfl,rfl,h⟩
 ·rw [JK];conv=>whnf
  exact LD _ _ _ h ⟨rfl,rfl⟩
theorem aj3 {b:p8} {row:qc} {v:(Int×Int×Int)} (h:MX b row=some v):qt 18 [(.agg [(hS b.1),(.ay (b.2.flatMap p7) b.2.length .shared)]),(.ay (row.flatMap p7) row.length .shared)] (.tuple [(hS v.1),(hS v.2.1),(hS v.2.2)]):=by
 refine qN dI afK rfl (I8 (p5 rfl (p5 rfl (p5 rfl rfl)))) fun Q bn=>?_;have jz:qD [.tmp 4,.tmp 5,.tmp 6] Q (fun v=>(.tuple [(hS v.1),(hS v.2.1),(hS v.2.2)])) v:=fun T H bK=>bn _ T H bK;unfold MX at h;unfold aa6;obtain ⟨Hy,qB⟩:∃ c,M9=c:=⟨_,rfl⟩;rw [qB];obtain ⟨Ko,rT⟩:∃ c,QJ=c:=⟨_,rfl⟩;rw [rT];conv=>whnf
 obtain ⟨aS,eV,h⟩:=qi h;rcases aS with ⟨_ | bT,q1⟩
 ·refine ⟨qh.pl,_,Lk eV,?_⟩;conv=>whnf
  refine bs h (fun fl h=>?_) fun fl h=>?_
  ·rw [fl];(conv=>whnf);exact qd h jz rfl rfl
  ·rw [fl];(conv=>whnf);refine bs h (fun qo h=>?_) fun qo h=>?_
   ·rw [qo];(conv=>whnf);exact qd h jz rfl rfl
   ·rw [qo];(conv=>whnf);obtain ⟨bk,qC,h⟩:=qi h;refine ⟨_,_,JX (cs:=[(qf row .shared),(.func 65 [] [(.bW [(hS b.1),(qf b.2 .shared)])])]) (bs:=[(qf row .shared),(.func 65 [] [(.bW [(hS b.1),(qf b.2 .shared)])])]) (GN rfl (GN (Og HC (GN (LR (cs:=[(hS b.1),(qf b.2 .shared)]) (by first | exact qL.h | rfl | (simp [sg,I.settle];done)) rfl) HC)) HC)) (by rfl) (by exact (p5 (HM (fun _=>(p5 rfl (p5 rfl rfl))) _ _ _) (p5 (MM rfl (p5 (Hf (p5 rfl (p5 (HM (fun _=>(p5 rfl (p5 rfl rfl))) _ _ _) rfl))) rfl)) rfl))) (aaA ⟨(p5 (Hf (p5 rfl (p5 (HM (fun _=>(p5 rfl (p5 rfl rfl))) _ _ _) rfl))) rfl),by simp⟩ (fun _ _ a1=>aaz a1) qC) rfl,?_⟩
    (conv=>whnf);cases bk
    ·(conv=>whnf);replace h:=Hu rfl h;refine ⟨_,_,fun C=>XD rfl (e:=3) (len:=10) (by kernel_rfl) (by kernel_rfl) (by decide),?_⟩;(conv=>whnf);obtain ⟨qG,h⟩:=qw h;refine ⟨_,_,fun C=>(SF rfl).trans (Wb (e:=3) (l:=(List.replicate 10 (0:Int))) (by kernel_rfl) (by kernel_rfl) (by kernel_rfl) (si _) (by first | exact qL.h | rfl | (simp [sg,I.settle];done)) qG),?_⟩
     (conv=>whnf);subst qB;refine aj0 ?_ ?_ (by exact rfl) h
     ·exact fun T H bK=>jz T H bK
     ·intro bS Hs p9 h qs;obtain ⟨ru,rfl⟩:=qs.ex;(conv=>whnf);refine qy h id fun rM h=>?_;rw [qR p7 2 qK row (0:Int) rM];(conv=>whnf);exact q4 h
    ·(conv=>whnf);replace h:=Hv rfl h;exact qd h jz rfl rfl
 ·refine ⟨qh.pl,_,Lk eV,?_⟩;conv=>whnf
  refine bs h (fun ry h=>?_) fun ry h=>?_
  ·rw [ry];(conv=>whnf);exact qd h jz rfl rfl
  ·rw [ry];(conv=>whnf);refine bs h (fun rB h=>?_) fun rB h=>?_
   ·rw [rB];(conv=>whnf);exact qd h jz rfl rfl
   ·rw [rB];(conv=>whnf);obtain ⟨eE,Hk,h⟩:=qi h;refine ⟨_,_,JX (cs:=[(qf row .shared),(.func 65 [] [(.bW [(hS b.1),(qf b.2 .shared)])])]) (bs:=[(qf row .shared),(.func 65 [] [(.bW [(hS b.1),(qf b.2 .shared)])])]) (GN rfl (GN (Og HC (GN (LR (cs:=[(hS b.1),(qf b.2 .shared)]) (by first | exact qL.h | rfl | (simp [sg,I.settle];done)) rfl) HC)) HC)) (by rfl) (by exact (p5 (HM (fun _=>(p5 rfl (p5 rfl rfl))) _ _ _) (p5 (MM rfl (p5 (Hf (p5 rfl (p5 (HM (fun _=>(p5 rfl (p5 rfl rfl))) _ _ _) rfl))) rfl)) rfl))) (aaA ⟨(p5 (Hf (p5 rfl (p5 (HM (fun _=>(p5 rfl (p5 rfl rfl))) _ _ _) rfl))) rfl),by simp⟩ (fun _ _ a1=>aaz a1) Hk) rfl,?_⟩
    (conv=>whnf);cases eE
    ·(conv=>whnf);replace h:=Hu rfl h;refine ⟨_,_,fun C=>XD rfl (e:=3) (len:=10) (by kernel_rfl) (by kernel_rfl) (by decide),?_⟩;(conv=>whnf);obtain ⟨JJ,h⟩:=qw h;refine ⟨_,_,fun C=>(SF rfl).trans (Wb (e:=3) (l:=(List.replicate 10 (0:Int))) (by kernel_rfl) (by kernel_rfl) (by kernel_rfl) (si _) (by first | exact qL.h | rfl | (simp [sg,I.settle];done)) JJ),?_⟩
     (conv=>whnf);subst qB;refine aj1 ?_ ?_ (by exact rfl) h
     ·exact fun T H bK=>jz T H bK
     ·intro ib Hs p9 h qs;obtain ⟨ru,rfl⟩:=qs.ex;(conv=>whnf);refine qy h id fun Ly h=>?_;rw [qR p7 2 qK row (0:Int) Ly];(conv=>whnf);obtain ⟨qp,Pn,h⟩:=qi h;refine ⟨qh.pl,_,QC Pn,?_⟩;(conv=>whnf);subst rT;refine aj2 ?_ ?_ (by exact rfl) h
      ·exact fun T H bK=>jz T H bK
      ·intro x0 Hs p9 h qs;obtain ⟨ru,rfl⟩:=qs.ex;(conv=>whnf);exact qd h jz rfl rfl
    ·(conv=>whnf);replace h:=Hv rfl h;exact qd h jz rfl rfl

noncomputable def QN:ez :=
 .loop (some (EA false [1,1,1,1,49])) (.seq (GC [Gp 19 3,gO 20 [.sl 1] (.oT 1),Gm 21 20,Gl 22 21,F2 23 19 22 .lss] (.cond (.sl 23) .skip (.exit 0))) (.seq (.block 1 (GC [gO 26 [.sl 1] (.oT 1),Gm 27 26,Gp 28 3,Gi 29 27 28 2,gO 30 [.hM 29] (.w8 (.str 2)),gO 4 [] (.alloc [.int .i64 0,.int .i64 0]),⟨none,[.sl 4,.hJ 30],none,none,.st 2⟩] (GC [gO 31 [.sl 4] (.oT 0),Gm 32 31,F1 33 32 0 .lss,Gq 34 33,cR 35 [.sl 4] 34 false (.oT 0),cR 36 [.hM 35] 34 false (.w8 .one),cR 37 [.sl 1] 34 false (.oT 0),cR 38 [.hM 37] 34 false (.w8 .one),cR 39 [.hM 36,.hM 38] 34 false (.bin .geq),gO 40 [.hM 34,.iD (.bool true),.hM 39] .pick,Gq 41 40,cR 42 [.sl 4] 41 false (.oT 1),cR 43 [.hM 42] 41 false (.w8 .one),cR 44 [.hM 43,.iD (.int .i64 0)] 41 false (.bin .lss),gO 45 [.hM 41,.iD (.bool true),.hM 44] .pick,Gq 46 45,cR 47 [.hM 4] 46 false (.oT 1),cR 48 [.hM 47] 46 false (.w8 .one),cR 49 [.sl 1] 46 false (.oT 0),cR 50 [.hM 49] 46 false (.w8 .one),cR 51 [.hM 48,.hM 50] 46 false (.bin .geq),gO 52 [.hM 46,.iD (.bool true),.hM 51] .pick] (.cond (.sl 52) (GC [Gn 2 3] .ret) .skip)))) (Gt [Gq 24 3,F0 25 24 1,Gq 3 25])))
noncomputable def aa9:ez :=
 GC [gO 1 [.hJ 0] .box,Gn 2 0] (.seq (GC [gO 5 [.sl 1] (.oT 0),Gm 6 5,F1 7 6 1 .lss,Gq 8 7,cR 9 [.sl 1] 8 false (.oT 0),cR 10 [.hM 9] 8 false (.w8 .one),cR 11 [.hM 10,.iD (.int .i64 6)] 8 false (.bin .gtr),gO 12 [.hM 8,.iD (.bool true),.hM 11] .pick,Gq 13 12,cR 14 [.sl 1] 13 false (.oT 1),cR 15 [.hM 14] 13 false (.w8 .one),cR 16 [.hJ 15] 13 false .w_,cR 17 [.hM 16,.iD (.int .i64 10)] 13 false (.bin .gtr),gO 18 [.hM 13,.iD (.bool true),.hM 17] .pick] (.cond (.sl 18) (GC [Gn 2 6] .ret) .skip)) (.seq (GC [Gn 3 0] (.block 0 QN)) (GC [Gn 2 0] .ret)))
theorem afN:zg Tryz.prog Rh 21=some (aa9,53,[.tmp 2]):=by kernel_rfl
def L3 (b:p8) (p4:Unit→Option Int):Nat→Int→Option Int
 | 0,_=>none
 | m+1,s1 =>
   if (decide (s1<(b.2.length:Int)))=true then
    p2 (0≤s1∧s1<(b.2.length:Int)) <|
    if (decide ((ix b.2 s1).1<(0:Int)))=true then
     some (3:Int)
    else
     if (decide (b.1≤(ix b.2 s1).1))=true then
      some (3:Int)
     else
      if (decide ((ix b.2 s1).2<(0:Int)))=true then
       some (3:Int)
      else
       if (decide (b.1≤(ix b.2 s1).2))=true then
        some (3:Int)
       else
        L3 b p4 m (w (s1+(1:Int)))
   else
    p4 ()
def Hi (b:p8):Option Int :=
 if (decide (b.1<(1:Int)))=true then
  some (6:Int)
 else
  if (decide ((6:Int)<b.1))=true then
   some (6:Int)
  else
   if (decide ((10:Int)<(b.2.length:Int)))=true then
    some (6:Int)
   else
    L3 b (fun _ =>
      some (0:Int)) p6 (0:Int)
theorem aj9 {b:p8} {p4:Unit→Option Int} {s1:Int} {v:Int} {Q:rm}   (jz:qD [.tmp 2] Q (fun v=>(hS v)) v) (qY:∀ (bC:au) (Hs:List au) (p9:List I),p4 ()=some v→qV 53 [] p9→Q (.exit 0) p9 (bC::Hs)) {T:List I} (bZ:eS (EA false [1,1,1,1,49]) T=GH 53 [(1,(.ptr 0 0)),(3,(hS s1))]) (h:L3 b p4 p6 s1=some v) :
  dC Tryz.prog Rh 21 0 none QN T [qg b] Q:=by
 unfold QN;refine wp_loop bZ ?_;refine .intro (fun m T H=>∃ (s1:Int) (U9:List au),T=GH 53 [(1,(.ptr 0 0)),(3,(hS s1))]∧H=(qg b::U9)∧L3 b p4 m s1=some v) p6 ⟨s1,[],rfl,rfl,h⟩ ?_;clear h bZ;rintro m T H ⟨s1,U9,rfl,rfl,h⟩;cases m
 ·exact q4 h
 rename_i m;rw [L3.eq_2] at h;conv=>whnf
 refine bs h (fun qC h=>?_) fun qC h=>?_
 ·rw [qC];conv=>whnf
  refine qy h id fun qG h=>?_;rw [qR p7 2 qK b.2 s1 qG];conv=>whnf
  refine DX (x:=au.cells [(hS (0:Int)),(hS (0:Int))]) (by first | exact qL.h | rfl | (simp [sg,I.settle];done)) ?_
  conv=>whnf
  rw [Ig];refine DX (x:=au.cells [(hS (ix b.2 s1).1),(hS (ix b.2 s1).2)]) (by first | exact qL.h | rfl | (simp [sg,I.settle];done)) ?_
  conv=>whnf
  refine bs h (fun qZ h=>?_) fun qZ h=>?_
  ·rw [qZ];(conv=>whnf);exact qd h jz rfl rfl
  ·rw [qZ];(conv=>whnf);refine DX (x:=au.cells [(hS (ix b.2 s1).1),(hS (ix b.2 s1).2)]) (by first | exact qL.h | rfl | (simp [sg,I.settle];done)) ?_
   (conv=>whnf);refine bs h (fun qT h=>?_) fun qT h=>?_
   ·rw [qT];(conv=>whnf);exact qd h jz rfl rfl
   ·rw [qT];(conv=>whnf);refine DX (x:=au.cells [(hS (ix b.2 s1).1),(hS (ix b.2 s1).2)]) (by first | exact qL.h | rfl | (simp [sg,I.settle];done)) ?_
    (conv=>whnf);refine bs h (fun qO h=>?_) fun qO h=>?_
    ·rw [qO];(conv=>whnf);exact qd h jz rfl rfl
    ·rw [qO];(conv=>whnf);refine DX (x:=au.cells [(hS (ix b.2 s1).1),(hS (ix b.2 s1).2)]) (by first | exact qL.h | rfl | (simp [sg,I.settle];done)) ?_
     (conv=>whnf);refine bs h (fun q5 h=>?_) fun q5 h=>?_
     ·rw [q5];(conv=>whnf);exact qd h jz rfl rfl
     ·rw [q5];(conv=>whnf);exact ⟨m,su m,(w (s1+(1:Int))),_,rfl,rfl,h⟩
 ·rw [qC];conv=>whnf
  exact qY _ _ _ h ⟨rfl,rfl⟩
theorem JS {b:p8} {v:Int} (h:Hi b=some v):qt 21 [(.agg [(hS b.1),(.ay (b.2.flatMap p7) b.2.length .shared)])] (hS v):=by
 refine qN dI afN rfl rfl fun Q bn=>?_;have jz:qD [.tmp 2] Q (fun v=>(hS v)) v:=fun T H bK=>bn _ T H bK;unfold Hi at h;unfold aa9;obtain ⟨Hy,qB⟩:∃ c,QN=c:=⟨_,rfl⟩;rw [qB];conv=>whnf
 refine bs h (fun eV h=>?_) fun eV h=>?_
 ·rw [eV];conv=>whnf
  exact qd h jz rfl rfl
 ·rw [eV];conv=>whnf
  refine bs h (fun fl h=>?_) fun fl h=>?_
  ·rw [fl];(conv=>whnf);exact qd h jz rfl rfl
  ·rw [fl];(conv=>whnf);refine bs h (fun qo h=>?_) fun qo h=>?_
   ·rw [qo];(conv=>whnf);exact qd h jz rfl rfl
   ·rw [qo];(conv=>whnf);subst qB;refine aj9 ?_ ?_ (by exact rfl) h
    ·exact fun T H bK=>jz T H bK
    ·intro bC Hs p9 h qs;obtain ⟨ru,rfl⟩:=qs.ex;(conv=>whnf);exact qd h jz rfl rfl

noncomputable def abn:ez :=
 GC [gO 2 [.hJ 0] .box,gO 3 [.hJ 1] .box,Gn 4 0] (.seq (GC [gO 5 [.sl 3] (.oT 1),Gm 6 5,F1 7 6 1 .eql] (.cond (.sl 7) (GC [F7 8 2 1,Gm 9 8,F7 10 3 0,Gm 11 10,Gi 12 9 11 2,F7 13 12 1,Gm 14 13,Gq 4 14] .ret) .skip)) (GC [F7 15 2 1,Gm 16 15,F7 17 3 0,Gm 18 17,Gi 19 16 18 2,F7 20 19 0,Gm 21 20,Gq 4 21] .ret))
theorem af1:zg Tryz.prog VF 57=some (abn,22,[.tmp 4]):=by kernel_rfl
def Lj (b:p8) (p:(Int×Int)):Option Int :=
 if (decide (p.2=(1:Int)))=true then
  p2 (0≤p.1∧p.1<(b.2.length:Int)) <|
  some ((ix b.2 p.1).2)
 else
  p2 (0≤p.1∧p.1<(b.2.length:Int)) <|
  some ((ix b.2 p.1).1)
theorem aay {b:p8} {p:(Int×Int)} {v:Int} (h:Lj b p=some v):qt 57 [(.agg [(hS b.1),(.ay (b.2.flatMap p7) b.2.length .shared)]),(.agg [(hS p.1),(hS p.2)])] (hS v):=by
 refine qN dI af1 rfl rfl fun Q bn=>?_;have jz:qD [.tmp 4] Q (fun v=>(hS v)) v:=fun T H bK=>bn _ T H bK;unfold Lj at h;unfold abn;conv=>whnf
 refine bs h (fun eV h=>?_) fun eV h=>?_
 ·rw [eV];conv=>whnf
  refine qy h id fun fl h=>?_;rw [qR p7 2 qK b.2 p.1 fl];conv=>whnf
  exact qd h jz rfl rfl
 ·rw [eV];conv=>whnf
  refine qy h id fun qo h=>?_;rw [qR p7 2 qK b.2 p.1 qo];conv=>whnf
  exact qd h jz rfl rfl

noncomputable def Q1:ez :=
 .loop (some (EA false [0,2,3,1,13])) (.seq (GC [Gp 6 5,Gp 7 0,Gl 8 7,F2 9 6 8 .lss] (.cond (.sl 9) .skip (.exit 0))) (.seq (.block 1 (GC [Gp 12 0,Gp 13 5,Gi 14 12 13 2,F7 15 14 0,Gm 16 15,Gp 17 1,F2 18 16 17 .eql] (.cond (.sl 18) (GC [gO 4 [.iD (.bool true)] .iT] .ret) .skip))) (Gt [Gq 10 5,F0 11 10 1,Gq 5 11])))
noncomputable def abu:ez :=
 GC [gO 4 [.iD (.bool false)] .iT] (.seq (GC [Gn 5 0] (.block 0 Q1)) (GC [gO 4 [.iD (.bool false)] .iT] .ret))
theorem af7:zg Tryz.prog Rn 69=some (abu,19,[.tmp 4]):=by kernel_rfl
def Mc (row:qc) (qW:Int) (p4:Unit→Option Bool):Nat→Int→Option Bool
 | 0,_=>none
 | m+1,s1 =>
   if (decide (s1<(row.length:Int)))=true then
    p2 (0≤s1∧s1<(row.length:Int)) <|
    if (decide ((ix row s1).1=qW))=true then
     some true
    else
     Mc row qW p4 m (w (s1+(1:Int)))
   else
    p4 ()
def Mb (row:qc) (qW:Int):Option Bool :=
 Mc row qW (fun _ =>
   some false) p6 (0:Int)
theorem akT {row:qc} {qW:Int} {p4:Unit→Option Bool} {s1:Int} {v:Bool} {Q:rm}   (jz:qD [.tmp 4] Q (fun v=>(B v)) v) (qY:∀ (p9:List I),p4 ()=some v→qV 19 [] p9→Q (.exit 0) p9 []) {T:List I} (bZ:eS (EA false [0,2,3,1,13]) T=GH 19 [(0,(qf row .shared)),(1,(hS qW)),(5,(hS s1))]) (h:Mc row qW p4 p6 s1=some v) :
  dC Tryz.prog Rn 69 0 none Q1 T [] Q:=by
 unfold Q1;refine wp_loop bZ ?_;refine .intro (fun m T H=>∃ (s1:Int),T=GH 19 [(0,(qf row .shared)),(1,(hS qW)),(5,(hS s1))]∧H=[]∧Mc row qW p4 m s1=some v) p6 ⟨s1,rfl,rfl,h⟩ ?_;clear h bZ;rintro m T H ⟨s1,rfl,rfl,h⟩;cases m
 ·exact q4 h
 rename_i m;rw [Mc.eq_2] at h;conv=>whnf
 refine bs h (fun eV h=>?_) fun eV h=>?_
 ·rw [eV];conv=>whnf
  refine qy h id fun fl h=>?_;rw [qR p7 2 qK row s1 fl];conv=>whnf
  refine bs h (fun qo h=>?_) fun qo h=>?_
  ·rw [qo];(conv=>whnf);exact qd h jz rfl rfl
  ·rw [qo];(conv=>whnf);exact ⟨m,su m,(w (s1+(1:Int))),rfl,rfl,h⟩
 ·rw [eV];conv=>whnf
  exact qY  _ h ⟨rfl,rfl⟩
theorem UI {row:qc} {qW:Int} {v:Bool} (h:Mb row qW=some v):qt 69 [(.ay (row.flatMap p7) row.length .shared),(hS qW)] (B v):=by
 refine qN dI af7 rfl rfl fun Q bn=>?_;have jz:qD [.tmp 4] Q (fun v=>(B v)) v:=fun T H bK=>bn _ T H bK;unfold Mb at h;unfold abu;obtain ⟨Hy,qB⟩:∃ c,Q1=c:=⟨_,rfl⟩;rw [qB];conv=>whnf
 subst qB;refine akT ?_ ?_ (by exact rfl) h
 ·exact fun T H bK=>jz T H bK
 ·intro  p9 h qs;obtain ⟨ru,rfl⟩:=qs.ex;conv=>whnf
  exact qd h jz rfl rfl

noncomputable def abv:ez :=
 GC [gO 2 [.hJ 0] .box,gO 3 [.hJ 1] .box,Gn 4 0] (.seq (GC [gO 5 [.sl 3] (.oT 1),Gm 6 5,F1 7 6 1 .eql] (.cond (.sl 7) (GC [F7 8 2 1,Gm 9 8,F7 10 3 0,Gm 11 10,Gi 12 9 11 2,F7 13 12 0,Gm 14 13,Gq 4 14] .ret) .skip)) (GC [F7 15 2 1,Gm 16 15,F7 17 3 0,Gm 18 17,Gi 19 16 18 2,F7 20 19 1,Gm 21 20,Gq 4 21] .ret))
theorem af8:zg Tryz.prog VL 70=some (abv,22,[.tmp 4]):=by kernel_rfl
def JU (b:p8) (p:(Int×Int)):Option Int :=
 if (decide (p.2=(1:Int)))=true then
  p2 (0≤p.1∧p.1<(b.2.length:Int)) <|
  some ((ix b.2 p.1).1)
 else
  p2 (0≤p.1∧p.1<(b.2.length:Int)) <|
  some ((ix b.2 p.1).2)
theorem aaE {b:p8} {p:(Int×Int)} {v:Int} (h:JU b p=some v):qt 70 [(.agg [(hS b.1),(.ay (b.2.flatMap p7) b.2.length .shared)]),(.agg [(hS p.1),(hS p.2)])] (hS v):=by
 refine qN dI af8 rfl rfl fun Q bn=>?_;have jz:qD [.tmp 4] Q (fun v=>(hS v)) v:=fun T H bK=>bn _ T H bK;unfold JU at h;unfold abv;conv=>whnf
 refine bs h (fun eV h=>?_) fun eV h=>?_
 ·rw [eV];conv=>whnf
  refine qy h id fun fl h=>?_;rw [qR p7 2 qK b.2 p.1 fl];conv=>whnf
  exact qd h jz rfl rfl
 ·rw [eV];conv=>whnf
  refine qy h id fun qo h=>?_;rw [qR p7 2 qK b.2 p.1 qo];conv=>whnf
  exact qd h jz rfl rfl

noncomputable def QK:ez :=
 .loop (some (EA false [1,2,4,2,94])) (.seq (GC [Gp 20 8,Gp 21 7,F2 22 20 21 .lss] (.cond (.sl 22) .skip (.exit 0))) (.seq (.block 1 (.seq (Gu [Gp 25 1,Gp 26 8,Gi 27 25 26 2,F7 28 27 0,Gm 29 28,F1 30 29 0 .lss,Gq 31 30,cR 32 [.sl 1] 31 false .iT,cR 33 [.sl 8] 31 false .iT,cR 34 [.hM 32,.hM 33] 31 false (.pQ 2),cR 35 [.hM 34] 31 false (.oT 0),cR 36 [.hM 35] 31 false (.w8 .one),cR 37 [.sl 2] 31 false (.oT 1),cR 38 [.hM 37] 31 false (.w8 .one),cR 39 [.hJ 38] 31 false .w_,cR 40 [.hM 36,.hM 39] 31 false (.bin .geq),gO 41 [.sl 31,.iD (.bool true),.hM 40] .pick,Gq 42 41,cR 43 [.sl 1] 42 false .iT,cR 44 [.sl 8] 42 false .iT,cR 45 [.hM 43,.hM 44] 42 false (.pQ 2),cR 46 [.hM 45] 42 false (.oT 1),cR 47 [.hM 46] 42 false (.w8 .one),cR 48 [.hM 47,.iD (.int .i64 0)] 42 false (.bin .lss),gO 49 [.sl 42,.iD (.bool true),.hM 48] .pick,Gq 50 49,cR 51 [.sl 1] 50 false .iT,cR 52 [.sl 8] 50 false .iT,cR 53 [.hM 51,.hM 52] 50 false (.pQ 2),cR 54 [.hM 53] 50 false (.oT 1),cR 55 [.hM 54] 50 false (.w8 .one),cR 56 [.hM 55,.iD (.int .i64 1)] 50 false (.bin .gtr),gO 57 [.sl 50,.iD (.bool true),.hM 56] .pick]) (.cond (.sl 57) (GC [Gn 4 0,Gn 5 0,Gn 6 3] .ret) .skip))) (Gt [Gq 23 8,F0 24 23 1,Gq 8 24])))
noncomputable def QL:ez :=
 .loop (some (EA false [1,2,4,1,1,1,93])) (.seq (GC [Gp 58 9,Gp 59 7,F2 60 58 59 .lss] (.cond (.sl 60) .skip (.exit 2))) (.seq (.block 3 (.seq (Gu [Gp 63 1,Gp 64 9,gO 65 [.hJ 63,.hJ 64] (.AY 2 false true false),Gp 66 1,Gp 67 9,Gi 68 66 67 2,F7 69 68 0,Gm 70 69,gO 71 [.iD (.func 69 [] []),.sl 65,.sl 70] (.call 3)]) (.cond (.sl 71) (GC [Gn 4 0,Gn 5 0,Gn 6 11] .ret) .skip))) (Gt [Gq 61 9,F0 62 61 1,Gq 9 62])))
noncomputable def QM:ez :=
 .loop (some (EA false [1,2,4,1,2,1,92])) (.seq (GC [Gp 72 10,Gp 73 7,F2 74 72 73 .lss] (.cond (.sl 74) .skip (.exit 4))) (.seq (.block 5 (.seq (Gu [gO 77 [.sl 2] (.w8 (.str 2)),Gp 78 1,Gp 79 10,F1 80 79 1 .sub,Gi 81 78 80 2,gO 82 [.hM 81] (.w8 (.str 2)),gO 83 [.iD (.func 70 [] []),.sl 77,.sl 82] (.call 3),gO 84 [.sl 2] (.w8 (.str 2)),Gp 85 1,Gp 86 10,Gi 87 85 86 2,gO 88 [.hM 87] (.w8 (.str 2)),gO 89 [.iD (.func 57 [] []),.sl 84,.sl 88] (.call 3),F2 90 83 89 .neq]) (.cond (.sl 90) (GC [Gn 4 0,Gn 5 0,Gn 6 27] .ret) .skip))) (Gt [Gq 75 10,F0 76 75 1,Gq 10 76])))
noncomputable def aa7:ez :=
 GC [gO 2 [.hJ 0] .box,Gn 4 0,Gn 5 0,Gn 6 0] (.seq (GC [gO 11 [.sl 2] (.w8 (.str 2)),gO 12 [.iD (.func 21 [] []),.sl 11] (.call 3),F1 13 12 0 .neq] (.cond (.sl 13) (GC [gO 14 [.hM 2] (.w8 (.str 2)),gO 15 [.iD (.func 21 [] []),.sl 14] (.call 3),Gn 4 0,Gn 5 0,Gq 6 15] .ret) .skip)) (GC [Gp 16 1,Gl 17 16,Gq 7 17] (.seq (GC [Gp 18 7,F1 19 18 0 .eql] (.cond (.sl 19) (GC [Gn 4 0,Gn 5 0,Gn 6 6] .ret) .skip)) (.seq (GC [Gn 8 0] (.block 0 QK)) (.seq (GC [Gn 9 0] (.block 2 QL)) (.seq (GC [Gn 10 1] (.block 4 QM)) (.seq (Gu [gO 91 [.sl 2] (.w8 (.str 2)),Gp 92 1,gO 93 [.hM 92,.iD (.int .i64 0)] (.pQ 2),gO 94 [.hM 93] (.w8 (.str 2)),gO 95 [.iD (.func 57 [] []),.sl 91,.sl 94] (.call 3),gO 96 [.sl 2] (.w8 (.str 2)),Gp 97 1,Gq 98 7,F1 99 98 1 .sub,Gi 100 97 99 2,gO 101 [.hM 100] (.w8 (.str 2)),gO 102 [.iD (.func 70 [] []),.sl 96,.sl 101] (.call 3),Gq 4 95,Gq 5 102,Gn 6 0]) .ret)))))))
theorem afL:zg Tryz.prog Nh 19=some (aa7,103,[.tmp 4,.tmp 5,.tmp 6]):=by kernel_rfl
def L0 (b:p8) (row:qc) (p4:Unit→Option (Int×Int×Int)):Nat→Int→Option (Int×Int×Int)
 | 0,_=>none
 | m+1,s1 =>
   if (decide (s1<(row.length:Int)))=true then
    p2 (0≤s1∧s1<(row.length:Int)) <|
    if (decide ((ix row s1).1<(0:Int)))=true then
     some ((0:Int),(0:Int),(3:Int))
    else
     p2 (0≤s1∧s1<(row.length:Int)) <|
     if (decide ((b.2.length:Int)≤(ix row s1).1))=true then
      some ((0:Int),(0:Int),(3:Int))
     else
      p2 (0≤s1∧s1<(row.length:Int)) <|
      if (decide ((ix row s1).2<(0:Int)))=true then
       some ((0:Int),(0:Int),(3:Int))
      else
       p2 (0≤s1∧s1<(row.length:Int)) <|
       if (decide ((1:Int)<(ix row s1).2))=true then
        some ((0:Int),(0:Int),(3:Int))
       else
        L0 b row p4 m (w (s1+(1:Int)))
   else
    p4 ()
def L1 (row:qc) (qn:Unit→Option (Int×Int×Int)):Nat→Int→Option (Int×Int×Int)
 | 0,_=>none
 | m+1,s2 =>
   if (decide (s2<(row.length:Int)))=true then
    p2 (0≤s2∧s2≤(row.length:Int)) <|
    p2 (0≤s2∧s2<(row.length:Int)) <|
    (Mb (row.take s2.toNat) ((ix row s2).1)).bind fun eE =>
    if eE=true then
     some ((0:Int),(0:Int),(11:Int))
    else
     L1 row qn m (w (s2+(1:Int)))
   else
    qn ()
def L2 (b:p8) (row:qc) (ra:Unit→Option (Int×Int×Int)):Nat→Int→Option (Int×Int×Int)
 | 0,_=>none
 | m+1,s3 =>
   if (decide (s3<(row.length:Int)))=true then
    p2 (0≤(w (s3-(1:Int)))∧(w (s3-(1:Int)))<(row.length:Int)) <|
    (JU b (ix row (w (s3-(1:Int))))).bind fun qp =>
    p2 (0≤s3∧s3<(row.length:Int)) <|
    (Lj b (ix row s3)).bind fun rj =>
    if (decide (qp≠rj))=true then
     some ((0:Int),(0:Int),(27:Int))
    else
     L2 b row ra m (w (s3+(1:Int)))
   else
    ra ()
def LZ (b:p8) (row:qc):Option (Int×Int×Int) :=
 (Hi b).bind fun aS =>
 if (decide (aS≠(0:Int)))=true then
  (Hi b).bind fun bk =>
  some ((0:Int),(0:Int),bk)
 else
  if (decide ((row.length:Int)=(0:Int)))=true then
   some ((0:Int),(0:Int),(6:Int))
  else
   L0 b row (fun _ =>
     L1 row (fun _ =>
       L2 b row (fun _ =>
         p2 (0≤(0:Int)∧(0:Int)<(row.length:Int)) <|
         (Lj b (ix row (0:Int))).bind fun G9 =>
         p2 (0≤(w ((row.length:Int)-(1:Int)))∧(w ((row.length:Int)-(1:Int)))<(row.length:Int)) <|
         (JU b (ix row (w ((row.length:Int)-(1:Int))))).bind fun HE =>
         some (G9,HE,(0:Int))) p6 (1:Int)) p6 (0:Int)) p6 (0:Int)
theorem aj5 {b:p8} {row:qc} {p4:Unit→Option (Int×Int×Int)} {s1:Int} {v:(Int×Int×Int)} {Q:rm}   (jz:qD [.tmp 4,.tmp 5,.tmp 6] Q (fun v=>(.tuple [(hS v.1),(hS v.2.1),(hS v.2.2)])) v) (qY:∀ (p9:List I),p4 ()=some v→qV 103 [(1,(qf row .shared)),(2,(.ptr 0 0)),(7,(hS (row.length:Int)))] p9→Q (.exit 0) p9 [qg b]) {T:List I} (bZ:eS (EA false [1,2,4,2,94]) T=GH 103 [(1,(qf row .shared)),(2,(.ptr 0 0)),(7,(hS (row.length:Int))),(8,(hS s1))]) (h:L0 b row p4 p6 s1=some v) :
  dC Tryz.prog Nh 19 0 none QK T [qg b] Q:=by
 unfold QK;refine wp_loop bZ ?_;refine .intro (fun m T H=>∃ (s1:Int),T=GH 103 [(1,(qf row .shared)),(2,(.ptr 0 0)),(7,(hS (row.length:Int))),(8,(hS s1))]∧H=[qg b]∧L0 b row p4 m s1=some v) p6 ⟨s1,rfl,rfl,h⟩ ?_;clear h bZ;rintro m T H ⟨s1,rfl,rfl,h⟩;cases m
 ·exact q4 h
 rename_i m;rw [L0.eq_2] at h;conv=>whnf
 refine bs h (fun qG h=>?_) fun qG h=>?_
 ·rw [qG];conv=>whnf
  refine qy h id fun qZ h=>?_;rw [qR p7 2 qK row s1 qZ];conv=>whnf
  refine bs h (fun qT h=>?_) fun qT h=>?_
  ·rw [qT];(conv=>whnf);exact qd h jz rfl rfl
  ·rw [qT];(conv=>whnf);refine qy h id fun qO h=>?_;rw [qR p7 2 qK row s1 qO];(conv=>whnf);refine bs h (fun q5 h=>?_) fun q5 h=>?_
   ·rw [q5];(conv=>whnf);exact qd h jz rfl rfl
   ·rw [q5];(conv=>whnf);refine qy h id fun q2 h=>?_;rw [qR p7 2 qK row s1 q2];(conv=>whnf);refine bs h (fun rM h=>?_) fun rM h=>?_
    ·rw [rM];(conv=>whnf);exact qd h jz rfl rfl
    ·rw [rM];(conv=>whnf);refine qy h id fun ry h=>?_;rw [qR p7 2 qK row s1 ry];(conv=>whnf);refine bs h (fun rB h=>?_) fun rB h=>?_
     ·rw [rB];(conv=>whnf);exact qd h jz rfl rfl
     ·rw [rB];(conv=>whnf);exact ⟨m,su m,(w (s1+(1:Int))),rfl,rfl,h⟩
 ·rw [qG];conv=>whnf
  exact qY  _ h ⟨rfl,rfl⟩
theorem aj6 {row:qc} {qn:Unit→Option (Int×Int×Int)} {s2:Int} {b:p8} {v:(Int×Int×Int)} {Q:rm}   (jz:qD [.tmp 4,.tmp 5,.tmp 6] Q (fun v=>(.tuple [(hS v.1),(hS v.2.1),(hS v.2.2)])) v) (HT:∀ (p9:List I),qn ()=some v→qV 103 [(1,(qf row .shared)),(2,(.ptr 0 0)),(7,(hS (row.length:Int)))] p9→Q (.exit 2) p9 [qg b]) {T:List I} (bZ:eS (EA false [1,2,4,1,1,1,93]) T=GH 103 [(1,(qf row .shared)),(2,(.ptr 0 0)),(7,(hS (row.length:Int))),(9,(hS s2))]) (h:L1 row qn p6 s2=some v) :
  dC Tryz.prog Nh 19 0 none QL T [qg b] Q:=by
 unfold QL;refine wp_loop bZ ?_;refine .intro (fun m T H=>∃ (s2:Int),T=GH 103 [(1,(qf row .shared)),(2,(.ptr 0 0)),(7,(hS (row.length:Int))),(9,(hS s2))]∧H=[qg b]∧L1 row qn m s2=some v) p6 ⟨s2,rfl,rfl,h⟩ ?_;clear h bZ;rintro m T H ⟨s2,rfl,rfl,h⟩;cases m
 ·exact q4 h
 rename_i m;rw [L1.eq_2] at h;conv=>whnf
 refine bs h (fun Hk h=>?_) fun Hk h=>?_
 ·rw [Hk];conv=>whnf
  refine qy h id fun JJ h=>?_;erw [Ul p7 2 qK row s2 JJ];conv=>whnf
  refine qy h id fun HI h=>?_;rw [qR p7 2 qK row s2 HI];conv=>whnf
  obtain ⟨eE,I2,h⟩:=qi h;refine ⟨qh.pl,_,UI I2,GX,?_⟩;conv=>whnf
  cases eE
  ·(conv=>whnf);replace h:=Hu rfl h;exact ⟨m,su m,(w (s2+(1:Int))),rfl,rfl,h⟩
  ·(conv=>whnf);replace h:=Hv rfl h;exact qd h jz rfl rfl
 ·rw [Hk];conv=>whnf
  exact HT  _ h ⟨rfl,rfl⟩
theorem aj7 {b:p8} {row:qc} {ra:Unit→Option (Int×Int×Int)} {s3:Int} {v:(Int×Int×Int)} {Q:rm}   (jz:qD [.tmp 4,.tmp 5,.tmp 6] Q (fun v=>(.tuple [(hS v.1),(hS v.2.1),(hS v.2.2)])) v) (LD:∀ (p9:List I),ra ()=some v→qV 103 [(1,(qf row .shared)),(2,(.ptr 0 0)),(7,(hS (row.length:Int)))] p9→Q (.exit 4) p9 [qg b]) {T:List I} (bZ:eS (EA false [1,2,4,1,2,1,92]) T=GH 103 [(1,(qf row .shared)),(2,(.ptr 0 0)),(7,(hS (row.length:Int))),(10,(hS s3))]) (h:L2 b row ra p6 s3=some v) :
  dC Tryz.prog Nh 19 0 none QM T [qg b] Q:=by
 unfold QM;refine wp_loop bZ ?_;refine .intro (fun m T H=>∃ (s3:Int),T=GH 103 [(1,(qf row .shared)),(2,(.ptr 0 0)),(7,(hS (row.length:Int))),(10,(hS s3))]∧H=[qg b]∧L2 b row ra m s3=some v) p6 ⟨s3,rfl,rfl,h⟩ ?_;clear h bZ;rintro m T H ⟨s3,rfl,rfl,h⟩;cases m
 ·exact q4 h
 rename_i m;rw [L2.eq_2] at h;conv=>whnf
 refine bs h (fun rS h=>?_) fun rS h=>?_
 ·rw [rS];conv=>whnf
  refine qy h id fun HB h=>?_;rw [qR p7 2 qK row (w (s3-(1:Int))) HB];conv=>whnf
  obtain ⟨qp,Ia,h⟩:=qi h;refine ⟨qh.pl,_,aaE Ia,GX,?_⟩;conv=>whnf
  refine qy h id fun Ly h=>?_;rw [qR p7 2 qK row s3 Ly];conv=>whnf
  obtain ⟨rj,Pn,h⟩:=qi h;refine ⟨qh.pl,_,aay Pn,U' rfl,?_⟩;conv=>whnf
  refine bs h (fun JK h=>?_) fun JK h=>?_
  ·rw [JK];(conv=>whnf);exact qd h jz rfl rfl
  ·rw [JK];(conv=>whnf);exact ⟨m,su m,(w (s3+(1:Int))),rfl,rfl,h⟩
 ·rw [rS];conv=>whnf
  exact LD  _ h ⟨rfl,rfl⟩
theorem aj8 {b:p8} {row:qc} {v:(Int×Int×Int)} (h:LZ b row=some v):qt 19 [(.agg [(hS b.1),(.ay (b.2.flatMap p7) b.2.length .shared)]),(.ay (row.flatMap p7) row.length .shared)] (.tuple [(hS v.1),(hS v.2.1),(hS v.2.2)]):=by
 refine qN dI afL rfl (I8 (p5 rfl (p5 rfl (p5 rfl rfl)))) fun Q bn=>?_;have jz:qD [.tmp 4,.tmp 5,.tmp 6] Q (fun v=>(.tuple [(hS v.1),(hS v.2.1),(hS v.2.2)])) v:=fun T H bK=>bn _ T H bK;unfold LZ at h;unfold aa7;obtain ⟨Hy,qB⟩:∃ c,QK=c:=⟨_,rfl⟩;rw [qB];obtain ⟨Ko,rT⟩:∃ c,QL=c:=⟨_,rfl⟩;rw [rT];obtain ⟨O8,Iq⟩:∃ c,QM=c:=⟨_,rfl⟩;rw [Iq];conv=>whnf
 obtain ⟨aS,eV,h⟩:=qi h;refine ⟨qh.pl,_,JS eV,?_⟩;conv=>whnf
 refine bs h (fun fl h=>?_) fun fl h=>?_
 ·rw [fl];conv=>whnf
  obtain ⟨bk,qo,h⟩:=qi h;refine ⟨qh.pl,_,JS qo,?_⟩;conv=>whnf
  exact qd h jz rfl rfl
 ·rw [fl];conv=>whnf
  refine bs h (fun qC h=>?_) fun qC h=>?_
  ·rw [qC];(conv=>whnf);exact qd h jz rfl rfl
  ·rw [qC];(conv=>whnf);subst qB;refine aj5 ?_ ?_ (by exact rfl) h
   ·exact fun T H bK=>jz T H bK
   ·intro  p9 h qs;obtain ⟨ru,rfl⟩:=qs.ex;(conv=>whnf);subst rT;refine aj6 ?_ ?_ (by exact rfl) h
    ·exact fun T H bK=>jz T H bK
    ·intro  p9 h qs;obtain ⟨ru,rfl⟩:=qs.ex;(conv=>whnf);subst Iq;refine aj7 ?_ ?_ (by exact rfl) h
     ·exact fun T H bK=>jz T H bK
     ·intro  p9 h qs;obtain ⟨ru,rfl⟩:=qs.ex;(conv=>whnf);refine qy h id fun NM h=>?_;rw [qR p7 2 qK row (0:Int) NM];(conv=>whnf);obtain ⟨G9,RY,h⟩:=qi h;refine ⟨qh.pl,_,aay RY,GX,?_⟩;(conv=>whnf);refine qy h id fun NN h=>?_;rw [qR p7 2 qK row (w ((row.length:Int)-(1:Int))) NN];(conv=>whnf);obtain ⟨HE,aeI,h⟩:=qi h;refine ⟨qh.pl,_,aaE aeI,U' rfl,?_⟩;(conv=>whnf);exact qd h jz rfl rfl

def Z9 (b:p8) (row:qc):Option Int :=
 (MX b row).bind fun aS =>
 if (decide (aS.2.2≠(0:Int)))=true then
  some aS.2.2
 else
  if (decide ((row.length:Int)<(b.2.length:Int)))=true then
   some (15:Int)
  else
   if (decide (aS.1≠aS.2.1))=true then
    some (27:Int)
   else
    some (0:Int)

def UA (b:p8) (row:qc):Option Int :=
 (LZ b row).bind fun aS =>
 if (decide (aS.2.2≠(0:Int)))=true then
  some aS.2.2
 else
  if (decide ((row.length:Int)≠(b.2.length:Int)))=true then
   some (15:Int)
  else
   if (decide (aS.1≠aS.2.1))=true then
    some (27:Int)
   else
    some (0:Int)

def FW (b:p8) (l:qc):Option Bool :=
 (LW b).bind fun aS =>
 if aS=true then
  (IU).bind fun bk =>
  some bk
 else
  if (decide ((14:Int)<(l.length:Int)))=true then
   (IU).bind fun eE =>
   some eE
  else
   (MX b l).bind fun qp =>
   (LZ b l).bind fun rj =>
   (MY b).bind fun G9 =>
   (Hi b).bind fun HE =>
   if (decide (G9=HE))=true then
    if (decide (qp.1=rj.1))=true then
     if (decide (qp.2.1=rj.2.1))=true then
      if (decide (qp.2.2=rj.2.2))=true then
       (Z9 b l).bind fun JP =>
       (UA b l).bind fun HS =>
       if (decide (JP=HS))=true then
        (IU).bind fun HX =>
        some HX
       else
        some false
      else
       some false
     else
      some false
    else
     some false
   else
    some false
end Go.Proofs.YtfakoboiahbhaaaGreat.Ab


namespace Go.Proofs.YtfakoboiahbhaaaGreat.Ab
open Go
def HW (lo hi x:Int):Bool:=decide (x<lo) || decide (hi<x)
theorem LN {lo hi x:Int}:HW lo hi x=false↔lo≤x∧x≤hi:=by
 simp only [HW,Bool.or_eq_false_iff,decide_eq_false_iff_not];omega
theorem NY {lo hi x:Int}:HW lo hi x=true↔x<lo∨hi<x:=by
 simp only [HW,tQ,decide_eq_true_eq]
def posOf {α:Type} (p:α→Bool):List α→Nat→Int
 | [],_ => -1
 | x::l,i=>if p x=true then (i:Int) else posOf p l (i+1)
theorem N0 {α:Type} (p:α→Bool):∀ (l:List α) (i:Nat),decide (0≤posOf p l i)=l.any p
 | [],_=>rfl
 | x::l,i=>by
   rw [posOf,uH];by_cases h:p x=true
   ·rw [if_pos h,h];simp
   ·rw [if_neg h,N0 p l (i+1)];simp [h]
theorem alj (n lo hi:Int):OK n lo hi=some (HW lo hi n):=by
 unfold OK HW;by_cases h:n<lo <;> simp [h]
theorem ZZ {s:List Int} {f:Int→Option Bool} {p:Int→Bool} (aQ:∀ x∈s,f x=some (p x)) (ai:s.length≤140737488355328):∀ (m i:Nat) (z:Int),z=i→i≤s.length→s.length-i<m→LV s f (fun _=>some (-1:Int)) m z=some (posOf p (s.drop i) i)
 | 0,i,_,_,_,h=>absurd h (by omega)
 | m+1,i,_,rfl,hi,hm=>by
   rw [LV];by_cases h:i<s.length
   ·rw [I5 h,Hp h,q_ h,aQ _ (sH h),rW,sU h,posOf];by_cases aC:p s[i]=true
    ·rw [if_pos aC,if_pos aC]
    ·rw [if_neg aC,if_neg aC,re i (by omega),ZZ aQ ai m (i+1) _ rfl (by omega) (by omega)]
   ·rw [I4 h,tb (by omega)];rfl
theorem aaW {s:List (Int×Int)} {f:Int×Int→Option Bool} {p:Int×Int→Bool} (aQ:∀ x∈s,f x=some (p x)) (ai:s.length≤140737488355328):∀ (m i:Nat) (z:Int),z=i→i≤s.length→s.length-i<m→Ml s f (fun _=>some (-1:Int)) m z=some (posOf p (s.drop i) i)
 | 0,i,_,_,_,h=>absurd h (by omega)
 | m+1,i,_,rfl,hi,hm=>by
   rw [Ml];by_cases h:i<s.length
   ·rw [I5 h,Hp h,q_ h,aQ _ (sH h),rW,sU h,posOf];by_cases aC:p s[i]=true
    ·rw [if_pos aC,if_pos aC]
    ·rw [if_neg aC,if_neg aC,re i (by omega),aaW aQ ai m (i+1) _ rfl (by omega) (by omega)]
   ·rw [I4 h,tb (by omega)];rfl
theorem aaX {s:List (Int×Int)} {f:Int×Int→Option Bool} {p:Int×Int→Bool} (aQ:∀ x∈s,f x=some (p x)) (ai:s.length≤140737488355328):∀ (m i:Nat) (z:Int),z=i→i≤s.length→s.length-i<m→Mm s f (fun _=>some (-1:Int)) m z=some (posOf p (s.drop i) i)
 | 0,i,_,_,_,h=>absurd h (by omega)
 | m+1,i,_,rfl,hi,hm=>by
   rw [Mm];by_cases h:i<s.length
   ·rw [I5 h,Hp h,q_ h,aQ _ (sH h),rW,sU h,posOf];by_cases aC:p s[i]=true
    ·rw [if_pos aC,if_pos aC]
    ·rw [if_neg aC,if_neg aC,re i (by omega),aaX aQ ai m (i+1) _ rfl (by omega) (by omega)]
   ·rw [I4 h,tb (by omega)];rfl
theorem UU {s:List Int} {f:Int→Option Bool} {p:Int→Bool} (aQ:∀ x∈s,f x=some (p x)) (ai:s.length≤140737488355328):Ki s f=some (s.any p):=by
 have:=ZZ aQ ai p6 0 0 rfl (si _) (rq (by omega));rw [sT] at this;rw [Ki,Qt,this,rW,N0]
theorem akS {s:List (Int×Int)} {f:Int×Int→Option Bool} {p:Int×Int→Bool} (aQ:∀ x∈s,f x=some (p x)) (ai:s.length≤140737488355328):M6 s f=some (s.any p):=by
 have:=aaW aQ ai p6 0 0 rfl (si _) (rq (by omega));rw [sT] at this;rw [M6,OL,this,rW,N0]
theorem akV {s:List (Int×Int)} {f:Int×Int→Option Bool} {p:Int×Int→Bool} (aQ:∀ x∈s,f x=some (p x)) (ai:s.length≤140737488355328):OE s f=some (s.any p):=by
 have:=aaX aQ ai p6 0 0 rfl (si _) (rq (by omega));rw [sT] at this;rw [OE,QG,this,rW,N0]
theorem Qz (lo hi:Int) (l:List Int) (ak:l.length≤140737488355328):JT lo hi l=some (!(l.any (HW lo hi))):=by
 rw [JT,UU (p:=HW lo hi) (fun x _=>alj x lo hi) ak,rW]
def I9 (f:Int) (s:Int×Int):Bool:=HW 0 (f-1) s.1 || HW 0 (f-1) s.2
def q3 (b:p3):Int:=if b.1<1∨6<b.1∨(10:Int)<(b.2.length:Int) then 6 else if b.2.any (I9 b.1)=true then 3 else 0
structure qH (b:p3):Prop where
 f1:1≤b.1
 f6:b.1≤6
 len:b.2.length≤10
 left:∀ s∈b.2,0≤s.1∧s.1<b.1
 right:∀ s∈b.2,0≤s.2∧s.2<b.1
theorem IG {b:p3}:q3 b=0↔qH b:=by
 unfold q3;constructor
 ·intro h;split at h
  ·omega
  ·rename_i ad;split at h
   ·omega
   ·rename_i af;(have af:b.2.any (I9 b.1)=false:=by simpa using af);rw [uI] at af;have aG:∀ s∈b.2,HW 0 (b.1-1) s.1=false∧HW 0 (b.1-1) s.2=false:=fun s ai=>by
     have:=af s ai;unfold I9 at this;simpa using this
    exact ⟨by omega,by omega,by omega,fun s ai=>by have:=LN.1 (aG s ai).1;omega,fun s ai=>by have:=LN.1 (aG s ai).2;omega⟩
 ·intro h;obtain ⟨ad,af,aG,a7,bN⟩:=h;rw [if_neg (by omega),if_neg];rw [Bool.not_eq_true,uI];intro s ai;have a:=a7 s ai;have c:=bN s ai;unfold I9;rw [LN.2 (by omega),LN.2 (by omega)];decide
theorem Qw (b:p3) (ag:b.2.length≤1000):MY b=some (q3 b):=by
 rw [MY,Qz _ _ _ (by simp),rW];unfold q3;simp only [uH,List.any_nil,Bool.or_false];by_cases h:1≤b.1∧b.1≤6
 ·rw [LN.2 h,if_pos (by decide)];by_cases af:(10:Int)<(b.2.length:Int)
  ·rw [if_pos (decide_eq_true af),if_pos (by omega)]
  ·rw [if_neg (by simpa using af),if_neg (by omega),akV (p:=I9 b.1) (fun s _=>by
    rw [QD,LU (by omega),Qz _ _ _ (by simp),rW]
    simp [I9]) (by omega),rW]
   cases b.2.any (I9 b.1) <;> rfl
 ·have:HW 1 6 b.1=true:=by rw [NY];omega
  rw [this,if_neg (by decide),if_pos (by omega)]
theorem Z8 {b:p3} (ag:b.2.length≤1000) (aQ:1≤b.1):∀ (m i:Nat) (z:Int),z=i→i≤b.2.length→b.2.length-i<m→L3 b (fun _=>some (0:Int)) m z=some (if (b.2.drop i).any (I9 b.1)=true then 3 else 0)
 | 0,i,_,_,_,h=>absurd h (by omega)
 | m+1,i,_,rfl,hi,hm=>by
   rw [L3];by_cases h:i<b.2.length
   ·rw [I5 h,Hp h,q_ h,sU h,uH];have e:I9 b.1 b.2[i]=true↔b.2[i].1<0∨b.1≤b.2[i].1∨b.2[i].2<0∨b.1≤b.2[i].2:=by
     unfold I9;rw [tQ,NY,NY];omega
    by_cases ai:I9 b.1 b.2[i]=true
    ·have aY:=e.1 ai;rw [ai,Bool.true_or,if_pos rfl];by_cases aB:b.2[i].1<0
     ·rw [if_pos (decide_eq_true aB)]
     rw [if_neg (by simpa using aB)];by_cases aH:b.1≤b.2[i].1
     ·rw [if_pos (decide_eq_true aH)]
     rw [if_neg (by simpa using aH)];by_cases aR:b.2[i].2<0
     ·rw [if_pos (decide_eq_true aR)]
     rw [if_neg (by simpa using aR),if_pos (decide_eq_true (by omega))]
    ·have aY:=(not_congr e).1 ai;(have g2:I9 b.1 b.2[i]=false:=by simpa using ai);rw [g2,vg,if_neg (by simp;omega),if_neg (by simp;omega),if_neg (by simp;omega),if_neg (by simp;omega),re i (by omega),Z8 ag aQ m (i+1) _ rfl (by omega) (by omega)]
   ·rw [I4 h,tb (by omega)];rfl
theorem Ov (b:p3) (ag:b.2.length≤1000):Hi b=some (q3 b):=by
 rw [Hi];unfold q3;by_cases ad:b.1<1
 ·rw [if_pos (decide_eq_true ad),if_pos (.inl ad)]
 rw [if_neg (by simpa using ad)];by_cases af:6<b.1
 ·rw [if_pos (decide_eq_true af),if_pos (.inr (.inl af))]
 rw [if_neg (by simpa using af)];by_cases aG:(10:Int)<(b.2.length:Int)
 ·rw [if_pos (decide_eq_true aG),if_pos (.inr (.inr aG))]
 rw [if_neg (by simpa using aG),if_neg (by omega),Z8 ag (by omega) p6 0 0 rfl (si _) (rq (by omega)),sT]
abbrev Row:=List (Int×Int)
def G' (b:p3) (p:Int×Int):Bool:=HW 0 ((b.2.length:Int)-1) p.1 || HW 0 1 p.2
theorem Oi {b:p3} {p:Int×Int}:G' b p=false↔0≤p.1∧p.1<(b.2.length:Int)∧0≤p.2∧p.2≤1:=by
 unfold G';rw [Bool.or_eq_false_iff,LN,LN];omega
def Ho:Row→Row→Bool
 | _,[]=>false
 | pre,p::r=>if (pre.any fun q=>decide (q.1=p.1))=true then true else Ho (pre++[p]) r
def qE (b:p3):Int→Row→Option Int
 | a,[]=>some a
 | a,p::r=>if qz b p=a then qE b (fin b p) r else none
def GR (b:p3) (row:Row):Int×Int×Int :=
 if q3 b≠0 then (0,0,q3 b) else match row with
 | []=>(0,0,6)
 | p::r=>if (p::r).any (G' b)=true then (0,0,3) else if Ho [] (p::r)=true then (0,0,11) else match qE b (qz b p) (p::r) with
   | none=>(0,0,27)
   | some a=>(qz b p,a,0)
theorem akR {b:p3} (ag:b.2.length≤1000) (p:Int×Int):M5 p b=some (G' b p):=by
 rw [M5,LU (by omega),Qz _ _ _ (by simp),rW];unfold G';simp only [uH,List.any_nil,Bool.or_false];cases HW 0 ((b.2.length:Int)-1) p.1 with
 | true=>rfl
 | false=>rw [if_pos (by decide),Qz _ _ _ (by simp),rW];simp
theorem adb {α:Type} (f:α→Bool) (l:List α) (x:α):(l++[x]).any f=(l.any f || f x):=by simp
theorem Om {α:Type} {l:List α} {i:Nat} (h:i<l.length):l.take (i+1)=l.take i++[l[i]]:=by
 rw [List.take_add_one,sd h];rfl
theorem LH {t:List Int} {c:Nat} {x:Int} (h:c<t.length):ix (t.set c x) (c:Int)=x:=by unfold ix;simp [sC,h]
theorem J4 {t:List Int} {c j:Nat} {x:Int} (h:j≠c):ix (t.set c x) (j:Int)=ix t (j:Int):=by unfold ix;simp [sC,sa (Ne.symm h)]
theorem Sj {n:Nat} (j:Int):ix (List.replicate n (0:Int)) j=0:=by
 unfold ix;rw [sC,List.getElem?_replicate];split <;> rfl
theorem Z2 {row:Row} {k:Unit→Option (Int×Int×Int)} (aj:row.length≤1000) (g0:∀ p∈row,0≤p.1∧p.1<10):∀ (m i:Nat) (z:Int) (t:List Int),z=i→i≤row.length→row.length-i<m→t.length=10 →
  (∀ j:Nat,j<10→(0<ix t (j:Int)↔((row.take i).any fun q=>decide (q.1=(j:Int)))=true))→LX row k m z t=if Ho (row.take i) (row.drop i)=true then some (0,0,11) else k ()
 | 0,i,_,_,_,_,h,_,_=>absurd h (by omega)
 | m+1,i,_,t,rfl,hi,hm,ax,bZ=>by
   rw [LX];by_cases h:i<row.length
   ·have aC:=g0 _ (sH h);obtain ⟨c,ao⟩:∃ c:Nat,row[i].1=(c:Int):=⟨row[i].1.toNat,by omega⟩;rw [I5 h,Hp h,q_ h,qb ⟨aC.1,aC.2,ax.symm⟩,sU h,Ho,ao];by_cases al:0<ix t (c:Int)
    ·rw [if_pos (decide_eq_true al),if_pos ((bZ c (by omega)).1 al),if_pos rfl]
    ·rw [if_neg (by simpa using al),if_neg (fun e=>al ((bZ c (by omega)).2 e)),qb ⟨by omega,by omega,ax.symm⟩,re i (by omega),
      Z2 aj g0 m (i+1) _ _ rfl (by omega) (by omega) (by simpa using ax) (fun j aw=>?_),Om h]
     rw [Om h,adb,ao];by_cases pq:j=c
     ·subst pq;rw [ti,LH (by omega)];simp
     ·rw [ti,J4 pq,bZ j aw];simp [show ¬ (c:Int)=(j:Int) by omega]
   ·rw [I4 h,tb (by omega)];simp [Ho]
theorem Z3 {b:p3} {row:Row} {k:Int→Option (Int×Int×Int)} (aj:row.length≤1000) (g0:∀ p∈row,0≤p.1∧p.1<(b.2.length:Int)):∀ (m i:Nat) (z a:Int),z=i→i≤row.length→row.length-i<m →
  LY row b k m a z=match qE b a (row.drop i) with | none=>some (0,0,27) | some aM=>k aM
 | 0,i,_,_,_,_,h=>absurd h (by omega)
 | m+1,i,_,a,rfl,hi,hm=>by
   rw [LY];by_cases h:i<row.length
   ·rw [I5 h,Hp h,q_ h,QB (g0 _ (sH h)),rW,sU h,qE];by_cases ag:qz b row[i]=a
    ·rw [if_pos ag,if_neg (by simp [ag]),re i (by omega),Z3 aj g0 m (i+1) _ _ rfl (by omega) (by omega)]
    ·rw [if_neg ag,if_pos (decide_eq_true ag)]
   ·rw [I4 h,tb (by omega)];rfl
theorem ajZ (b:p3) (row:Row) (ag:b.2.length≤1000) (aj:row.length≤1000):MX b row=some (GR b row):=by
 rw [MX,Ih,Qw b ag,rW];unfold GR;by_cases aT:q3 b≠0
 ·rw [if_pos (decide_eq_true aT),rW];dsimp only;rw [if_pos (decide_eq_true aT),if_pos aT]
 have p1:=IG.1 (uS.1 aT);rw [if_neg (by simpa using aT),rW,if_neg aT];dsimp only;rw [if_neg (by decide)];cases row with
 | nil=>rfl
 | cons p r =>
   rw [if_neg (by simp;omega),akS (p:=G' b) (fun q _=>akR ag q) (by omega),rW];dsimp only;by_cases ad:(p::r).any (G' b)=true
   ·rw [if_pos ad,if_pos ad]
   rw [if_neg ad,if_neg ad,qb (by simp)];(have iG:(p::r).any (G' b)=false:=by simpa using ad);rw [uI] at iG;have g0:∀ q∈p::r,0≤q.1∧q.1<(b.2.length:Int):=fun q a4=>by
    have:=Oi.1 (by simpa using iG q a4);exact ⟨this.1,this.2.1⟩
   have hlen:=p1.len;rw [Z2 aj (fun q a4=>by have:=g0 q a4;omega) p6 0 0 _ rfl (si _) (rq (by omega)) (by simp) (fun j aw=>by rw [Sj];simp),tI,sT];by_cases af:Ho [] (p::r)=true
   ·rw [if_pos af,if_pos af]
   rw [if_neg af,if_neg af,qb (by simp),show ix (p::r) (0:Int)=p from rfl,QB (g0 p (by simp)),rW,Z3 aj g0 p6 0 0 _ rfl (si _) (rq (by omega)),sT];cases qE b (qz b p) (p::r) <;> rfl
theorem aaC {row:Row} {s:Int} (aj:row.length≤1000):∀ (m i:Nat) (z:Int),z=i→i≤row.length→row.length-i<m→Mc row s (fun _=>some false) m z=some ((row.drop i).any fun q=>decide (q.1=s))
 | 0,i,_,_,_,h=>absurd h (by omega)
 | m+1,i,_,rfl,hi,hm=>by
   rw [Mc];by_cases h:i<row.length
   ·rw [I5 h,Hp h,q_ h,sU h,uH];by_cases aC:row[i].1=s
    ·rw [if_pos (decide_eq_true aC)];simp [aC]
    ·rw [if_neg (by simpa using aC),re i (by omega),aaC aj m (i+1) _ rfl (by omega) (by omega)];simp [aC]
   ·rw [I4 h,tb (by omega)];rfl
theorem aaB (row:Row) (s:Int) (aj:row.length≤1000):Mb row s=some (row.any fun q=>decide (q.1=s)):=by
 rw [Mb,aaC aj p6 0 0 rfl (si _) (rq (by omega)),sT]
theorem aax {b:p3} {p:Int×Int} (h:G' b p=false):Lj b p=some (qz b p):=by
 have h:=Oi.1 h;rw [Lj];unfold qz;by_cases ad:p.2=1
 ·rw [if_pos (decide_eq_true ad),if_pos (by omega),qb ⟨by omega,by omega⟩]
 ·rw [if_neg (by simpa using ad),if_neg (by omega),qb ⟨by omega,by omega⟩]
theorem aaD {b:p3} {p:Int×Int} (h:G' b p=false):JU b p=some (fin b p):=by
 have h:=Oi.1 h;rw [JU];unfold fin;by_cases ad:p.2=1
 ·rw [if_pos (decide_eq_true ad),if_pos (by omega),qb ⟨by omega,by omega⟩]
 ·rw [if_neg (by simpa using ad),if_neg (by omega),qb ⟨by omega,by omega⟩]
theorem Z4 {b:p3} {row:Row} {k:Unit→Option (Int×Int×Int)} (aj:row.length≤1000):∀ (m i:Nat) (z:Int),z=i→i≤row.length→row.length-i<m →
  L0 b row k m z=if (row.drop i).any (G' b)=true then some (0,0,3) else k ()
 | 0,i,_,_,_,h=>absurd h (by omega)
 | m+1,i,_,rfl,hi,hm=>by
   rw [L0];by_cases h:i<row.length
   ·rw [I5 h,Hp h,q_ h,sU h,uH];have e:G' b row[i]=true↔row[i].1<0∨(b.2.length:Int)≤row[i].1∨row[i].2<0∨1<row[i].2:=by
     unfold G';rw [tQ,NY,NY];omega
    by_cases ai:G' b row[i]=true
    ·have aY:=e.1 ai;rw [ai,Bool.true_or,if_pos rfl];by_cases aB:row[i].1<0
     ·rw [if_pos (decide_eq_true aB)]
     rw [if_neg (by simpa using aB),Hp h];by_cases aH:(b.2.length:Int)≤row[i].1
     ·rw [if_pos (decide_eq_true aH)]
     rw [if_neg (by simpa using aH),Hp h];by_cases aR:row[i].2<0
     ·rw [if_pos (decide_eq_true aR)]
     rw [if_neg (by simpa using aR),Hp h,if_pos (decide_eq_true (by omega))]
    ·have aY:=(not_congr e).1 ai;(have g2:G' b row[i]=false:=by simpa using ai);rw [g2,vg,if_neg (by simp;omega),Hp h,if_neg (by simp;omega),Hp h,if_neg (by simp;omega),Hp h,if_neg (by simp;omega),re i (by omega),Z4 aj m (i+1) _ rfl (by omega) (by omega)]
   ·rw [I4 h,tb (by omega)];rfl
theorem Z5 {row:Row} {k:Unit→Option (Int×Int×Int)} (aj:row.length≤1000):∀ (m i:Nat) (z:Int),z=i→i≤row.length→row.length-i<m →
  L1 row k m z=if Ho (row.take i) (row.drop i)=true then some (0,0,11) else k ()
 | 0,i,_,_,_,h=>absurd h (by omega)
 | m+1,i,_,rfl,hi,hm=>by
   rw [L1];by_cases h:i<row.length
   ·rw [I5 h,qb ⟨by omega,by omega⟩,Hp h,q_ h,ti,aaB _ _ (by simp;omega),rW,sU h,Ho];by_cases al:((row.take i).any fun q=>decide (q.1=row[i].1))=true
    ·rw [if_pos al,if_pos al,if_pos rfl]
    ·rw [if_neg al,if_neg al,re i (by omega),Z5 aj m (i+1) _ rfl (by omega) (by omega),Om h]
   ·rw [I4 h,tb (by omega)];simp [Ho]
theorem Z6 {b:p3} {row:Row} {k:Unit→Option (Int×Int×Int)} (aj:row.length≤1000) (g0:∀ p∈row,G' b p=false):∀ (m i:Nat) (z:Int),z=((i+1:Nat):Int)→(hi:i<row.length)→row.length-i<m →
  L2 b row k m z=match qE b (fin b row[i]) (row.drop (i+1)) with | none=>some (0,0,27) | some _=>k ()
 | 0,i,_,_,_,h=>absurd h (by omega)
 | m+1,i,_,rfl,hi,hm=>by
   rw [L2];by_cases h:i+1<row.length
   ·rw [I5 h,show w (((i+1:Nat):Int)-1)=((i:Nat):Int) by rw [LU (by omega)];omega,Hp hi,q_ hi,aaD (g0 _ (sH hi)),rW,Hp h,q_ h,aax (g0 _ (sH h)),rW,sU h,qE];by_cases ag:qz b row[i+1]=fin b row[i]
    ·rw [if_pos ag,if_neg (by simp [ag]),re (i+1) (by omega),Z6 aj g0 m (i+1) _ rfl h (by omega)]
    ·rw [if_neg ag,if_pos (decide_eq_true (Ne.symm ag))]
   ·rw [I4 h,tb (by omega)];rfl
theorem YJ {b:p3}:∀ (l:Row) (a aM:Int) (h:l≠[]),qE b a l=some aM→aM=fin b (l.getLast h)
 | [],_,_,h,_=>absurd rfl h
 | [p],a,aM,_,h=>by
   rw [qE] at h;split at h
   ·rw [qE] at h;cases h;rfl
   ·cases h
 | p::q::r,a,aM,_,h=>by
   rw [qE] at h;split at h
   ·rw [List.getLast_cons (by simp)];exact YJ (q::r) _ aM (by simp) h
   ·cases h
theorem aj4 (b:p3) (row:Row) (ag:b.2.length≤1000) (aj:row.length≤1000):LZ b row=some (GR b row):=by
 rw [LZ,Ov b ag,rW];unfold GR;by_cases aT:q3 b≠0
 ·rw [if_pos (decide_eq_true aT),rW,if_pos aT]
 rw [if_neg (by simpa using aT),if_neg aT];cases row with
 | nil=>rfl
 | cons p r =>
   rw [if_neg (by simp;omega),Z4 aj p6 0 0 rfl (si _) (rq (by omega)),sT];dsimp only;by_cases ad:(p::r).any (G' b)=true
   ·rw [if_pos ad,if_pos ad]
   rw [if_neg ad,if_neg ad];(have iG:(p::r).any (G' b)=false:=by simpa using ad);rw [uI] at iG;(have g0:∀ q∈p::r,G' b q=false:=fun q a4=>by simpa using iG q a4);rw [Z5 aj p6 0 0 rfl (si _) (rq (by omega)),tI,sT];by_cases af:Ho [] (p::r)=true
   ·rw [if_pos af,if_pos af]
   rw [if_neg af,if_neg af,Z6 aj g0 p6 0 1 rfl (by simp) (rq (by omega))];rw [show qE b (qz b p) (p::r)=qE b (fin b p) r by rw [qE,if_pos rfl]];show (match qE b (fin b p) r with | none=>_ | some _=>_)=_;cases aO:qE b (fin b p) r with
   | none=>rfl
   | some a =>
     have ak:(r.length+1:Nat)=(p::r).length:=rfl;dsimp only
     rw [qb (by simp),show ix (p::r) (0:Int)=p from rfl,aax (g0 p (by simp)),rW,
      show w (((p::r).length:Int)-1)=((r.length:Nat):Int) by rw [LU (by omega)];omega,Hp (by simp),q_ (by simp),aaD (g0 _ (sH _)),rW]
     have:=YJ (p::r) (qz b p) a (by simp) (by rw [qE,if_pos rfl];exact aO);rw [this,List.getLast_eq_getElem];rfl
theorem RB:∀ (r pre:Row),Ho pre r=false→(pre.map (·.1)).Nodup→((pre++r).map (·.1)).Nodup
 | [],pre,_,h=>by simpa using h
 | p::r,pre,h,aN=>by
   rw [Ho] at h;split at h
   ·cases h
   ·rename_i al
    have:=RB r (pre++[p]) h (by
     rw [List.map_append,List.nodup_append];refine ⟨aN,by simp,fun a cg c ao=>?_⟩;simp only [sE,List.map_nil,sI] at ao;subst ao;intro e;apply al;rw [List.any_eq_true];obtain ⟨q,a4,rfl⟩:=sq.1 cg
     exact ⟨q,a4,by simp [e]⟩)
    simpa using this
theorem YX:∀ (a b:List Nat),a.Nodup→(∀ x∈a,x∈b)→a.length≤b.length
 | [],_,_,_=>si _
 | x::a,b,aN,h=>by
   obtain ⟨ad,af⟩:=tY.1 aN;have al:=h x (by simp);have:=YX a (b.erase x) af fun y a1=>by
    have bO:y≠x:=fun e=>ad (e ▸ a1);exact (List.mem_erase_of_ne bO).2 (h y (by simp [a1]))
   rw [List.length_erase_of_mem al] at this;have:=vS al;simp only [sD];omega
theorem LM {l:List Int} {n:Nat} (h:l.Nodup) (ag:∀ x∈l,0≤x∧x<(n:Int)):l.length≤n:=by
 have ad:(l.map Int.toNat).Nodup:=by
  rw [List.Nodup,List.pairwise_map];refine h.imp_of_mem fun {a c} cg ao bO e=>bO ?_;have:=ag a cg;have:=ag c ao;omega
 have af:∀ x∈l.map Int.toNat,x∈List.range n:=fun x al=>by
  obtain ⟨y,a1,rfl⟩:=sq.1 al;have:=ag y a1;exact sx.2 (by omega)
 have:=YX _ _ ad af;simpa using this
theorem Wa {b:p3} {row:Row} (h:(GR b row).2.2=0):qH b∧row≠[]∧(∀ p∈row,G' b p=false)∧(row.map (·.1)).Nodup∧qE b (GR b row).1 row=some (GR b row).2.1:=by
 unfold GR at h ⊢;by_cases aT:q3 b≠0
 ·rw [if_pos aT] at h;exact absurd h aT
 have p1:=IG.1 (uS.1 aT);rw [if_neg aT] at h ⊢;cases row with
 | nil=>simp at h
 | cons p r =>
   dsimp only at h ⊢;by_cases ad:(p::r).any (G' b)=true
   ·rw [if_pos ad] at h;simp at h
   rw [if_neg ad] at h ⊢;(have iG:(p::r).any (G' b)=false:=by simpa using ad);rw [uI] at iG;(have g0:∀ q∈p::r,G' b q=false:=fun q a4=>by simpa using iG q a4);by_cases af:Ho [] (p::r)=true
   ·rw [if_pos af] at h;simp at h
   rw [if_neg af] at h ⊢;(have F':Ho [] (p::r)=false:=by simpa using af);have a0:=RB (p::r) [] F' (by simp);rw [uc] at a0;cases aO:qE b (qz b p) (p::r) with
   | none=>rw [aO] at h;simp at h
   | some a=>exact ⟨p1,by simp,g0,a0,aO⟩
end Go.Proofs.YtfakoboiahbhaaaGreat.Ab


namespace Go.Proofs.YtfakoboiahbhaaaGreat.Ab
open Go
set_option maxRecDepth 20000
set_option maxHeartbeats 4000000
noncomputable def abG:ez :=
 GC [gO 2 [.hJ 0] .box,gO 3 [.hJ 1] .box,gO 4 [.iD .junk] .iT] (GC [gO 5 [.hM 2,.hM 3] (.zw 113 0 2),Gq 4 5] .ret)
theorem agj:zg Tryz.prog VR 89=some (abG,6,[.tmp 4]):=by kernel_rfl
def OI (t:p8) (figure:Int):Option Unit :=
 some ()
theorem alg {t:p8} {figure:Int} {v:Unit} (h:OI t figure=some v):qt 89 [(.bW [(hS t.1),(.ay (t.2.flatMap p7) t.2.length .shared)]),(hS figure)] (.func 113 [] [(.bW [(.bW [(hS t.1),(.ay (t.2.flatMap p7) t.2.length .shared)])]),(.bW [(hS figure)])]):=by
 refine qN dI agj rfl (MM rfl (p5 (Hf (p5 (Hf (p5 rfl (p5 (HM (fun _=>(p5 rfl (p5 rfl rfl))) _ _ _) rfl))) rfl)) (p5 (Hf (p5 rfl rfl)) rfl))) fun Q bn=>?_;have jz:∀ T H,IW [.tmp 4] (.func 113 [] [(.bW [(.bW [(hS t.1),(qf t.2 .shared)])]),(.bW [(hS figure)])]) .ret T H→Q .ret T H:=fun T H bK=>bn _ T H bK;unfold OI at h;unfold abG;conv=>whnf
 exact jz _ _ ⟨.inr rfl,_,rfl,_,(aen Su (PH (WC (l:=[(.bW [(hS t.1),(qf t.2 .shared)])]) (by first | exact qL.h | rfl | (simp [sg,I.settle];done)) (p5 (Hf (p5 rfl (p5 (HM (fun _=>(p5 rfl (p5 rfl rfl))) _ _ _) rfl))) rfl)) (PH (WC (l:=[(hS figure)]) (by first | exact qL.h | rfl | (simp [sg,I.settle];done)) (p5 rfl rfl)) Su))),rfl⟩

noncomputable def Q7:ez :=
 .loop (some (EA false [1,1,1,1,1,3,6,1,48])) (GC [gO 15 [.sl 14,.iD (.int .i64 6)] (.bin .lss)] (.seq (.cond (.sl 15) .skip (.exit 0)) (.seq (.block 1 (GC [Gp 16 14,Gq 8 16] (Gt [Gq 17 8,gO 18 [.sl 7,.hM 17] (.y4 6 1),⟨none,[.hJ 18,.iD (.int .i64 (-1))],none,none,.st 1⟩]))) (Gt [F0 19 14 1,Gq 14 19]))))
noncomputable def UY:ez :=
 .Ao (.sl 34) [35] (Gx Tryz.prog 81 0) (Gy Tryz.prog 81 0)
noncomputable def Q8:ez :=
 .loop (some (EA false [3,1,1,3,1,1,53])) (.seq (GC [gO 24 [.sl 9] (.w8 .one),Gl 25 24,F1 26 25 0 .gtr] (.cond (.sl 26) .skip (.exit 2))) (.block 3 (GC [gO 27 [.sl 9] (.w8 .one),gO 28 [.hM 27,.iD (.int .i64 0)] (.pQ 1),Gm 29 28,gO 10 [] (.alloc [.int .i64 0]),⟨none,[.sl 10,.hJ 29],none,none,.st 1⟩] (GC [gO 30 [.sl 9] .take,gO 31 [.hJ 30,.iD (.int .i64 1)] (.AY 1 true false false),⟨none,[.sl 9,.hJ 31],none,none,.st 1⟩] (GC [gO 32 [.sl 3] (.w8 .one),gO 33 [.sl 10] (.w8 .one),gO 34 [.iD (.func 89 [] []),.sl 32,.sl 33] (.call 3)] (.block 4 UY))))))
noncomputable def abC:ez :=
 GC [gO 3 [.hJ 0] .box,gO 5 [.hJ 2] .box,gO 6 [] (.alloc [.int .i64 0,.int .i64 0,.int .i64 0,.int .i64 0,.int .i64 0,.int .i64 0])] (GC [gO 7 [] (.alloc [.int .i64 0,.int .i64 0,.int .i64 0,.int .i64 0,.int .i64 0,.int .i64 0])] (.seq (GC [Gn 14 0] (.block 0 Q7)) (GC [Gp 20 1,gO 21 [.sl 7,.hM 20] (.y4 6 1),⟨none,[.hJ 21,.iD (.int .i64 0)],none,none,.st 1⟩] (GC [Gq 22 1,gO 23 [.hM 22] (.ya 1 1 [.int .i64 0] [0]),gO 9 [] (.alloc [.ay [] 0 .full]),⟨none,[.sl 9,.hJ 23],none,none,.st 1⟩] (.seq (.block 2 Q8) (GC [gO 62 [.hM 7] (.w8 (.arr 6)),⟨none,[.sl 6,.hJ 62],none,none,.st 6⟩] .ret))))))
noncomputable def abD:ez :=
 .j3 false [gO 11 [] (.alloc [.int .i64 0,.int .i64 0]),⟨none,[.sl 11,.hJ 35],none,none,.st 2⟩]
theorem agf:dT Tryz.prog Ik (Gx Tryz.prog 81 0) 0=some abD:=by kernel_rfl
noncomputable def abE:ez :=
 .block 5 (GC [Gm 37 3,gO 38 [.sl 11] (.w8 (.str 2)),gO 39 [.iD (.func 68 [] []),.sl 37,.sl 38] (.call 3),Gq 36 39,GK 40 36 0,gO 41 [.hM 36] (.ext 1),Gq 12 40,Gq 13 41] (GC [F7 42 11 0,Gm 43 42,Gm 44 5,F2 45 43 44 .neq,Gq 46 45,cR 47 [.sl 13] 46 true .iT,⟨some 48,[.sl 7,.hM 47],some (46,true),none,.y4 6 1⟩,cR 49 [.hM 48] 46 true (.w8 .one),cR 50 [.hM 49,.iD (.int .i64 0)] 46 true (.bin .lss),gO 51 [.hM 46,.hM 50,.iD (.bool false)] .pick] (.cond (.sl 51) (GC [Gp 52 13,Gm 53 10,gO 54 [.sl 7,.hM 53] (.y4 6 1),Gm 55 54,F0 56 55 1,gO 57 [.hM 7,.hM 52] (.y4 6 1),⟨none,[.hJ 57,.hJ 56],none,none,.st 1⟩] (Gt [gO 58 [.sl 9] .take,Gq 59 13,gO 60 [.hM 59] (.ya 1 1 [.int .i64 0] [0]),gO 61 [.hJ 58,.hJ 60] (.app 1 8),⟨none,[.hJ 9,.hJ 61],none,none,.st 1⟩])) .skip)))
theorem agh:dT Tryz.prog Ik (Gy Tryz.prog 81 0) 0=some abE:=by kernel_rfl
theorem age:zg Tryz.prog Ik 81=some (abC,63,[.cell 6 (.arr 6)]):=by kernel_rfl
def Mh (p4:p0→Option p0):Nat→Int→p0→Option p0
 | 0,_,_=>none
 | m+1,s1,s2 =>
   if (decide (s1<(6:Int)))=true then
    p2 (0≤s1∧s1<(6:Int)∧6=s2.length) <|
    Mh p4 m (w (s1+(1:Int))) (s2.set s1.toNat (-1:Int))
   else
    p4 s2
def Mj (t:p8) (without:Int) (Gz:p0) (Uo:p0×p0) (e1:(Int×Int)):Option (p0×p0) :=
 match Uo with
 | (t1,t2) =>
   (Kf t e1).bind fun bk =>
   if (decide (e1.1≠without))=true then
    p2 (0≤bk.2∧bk.2<(6:Int)∧6=t2.length) <|
    if (decide ((ix t2 bk.2)<(0:Int)))=true then
     p2 (0≤(ix Gz (0:Int))∧(ix Gz (0:Int))<(6:Int)∧6=t2.length) <|
     p2 (0≤bk.2∧bk.2<(6:Int)∧6=t2.length) <|
     p2 ((t1.length+1)*8≤140737488355328) <|
     some ((t1++[bk.2]),(t2.set bk.2.toNat (w ((ix t2 (ix Gz (0:Int)))+(1:Int)))))
    else
     some (t1,t2)
   else
    some (t1,t2)
def Mi (t:p8) (without:Int) (qn:p0→Option p0):Nat→p0→p0→Option p0
 | 0,_,_=>none
 | m+1,s3,Gz =>
   if (decide ((0:Int)<(Gz.length:Int)))=true then
    p2 (0≤(0:Int)∧(0:Int)<(Gz.length:Int)) <|
    p2 (0≤(1:Int)∧(1:Int)≤(Gz.length:Int)) <|
    (OI t (ix Gz (0:Int))).bind fun aS =>
    (Of t (ix Gz (0:Int))).bind fun dK =>
    (H8 (Mj t without Gz) dK ((Gz.drop (1:Int).toNat),s3)).bind fun eE =>
    Mi t without qn m eE.2 eE.1
   else
    qn s3
def M8 (t:p8) (to without:Int):Option p0 :=
 Mh (fun x0 =>
   p2 (0≤to∧to<(6:Int)∧6=x0.length) <|
   Mi t without (fun oq =>
     p2 (oq.length=6) <|
     p2 (oq.length=6∧(List.replicate 6 (0:Int)).length=6) <|
     p2 (oq.length=6) <|
     some oq) p6 (x0.set to.toNat (0:Int)) [to]) p6 (0:Int) (List.replicate 6 (0:Int))
theorem ak_ {p4:p0→Option p0} {s1:Int} {s2:p0} {t:p8} {to:Int} {without:Int} {v:p0} {Q:rm}   (qY:∀ (x0:p0) (p9:List I),p4 x0=some v→qV 63 [(1,(hS to)),(3,(.ptr 0 0)),(5,(.ptr 1 0)),(6,(.ptr 2 0)),(7,(.ptr 3 0))] p9→Q (.exit 0) p9 [au.cells [(.bW [(hS t.1),(qf t.2 .shared)])],au.cells [(hS without)],au.cells ((List.replicate 6 (0:Int)).map hS),au.cells (x0.map hS)]) {T:List I} (bZ:eS (EA false [1,1,1,1,1,3,6,1,48]) T=GH 63 [(1,(hS to)),(3,(.ptr 0 0)),(5,(.ptr 1 0)),(6,(.ptr 2 0)),(7,(.ptr 3 0)),(14,(hS s1))]) (h:Mh p4 p6 s1 s2=some v) :
  dC Tryz.prog Ik 81 0 none Q7 T [au.cells [(.bW [(hS t.1),(qf t.2 .shared)])],au.cells [(hS without)],au.cells ((List.replicate 6 (0:Int)).map hS),au.cells (s2.map hS)] Q:=by
 unfold Q7;refine wp_loop bZ ?_;refine .intro (fun m T H=>∃ (s1:Int) (s2:p0),T=GH 63 [(1,(hS to)),(3,(.ptr 0 0)),(5,(.ptr 1 0)),(6,(.ptr 2 0)),(7,(.ptr 3 0)),(14,(hS s1))]∧H=[au.cells [(.bW [(hS t.1),(qf t.2 .shared)])],au.cells [(hS without)],au.cells ((List.replicate 6 (0:Int)).map hS),au.cells (s2.map hS)]∧Mh p4 m s1 s2=some v) p6 ⟨s1,s2,rfl,rfl,h⟩ ?_;clear h bZ;rintro m T H ⟨s1,s2,rfl,rfl,h⟩;cases m
 ·exact q4 h
 rename_i m;rw [Mh.eq_2] at h;conv=>whnf
 refine bs h (fun eV h=>?_) fun eV h=>?_
 ·rw [eV];conv=>whnf
  obtain ⟨fl,h⟩:=qw h;refine ⟨⟨fl.1,fl.2.1⟩,?_⟩;replace fl:0≤s1∧s1<(s2.length:Int):=⟨fl.1,by have:=fl.2;omega⟩;conv=>whnf
  refine Jx hS s2 s1 (-1:Int) fl ?_;conv=>whnf
  exact ⟨m,su m,(w (s1+(1:Int))),(s2.set s1.toNat (-1:Int)),rfl,rfl,h⟩
 ·rw [eV];conv=>whnf
  exact qY _ _ h ⟨rfl,rfl⟩
theorem ald {t:p8} {without:Int} {Gz:p0} {s3:p0} {t1:p0} {t2:p0} {e1:(Int×Int)} {xU:I} {fs:I} {gi:I} {FI:I} {Lb:I} {u8:I} {KC:I} {KD:I} {KE:I} {KF:I} {KG:I} {u16:I} {KH:I} {KI:I} {KJ:I} {KK:I} {KL:I} {KM:I} {Kb:I} {KN:I} {KO:I} {Kc:I} {KP:I} {KQ:I} {Kd:I} {KR:I} {KS:I} {u32:I} {KT:I} {I':I} {Ja:I} {Jb:I} {Jc:I} {Jd:I} {Je:I} {Jf:I} {Jg:I} {KU:I} {KV:I} {KW:I} {KX:I} {KY:I} {KZ:I} {K0:I} {K1:I} {K2:I} {K3:I} {K4:I} {K5:I} {K6:I} {K7:I} {K8:I} {K9:I} {K_:I} {La:I} {Lc:I} {Ld:I} {Le:I} {kR:au} {rC:List au} {Us:p0×p0} (h:Mj t without Gz (t1,t2) e1=some Us) (Y:List au) :
  ∃ rE,Sem Tryz.prog (.yield (((au.cells [(.bW [(hS t.1),(qf t.2 .shared)])]::au.cells [(hS without)]::kR::au.cells (t2.map hS)::au.cells [(qj t1 (.own 1))]::rC)++[au.cells [(hS (ix Gz (0:Int)))]])).length) [(.agg [(hS e1.1),(hS e1.2)])] ((((au.cells [(.bW [(hS t.1),(qf t.2 .shared)])]::au.cells [(hS without)]::kR::au.cells (t2.map hS)::au.cells [(qj t1 (.own 1))]::rC)++[au.cells [(hS (ix Gz (0:Int)))]])++[au.loop .ready none 81 [xU,fs,gi,(I.ptr 0 0),FI,(I.ptr 1 0),Lb,(I.ptr 3 0),u8,(I.ptr 4 0),(I.ptr (au.cells [(.bW [(hS t.1),(qf t.2 .shared)])]::au.cells [(hS without)]::kR::au.cells (s3.map hS)::au.cells [(qj (Gz.drop (1:Int).toNat) (.own 1))]::rC).length 0),KC,KD,KE,KF,KG,u16,KH,KI,KJ,KK,KL,KM,Kb,KN,KO,Kc,KP,KQ,Kd,KR,KS,u32,KT,I',Ja,Jb,Jc,Jd,Je,Jf,Jg,KU,KV,KW,KX,KY,KZ,K0,K1,K2,K3,K4,K5,K6,K7,K8,K9,K_,La,Lc,Ld,Le] [35] (Gx Tryz.prog 81 0) (Gy Tryz.prog 81 0) Ik])++Y) 0 (.bool true) ((((au.cells [(.bW [(hS t.1),(qf t.2 .shared)])]::au.cells [(hS without)]::kR::au.cells (Us.2.map hS)::au.cells [(qj Us.1 (.own 1))]::rC)++[au.cells [(hS (ix Gz (0:Int)))]])++[au.loop .ready none 81 [xU,fs,gi,(I.ptr 0 0),FI,(I.ptr 1 0),Lb,(I.ptr 3 0),u8,(I.ptr 4 0),(I.ptr (au.cells [(.bW [(hS t.1),(qf t.2 .shared)])]::au.cells [(hS without)]::kR::au.cells (s3.map hS)::au.cells [(qj (Gz.drop (1:Int).toNat) (.own 1))]::rC).length 0),KC,KD,KE,KF,KG,u16,KH,KI,KJ,KK,KL,KM,Kb,KN,KO,Kc,KP,KQ,Kd,KR,KS,u32,KT,I',Ja,Jb,Jc,Jd,Je,Jf,Jg,KU,KV,KW,KX,KY,KZ,K0,K1,K2,K3,K4,K5,K6,K7,K8,K9,K_,La,Lc,Ld,Le] [35] (Gx Tryz.prog 81 0) (Gy Tryz.prog 81 0) Ik])++rE):=by
 unfold Mj at h;refine ⟨Y++[.dead],GG dI agf agh (RK _ _ _) rfl (Xr (by simp)) ?_⟩;unfold abD;conv=>whnf
 refine DX (x:=au.cells [(hS (0:Int)),(hS (0:Int))]) (by first | exact qL.h | rfl | (simp [sg,I.settle];done)) ?_
 conv=>whnf
 rw [Ig];refine ⟨rfl,Pe _ _ _ _,?_⟩;rw [Qe];unfold abE;conv=>whnf
 refine DX (x:=au.cells [(hS e1.1),(hS e1.2)]) (by first | exact qL.h | rfl | (simp [sg,I.settle];done)) ?_
 conv=>whnf
 obtain ⟨bk,qO,h⟩:=qi h;refine ⟨qh.pl,_,QC qO,?_⟩;conv=>whnf
 refine DX (x:=au.cells [(hS e1.1),(hS e1.2)]) (by first | exact qL.h | rfl | (simp [sg,I.settle];done)) ?_
 conv=>whnf
 refine bs h (fun q5 h=>?_) fun q5 h=>?_
 ·rw [q5];conv=>whnf
  obtain ⟨q2,h⟩:=qw h;refine ⟨⟨q2.1,q2.2.1⟩,?_⟩;replace q2:0≤bk.2∧bk.2<(t2.length:Int):=⟨q2.1,by have:=q2.2;omega⟩;conv=>whnf
  refine Js hS t2 bk.2 q2 ?_;conv=>whnf
  refine bs h (fun rM h=>?_) fun rM h=>?_
  ·rw [rM];(conv=>whnf);refine DX (x:=au.cells [(hS (ix Gz (0:Int)))]) (by first | exact qL.h | rfl | (simp [sg,I.settle];done)) ?_
   (conv=>whnf);obtain ⟨ry,h⟩:=qw h;refine ⟨⟨ry.1,ry.2.1⟩,?_⟩;replace ry:0≤(ix Gz (0:Int))∧(ix Gz (0:Int))<(t2.length:Int):=⟨ry.1,by have:=ry.2;omega⟩;(conv=>whnf);refine Js hS t2 (ix Gz (0:Int)) ry ?_;(conv=>whnf);obtain ⟨rB,h⟩:=qw h;refine ⟨⟨rB.1,rB.2.1⟩,?_⟩;replace rB:0≤bk.2∧bk.2<(t2.length:Int):=⟨rB.1,by have:=rB.2;omega⟩;(conv=>whnf);refine Jx hS t2 bk.2 (w ((ix t2 (ix Gz (0:Int)))+(1:Int))) rB ?_;(conv=>whnf);obtain ⟨Hk,h⟩:=qw h;refine ⟨by first | rfl | simp,by have:=Hk;omega,rfl,Hk,?_⟩
   erw [JB hS t1 bk.2];(conv=>whnf);obtain rfl:=Option.some.inj h;show _∧(((((au.cells [(.bW [(hS t.1),(qf t.2 .shared)])]::au.cells [(hS without)]::kR::au.cells ((t2.set bk.2.toNat (w ((ix t2 (ix Gz (0:Int)))+(1:Int)))).map hS)::au.cells [(qj (t1++[bk.2]) (.own 1))]::rC)++[au.cells [(hS (ix Gz (0:Int)))]])++[au.loop .busy none 81 [xU,fs,gi,(I.ptr 0 0),FI,(I.ptr 1 0),Lb,(I.ptr 3 0),u8,(I.ptr 4 0),(I.ptr (au.cells [(.bW [(hS t.1),(qf t.2 .shared)])]::au.cells [(hS without)]::kR::au.cells (s3.map hS)::au.cells [(qj (Gz.drop (1:Int).toNat) (.own 1))]::rC).length 0),KC,KD,KE,KF,KG,u16,KH,KI,KJ,KK,KL,KM,Kb,KN,KO,Kc,KP,KQ,Kd,KR,KS,u32,KT,I',Ja,Jb,Jc,Jd,Je,Jf,Jg,KU,KV,KW,KX,KY,KZ,K0,K1,K2,K3,K4,K5,K6,K7,K8,K9,K_,La,Lc,Ld,Le] [35] (Gx Tryz.prog 81 0) (Gy Tryz.prog 81 0) Ik])++Y)++[_])[(((au.cells [(.bW [(hS t.1),(qf t.2 .shared)])]::au.cells [(hS without)]::kR::au.cells ((t2.set bk.2.toNat (w ((ix t2 (ix Gz (0:Int)))+(1:Int)))).map hS)::au.cells [(qj (t1++[bk.2]) (.own 1))]::rC)++[au.cells [(hS (ix Gz (0:Int)))]])).length]?=_∧jj ((((((au.cells [(.bW [(hS t.1),(qf t.2 .shared)])]::au.cells [(hS without)]::kR::au.cells ((t2.set bk.2.toNat (w ((ix t2 (ix Gz (0:Int)))+(1:Int)))).map hS)::au.cells [(qj (t1++[bk.2]) (.own 1))]::rC)++[au.cells [(hS (ix Gz (0:Int)))]])++[au.loop .busy none 81 [xU,fs,gi,(I.ptr 0 0),FI,(I.ptr 1 0),Lb,(I.ptr 3 0),u8,(I.ptr 4 0),(I.ptr (au.cells [(.bW [(hS t.1),(qf t.2 .shared)])]::au.cells [(hS without)]::kR::au.cells (s3.map hS)::au.cells [(qj (Gz.drop (1:Int).toNat) (.own 1))]::rC).length 0),KC,KD,KE,KF,KG,u16,KH,KI,KJ,KK,KL,KM,Kb,KN,KO,Kc,KP,KQ,Kd,KR,KS,u32,KT,I',Ja,Jb,Jc,Jd,Je,Jf,Jg,KU,KV,KW,KX,KY,KZ,K0,K1,K2,K3,K4,K5,K6,K7,K8,K9,K_,La,Lc,Ld,Le] [35] (Gx Tryz.prog 81 0) (Gy Tryz.prog 81 0) Ik])++Y)++[_]).set (((au.cells [(.bW [(hS t.1),(qf t.2 .shared)])]::au.cells [(hS without)]::kR::au.cells ((t2.set bk.2.toNat (w ((ix t2 (ix Gz (0:Int)))+(1:Int)))).map hS)::au.cells [(qj (t1++[bk.2]) (.own 1))]::rC)++[au.cells [(hS (ix Gz (0:Int)))]])).length _) _;exact ⟨rfl,Pe _ _ _ _,by rw [Qe];exact RE _ _ _ _⟩
  ·rw [rM];(conv=>whnf);obtain rfl:=Option.some.inj h;show _∧(((((au.cells [(.bW [(hS t.1),(qf t.2 .shared)])]::au.cells [(hS without)]::kR::au.cells (t2.map hS)::au.cells [(qj t1 (.own 1))]::rC)++[au.cells [(hS (ix Gz (0:Int)))]])++[au.loop .busy none 81 [xU,fs,gi,(I.ptr 0 0),FI,(I.ptr 1 0),Lb,(I.ptr 3 0),u8,(I.ptr 4 0),(I.ptr (au.cells [(.bW [(hS t.1),(qf t.2 .shared)])]::au.cells [(hS without)]::kR::au.cells (s3.map hS)::au.cells [(qj (Gz.drop (1:Int).toNat) (.own 1))]::rC).length 0),KC,KD,KE,KF,KG,u16,KH,KI,KJ,KK,KL,KM,Kb,KN,KO,Kc,KP,KQ,Kd,KR,KS,u32,KT,I',Ja,Jb,Jc,Jd,Je,Jf,Jg,KU,KV,KW,KX,KY,KZ,K0,K1,K2,K3,K4,K5,K6,K7,K8,K9,K_,La,Lc,Ld,Le] [35] (Gx Tryz.prog 81 0) (Gy Tryz.prog 81 0) Ik])++Y)++[_])[(((au.cells [(.bW [(hS t.1),(qf t.2 .shared)])]::au.cells [(hS without)]::kR::au.cells (t2.map hS)::au.cells [(qj t1 (.own 1))]::rC)++[au.cells [(hS (ix Gz (0:Int)))]])).length]?=_∧jj ((((((au.cells [(.bW [(hS t.1),(qf t.2 .shared)])]::au.cells [(hS without)]::kR::au.cells (t2.map hS)::au.cells [(qj t1 (.own 1))]::rC)++[au.cells [(hS (ix Gz (0:Int)))]])++[au.loop .busy none 81 [xU,fs,gi,(I.ptr 0 0),FI,(I.ptr 1 0),Lb,(I.ptr 3 0),u8,(I.ptr 4 0),(I.ptr (au.cells [(.bW [(hS t.1),(qf t.2 .shared)])]::au.cells [(hS without)]::kR::au.cells (s3.map hS)::au.cells [(qj (Gz.drop (1:Int).toNat) (.own 1))]::rC).length 0),KC,KD,KE,KF,KG,u16,KH,KI,KJ,KK,KL,KM,Kb,KN,KO,Kc,KP,KQ,Kd,KR,KS,u32,KT,I',Ja,Jb,Jc,Jd,Je,Jf,Jg,KU,KV,KW,KX,KY,KZ,K0,K1,K2,K3,K4,K5,K6,K7,K8,K9,K_,La,Lc,Ld,Le] [35] (Gx Tryz.prog 81 0) (Gy Tryz.prog 81 0) Ik])++Y)++[_]).set (((au.cells [(.bW [(hS t.1),(qf t.2 .shared)])]::au.cells [(hS without)]::kR::au.cells (t2.map hS)::au.cells [(qj t1 (.own 1))]::rC)++[au.cells [(hS (ix Gz (0:Int)))]])).length _) _;exact ⟨rfl,Pe _ _ _ _,by rw [Qe];exact RE _ _ _ _⟩
 ·rw [q5];conv=>whnf
  obtain rfl:=Option.some.inj h;show _∧(((((au.cells [(.bW [(hS t.1),(qf t.2 .shared)])]::au.cells [(hS without)]::kR::au.cells (t2.map hS)::au.cells [(qj t1 (.own 1))]::rC)++[au.cells [(hS (ix Gz (0:Int)))]])++[au.loop .busy none 81 [xU,fs,gi,(I.ptr 0 0),FI,(I.ptr 1 0),Lb,(I.ptr 3 0),u8,(I.ptr 4 0),(I.ptr (au.cells [(.bW [(hS t.1),(qf t.2 .shared)])]::au.cells [(hS without)]::kR::au.cells (s3.map hS)::au.cells [(qj (Gz.drop (1:Int).toNat) (.own 1))]::rC).length 0),KC,KD,KE,KF,KG,u16,KH,KI,KJ,KK,KL,KM,Kb,KN,KO,Kc,KP,KQ,Kd,KR,KS,u32,KT,I',Ja,Jb,Jc,Jd,Je,Jf,Jg,KU,KV,KW,KX,KY,KZ,K0,K1,K2,K3,K4,K5,K6,K7,K8,K9,K_,La,Lc,Ld,Le] [35] (Gx Tryz.prog 81 0) (Gy Tryz.prog 81 0) Ik])++Y)++[_])[(((au.cells [(.bW [(hS t.1),(qf t.2 .shared)])]::au.cells [(hS without)]::kR::au.cells (t2.map hS)::au.cells [(qj t1 (.own 1))]::rC)++[au.cells [(hS (ix Gz (0:Int)))]])).length]?=_∧jj ((((((au.cells [(.bW [(hS t.1),(qf t.2 .shared)])]::au.cells [(hS without)]::kR::au.cells (t2.map hS)::au.cells [(qj t1 (.own 1))]::rC)++[au.cells [(hS (ix Gz (0:Int)))]])++[au.loop .busy none 81 [xU,fs,gi,(I.ptr 0 0),FI,(I.ptr 1 0),Lb,(I.ptr 3 0),u8,(I.ptr 4 0),(I.ptr (au.cells [(.bW [(hS t.1),(qf t.2 .shared)])]::au.cells [(hS without)]::kR::au.cells (s3.map hS)::au.cells [(qj (Gz.drop (1:Int).toNat) (.own 1))]::rC).length 0),KC,KD,KE,KF,KG,u16,KH,KI,KJ,KK,KL,KM,Kb,KN,KO,Kc,KP,KQ,Kd,KR,KS,u32,KT,I',Ja,Jb,Jc,Jd,Je,Jf,Jg,KU,KV,KW,KX,KY,KZ,K0,K1,K2,K3,K4,K5,K6,K7,K8,K9,K_,La,Lc,Ld,Le] [35] (Gx Tryz.prog 81 0) (Gy Tryz.prog 81 0) Ik])++Y)++[_]).set (((au.cells [(.bW [(hS t.1),(qf t.2 .shared)])]::au.cells [(hS without)]::kR::au.cells (t2.map hS)::au.cells [(qj t1 (.own 1))]::rC)++[au.cells [(hS (ix Gz (0:Int)))]])).length _) _;exact ⟨rfl,Pe _ _ _ _,by rw [Qe];exact RE _ _ _ _⟩
theorem ala {t:p8} {without:Int} {qn:p0→Option p0} {s3:p0} {Gz:p0} {v:p0} {Q:rm}   (HT:∀ (oq:p0) (bC bS g':au) (Hs:List au) (p9:List I),qn oq=some v→qV 63 [(6,(.ptr 2 0)),(7,(.ptr 3 0))] p9→Q (.exit 2) p9 (bC::bS::au.cells ((List.replicate 6 (0:Int)).map hS)::au.cells (oq.map hS)::g'::Hs)) {T:List I} (bZ:eS (EA false [3,1,1,3,1,1,53]) T=GH 63 [(3,(.ptr 0 0)),(5,(.ptr 1 0)),(6,(.ptr 2 0)),(7,(.ptr 3 0)),(9,(.ptr 4 0))]) (h:Mi t without qn p6 s3 Gz=some v) :
  dC Tryz.prog Ik 81 0 none Q8 T [au.cells [(.bW [(hS t.1),(qf t.2 .shared)])],au.cells [(hS without)],au.cells ((List.replicate 6 (0:Int)).map hS),au.cells (s3.map hS),au.cells [(qj Gz (.own 1))]] Q:=by
 unfold Q8;obtain ⟨Ko,rT⟩:∃ c,UY=c:=⟨_,rfl⟩;rw [rT];refine wp_loop bZ ?_;refine .intro (fun m T H=>∃ (s3 Gz:p0) (rC:List au),T=GH 63 [(3,(.ptr 0 0)),(5,(.ptr 1 0)),(6,(.ptr 2 0)),(7,(.ptr 3 0)),(9,(.ptr 4 0))]∧H=(au.cells [(.bW [(hS t.1),(qf t.2 .shared)])]::au.cells [(hS without)]::au.cells ((List.replicate 6 (0:Int)).map hS)::au.cells (s3.map hS)::au.cells [(qj Gz (.own 1))]::rC)∧Mi t without qn m s3 Gz=some v) p6 ⟨s3,Gz,[],rfl,rfl,h⟩ ?_;clear h bZ;rintro m T H ⟨s3,Gz,rC,rfl,rfl,h⟩;cases m
 ·exact q4 h
 rename_i m;rw [Mi.eq_2] at h;conv=>whnf
 refine bs h (fun qC h=>?_) fun qC h=>?_
 ·rw [qC];conv=>whnf
  refine qy h id fun qG h=>?_;rw [Ht hS Gz (0:Int) qG];conv=>whnf
  refine DX (x:=au.cells [(hS (0:Int))]) (by first | exact qL.h | rfl | (simp [sg,I.settle];done)) ?_
  conv=>whnf
  rw [Ig];obtain ⟨qZ,h⟩:=qw h;refine ⟨⟨rfl,qZ⟩,?_⟩;erw [aii hS Gz (1:Int) qZ];conv=>whnf
  refine DX (x:=au.cells [(hS (ix Gz (0:Int)))]) (by first | exact qL.h | rfl | (simp [sg,I.settle];done)) ?_
  conv=>whnf
  obtain ⟨aS,qT,h⟩:=qi h;refine ⟨qh.pl,_,alg qT,?_⟩;conv=>whnf
  obtain ⟨dK,JJ,h⟩:=qi h;obtain ⟨eE,HI,h⟩:=qi h;obtain ⟨Ms,WK,WL,bD⟩:=Pc HI;subst rT;unfold UY;refine ahT (f:=fun (e1:(Int×Int))=>(.agg [(hS e1.1),(hS e1.2)])) (ah8 JJ) (fun i=>((au.cells [(.bW [(hS t.1),(qf t.2 .shared)])]::au.cells [(hS without)]::au.cells ((List.replicate 6 (0:Int)).map hS)::au.cells (((Ms i).2).map hS)::au.cells [(qj ((Ms i).1) (.own 1))]::rC)++[au.cells [(hS (ix Gz (0:Int)))]])) (by exact rfl) (by show ((au.cells [(.bW [(hS t.1),(qf t.2 .shared)])]::au.cells [(hS without)]::au.cells ((List.replicate 6 (0:Int)).map hS)::au.cells (((Ms 0).2).map hS)::au.cells [(qj ((Ms 0).1) (.own 1))]::rC)++[au.cells [(hS (ix Gz (0:Int)))]])=_;first | (rw [WK];done) | (rw [WK];rfl)) (fun _=>rfl) ?_ (rl:=none) (by exact rfl) (Hn:=((au.cells [(.bW [(hS t.1),(qf t.2 .shared)])]::au.cells [(hS without)]::au.cells ((List.replicate 6 (0:Int)).map hS)::au.cells (eE.2.map hS)::au.cells [(qj eE.1 (.own 1))]::rC)++[au.cells [(hS (ix Gz (0:Int)))]])) (by show ((au.cells [(.bW [(hS t.1),(qf t.2 .shared)])]::au.cells [(hS without)]::au.cells ((List.replicate 6 (0:Int)).map hS)::au.cells (((Ms dK.length).2).map hS)::au.cells [(qj ((Ms dK.length).1) (.own 1))]::rC)++[au.cells [(hS (ix Gz (0:Int)))]])=_;first | (rw [WL];done) | (rw [WL];rfl)) (fun alB=>?_)
  ·intro i hi Y;exact ald (s3:=s3) (bD i hi) Y
  conv=>whnf
  exact ⟨m,su m,eE.2,eE.1,_,rfl,rfl,h⟩
 ·rw [qC];conv=>whnf
  exact HT _ _ _ _ _ _ h ⟨rfl,rfl⟩
theorem alb {t:p8} {to:Int} {without:Int} {v:p0} (h:M8 t to without=some v):qt 81 [(.bW [(hS t.1),(.ay (t.2.flatMap p7) t.2.length .shared)]),(hS to),(hS without)] (.agg ((v.map hS))):=by
 refine qN dI age rfl (N1 (PR (fun _=>rfl) _)) fun Q bn=>?_;have jz:qD [.cell 6 (.arr 6)] Q (fun v=>(.agg ((v.map hS)))) v:=fun T H bK=>bn _ T H bK;unfold M8 at h;unfold abC;obtain ⟨Hy,qB⟩:∃ c,Q7=c:=⟨_,rfl⟩;rw [qB];obtain ⟨O8,Iq⟩:∃ c,Q8=c:=⟨_,rfl⟩;rw [Iq];conv=>whnf
 subst qB;refine ak_ ?_ (by exact rfl) h;intro x0 p9 h qs;obtain ⟨ru,rfl⟩:=qs.ex;conv=>whnf
 obtain ⟨qo,h⟩:=qw h;refine ⟨⟨qo.1,qo.2.1⟩,?_⟩;replace qo:0≤to∧to<(x0.length:Int):=⟨qo.1,by have:=qo.2;omega⟩;conv=>whnf
 refine Jx hS x0 to (0:Int) qo ?_;conv=>whnf
 subst Iq;refine ala ?_ (by exact rfl) h;intro oq bC bS g' Hs p9 h qs;obtain ⟨ru,rfl⟩:=qs.ex;conv=>whnf
 obtain ⟨I2,h⟩:=qw h;refine ⟨by simp [I2],?_⟩;rw [Sm hS oq (fun _=>rfl) I2];conv=>whnf
 obtain ⟨rS,h⟩:=qw h
 try rw [show List.map I.gU (List.map hS oq)=List.map hS oq from by rw [tq];rfl]
 first | (refine YU hS oq (n:=6) (l:=(List.replicate 6 (0:Int))) (si _) (fun _=>rfl) (by first | exact qL.h | rfl | (simp [sg,I.settle];done)) rS.1 rS.2 (by decide) ?_) | (rw [show Nat.beq (List.map hS oq).length 6=true from by rw [List.length_map,rS.1] <;> exact Nat.beq_refl _];refine Ur hS (List.replicate 6 (0:Int)) oq (fun _=>rfl) (by rw [rS.1,rS.2]) ?_)
 conv=>whnf
 obtain ⟨HB,h⟩:=qw h;obtain rfl:=Option.some.inj h;exact jz _ _ ⟨.inr rfl,_,ahQ (l:=oq) (by rfl) (by first | exact qL.h | rfl | (simp [sg,I.settle];done)) HB,_,oV (N1 (PR (fun _=>rfl) _)),(by show I.agg (List.map I.gU (List.map _ _))=_;rw [tq];rfl)⟩
end Go.Proofs.YtfakoboiahbhaaaGreat.Ab


namespace Go.Proofs.YtfakoboiahbhaaaGreat.Ab
open Go
def Hm (b:p3) (wo f g:Int):Prop:=∃ p∈places b f,p.1≠wo∧fin b p=g
def GV (b:p3) (wo:Int):Nat→Int→Int→Prop
 | 0,a,g=>a=g
 | n+1,a,g=>∃ f,GV b wo n a f∧Hm b wo f g
def Qm (b:p3) (wo f:Int) (s:List Int×List Int) (p:Int×Int):List Int×List Int :=
 if p.1≠wo∧ix s.2 (fin b p)<0 then (s.1++[fin b p],s.2.set (fin b p).toNat (ix s.2 f+1)) else s
theorem ag0 {n r:Nat} (h:r<2*n):0≤(rF r).1∧(rF r).1<(n:Int)∧0≤(rF r).2∧(rF r).2≤1:=by
 unfold rF;simp only;omega
theorem SM {b:p3} {f:Int} {p:Int×Int} (h:p∈places b f):0≤p.1∧p.1<(b.2.length:Int)∧0≤p.2∧p.2≤1∧qz b p=f:=by
 unfold places at h;obtain ⟨r,aj,rfl⟩:=sq.1 h;obtain ⟨ad,af⟩:=sK.1 aj;have:=ag0 (sx.1 ad);exact ⟨this.1,this.2.1,this.2.2.1,this.2.2.2,by simpa [Hj] using af⟩
theorem PC {l:List (Int×Int)} {i:Int} (h:0≤i∧i<(l.length:Int)):ix l i∈l:=by
 obtain ⟨k,rfl⟩:∃ k:Nat,i=(k:Int):=⟨i.toNat,by omega⟩;rw [q_ (by omega)];exact sH _
theorem Pb {b:p3} (p1:qH b) {f:Int} {p:Int×Int} (h:p∈places b f):0≤fin b p∧fin b p<b.1:=by
 have h:=SM h;have hm:=PC (l:=b.2) ⟨h.1,h.2.1⟩;unfold fin;split
 ·exact p1.left _ hm
 ·exact p1.right _ hm
def IL (D:List Int):Nat:=D.countP fun x=>decide (x<0)
theorem RG:∀ (D:List Int) (j:Nat) (x:Int) (h:j<D.length),D[j]<0→0≤x→IL (D.set j x)+1=IL D
 | a::D,0,x,_,ad,af=>by
   have ad:a<0:=ad;simp [IL,List.countP_cons,ad,show ¬ x<0 by omega]
 | a::D,j+1,x,h,ad,af=>by
   have:=RG D j x (by simpa using h) ad af;simp only [IL,List.set_cons_succ,List.countP_cons] at this ⊢;omega
theorem alc {b:p3} (p1:qH b) {wo f:Int} {Q0:List Int} (aQ:ix Q0 (0:Int)=f∧0≤f∧f<b.1) {s:List Int×List Int} {p:Int×Int} (aC:p∈places b f) (ak:s.2.length=6) (aj:s.1.length+IL s.2≤1000) (a0:-1≤ix s.2 f∧ix s.2 f≤100) :
  Mj b wo Q0 s p=some (Qm b wo f s p):=by
 obtain ⟨t1,t2⟩:=s;have h7:=SM aC;have Cq:=Pb p1 aC;have bX:=p1.f6;simp only at ak aj a0;rw [Mj];simp only [QB ⟨h7.1,h7.2.1⟩,rW,aQ.1];unfold Qm;by_cases ad:p.1≠wo
 ·rw [if_pos (decide_eq_true ad),qb ⟨by omega,by omega,ak.symm⟩];by_cases af:ix t2 (fin b p)<0
  ·rw [if_pos (decide_eq_true af),qb ⟨by omega,by omega,ak.symm⟩,qb ⟨by omega,by omega,ak.symm⟩,qb (by omega),LU (by omega),if_pos ⟨ad,af⟩]
  ·rw [if_neg (by simpa using af),if_neg (by simp [af])]
 ·rw [if_neg (by simpa using ad),if_neg (by simp [ad])]
structure Mr (b:p3) (wo f:Int) (Q0 D0:List Int) (Hz:List (Int×Int)) (s:List Int×List Int):Prop where
 len:s.2.length=6
 We:s.1.length+IL s.2=Q0.length+IL D0
 fL:∀ g:Nat,g<6→0≤ix D0 (g:Int)→ix s.2 (g:Int)=ix D0 (g:Int)
 new:∀ g:Nat,g<6→ix D0 (g:Int)<0→ix s.2 (g:Int)=ix D0 (g:Int)∨(ix s.2 (g:Int)=ix D0 f+1∧Hm b wo f (g:Int)∧(g:Int)∈s.1)
 alX:∃ N,s.1=Q0++N∧∀ g∈N,0≤g∧g<b.1∧ix s.2 g=ix D0 f+1
 Hz:∀ p∈Hz,p.1≠wo→0≤ix s.2 (fin b p)
theorem Mr.step {b:p3} (p1:qH b) {wo f:Int} {Q0 D0:List Int} (aQ:0≤f∧f<b.1) (a0:0≤ix D0 f) {Hz:List (Int×Int)} {s:List Int×List Int} (h:Mr b wo f Q0 D0 Hz s) {p:Int×Int} (aC:p∈places b f):Mr b wo f Q0 D0 (Hz++[p]) (Qm b wo f s p):=by
 obtain ⟨Q,D⟩:=s;obtain ⟨ad,af,aG,a7,⟨N,bN,bX⟩,cP⟩:=h;simp only at ad af aG a7 bN bX cP;have Cq:=Pb p1 aC;have ND:=p1.f6;obtain ⟨a,cg⟩:∃ a:Nat,fin b p=(a:Int):=⟨(fin b p).toNat,by omega⟩;obtain ⟨c,ao⟩:∃ c:Nat,f=(c:Int):=⟨f.toNat,by omega⟩;have WJ:ix D f=ix D0 f:=by rw [ao];exact aG c (by omega) (by rw [←ao];exact a0)
 unfold Qm;by_cases al:p.1≠wo∧ix D (fin b p)<0
 ·rw [if_pos al,cg,ti,WJ];have Sh:ix D (a:Int)<0:=by rw [←cg];exact al.2
  have NF:ix D0 (a:Int)<0:=by
   refine Classical.byContradiction fun bK=>?_;have:=aG a (by omega) (by omega);omega
  have aev:D[a]'(by omega)<0:=by rw [q_ (by omega)] at Sh;exact Sh
  have ny:ix (D.set a (ix D0 f+1)) (a:Int)=ix D0 f+1:=LH (by omega);refine ⟨by simpa using ad,?_,fun g aO yG=>?_,fun g aO yG=>?_,⟨N++[(a:Int)],by simp [bN],fun g aO=>?_⟩,fun q a4 Pz=>?_⟩
  ·have:=RG D a (ix D0 f+1) (by omega) aev (by omega);simp only [sj,List.length_singleton];omega
  ·(have bO:g≠a:=fun e=>by subst e;omega);simp only;rw [J4 bO];exact aG g aO yG
  ·by_cases NR:g=a
   ·subst NR;exact .inr ⟨ny,⟨p,aC,al.1,cg⟩,by simp⟩
   ·simp only;rw [J4 NR];rcases a7 g aO yG with e | ⟨e,cm,dF⟩
    ·exact .inl e
    ·exact .inr ⟨e,cm,by simp [dF]⟩
  ·rcases sQ.1 aO with aO | aO
   ·obtain ⟨aJ,aP,cl⟩:=bX g aO;obtain ⟨F9,rfl⟩:∃ F9:Nat,g=(F9:Int):=⟨g.toNat,by omega⟩;refine ⟨aJ,aP,?_⟩;by_cases NR:F9=a
    ·subst NR;exact ny
    ·simp only;rw [J4 NR];exact cl
   ·simp only [sI] at aO;subst aO;exact ⟨by omega,by omega,ny⟩
  ·have key:0≤ix D (fin b q)∨fin b q=(a:Int):=by
    rcases sQ.1 a4 with a4 | a4
    ·exact .inl (cP q a4 Pz)
    ·simp only [sI] at a4;subst a4;exact .inr cg
   rcases key with key | key
   ·rcases Classical.em (fin b q=(a:Int)) with e | e
    ·simp only;rw [e,ny];omega
    ·have:ix (D.set a (ix D0 f+1)) (fin b q)=ix D (fin b q):=by
      unfold ix;rcases uo (fin b q) 0 with aN | aN
      ·(have fT:(fin b q).toNat=0:=by omega);rw [fT];rw [sC];by_cases WR:a=0
       ·subst WR;exfalso;have k:=key;unfold ix at k;rw [fT,sC] at k;rw [q_ (by omega)] at Sh;rw [sd (by omega)] at k;simp at k;omega
       ·rw [sa WR];rfl
      ·rw [sC,sa (by omega)];rfl
     simp only;rw [this];exact key
   ·simp only;rw [key,ny];omega
 ·rw [if_neg al];refine ⟨ad,af,aG,a7,⟨N,bN,bX⟩,fun q a4 Pz=>?_⟩;rcases sQ.1 a4 with a4 | a4
  ·exact cP q a4 Pz
  ·simp only [sI] at a4;subst a4
   have:¬ ix D (fin b q)<0:=fun e=>al ⟨Pz,e⟩
   simp only;omega
theorem WA {b:p3} (p1:qH b) {wo f:Int} {Q0 D0:List Int} (aQ:0≤f∧f<b.1) (a0:0≤ix D0 f) (aeL:ix D0 f≤50) {Qh:List Int} (a4:ix Qh (0:Int)=f) (eo:Q0.length+IL D0≤100):∀ (l Hz:List (Int×Int)) (s:List Int×List Int),(∀ p∈l,p∈places b f)→Mr b wo f Q0 D0 Hz s →
  ∃ aF,H8 (Mj b wo Qh) l s=some aF∧Mr b wo f Q0 D0 (Hz++l) aF
 | [],Hz,s,_,h=>⟨s,rfl,by simpa using h⟩
 | p::l,Hz,s,ak,h=>by
   have aC:=ak p (by simp);have ND:=p1.f6;obtain ⟨c,ao⟩:∃ c:Nat,f=(c:Int):=⟨f.toNat,by omega⟩;(have WJ:ix s.2 f=ix D0 f:=by rw [ao];exact h.fL c (by omega) (by rw [←ao];exact a0));obtain ⟨aF,e1,cm⟩:=WA p1 aQ a0 aeL a4 eo l (Hz++[p]) _ (fun q a4=>ak q (by simp [a4])) (h.step p1 aQ a0 aC);have hZ:=h.We;refine ⟨aF,?_,by simpa using cm⟩;rw [H8,alc p1 ⟨a4,aQ⟩ aC h.len (by omega) (by omega),rW];exact e1
structure JA (b:p3) (wo to:Int) (Q D:List Int):Prop where
 len:D.length=6
 q:∀ f∈Q,0≤f∧f<b.1∧0≤ix D f
 room:Q.length+IL D≤6
 small:∀ g:Nat,g<6→0≤ix D (g:Int)→ix D (g:Int)+IL D≤5
 walk:∀ g:Nat,g<6→0≤ix D (g:Int)→GV b wo (ix D (g:Int)).toNat to (g:Int)
 sort:Q.Pairwise fun x y=>ix D x≤ix D y
 top:∀ f r,Q=f::r→∀ g:Nat,g<6→ix D (g:Int)≤ix D f+1
 proc:∀ g:Nat,g<6→0≤ix D (g:Int)→(g:Int) ∉ Q→∀ h,Hm b wo (g:Int) h→0≤ix D h∧ix D h≤ix D (g:Int)+1
 zero:0≤to∧to<6∧ix D to=0
theorem Hm.in {b:p3} (p1:qH b) {wo f g:Int} (h:Hm b wo f g):0≤g∧g<b.1:=by
 obtain ⟨p,ad,_,rfl⟩:=h;exact Pb p1 ad
theorem JA.next {b:p3} (p1:qH b) {wo to f:Int} {r D:List Int} (h:JA b wo to (f::r) D) {s:List Int×List Int} (ai:Mr b wo f r D (places b f) s):JA b wo to s.1 s.2:=by
 obtain ⟨cI,JW⟩:=s;obtain ⟨aJ,aP,cl,jP,⟨N,Di,Ic⟩,Xf⟩:=ai;simp only at aJ aP cl jP Di Ic Xf;subst Di;have ND:=p1.f6;have WW:=h.q f (by simp);obtain ⟨c,ao⟩:∃ c:Nat,f=(c:Int):=⟨f.toNat,by omega⟩;have yO:∀ g:Int,0≤g→g<6→∃ n:Nat,g=(n:Int)∧n<6:=fun g ad af=>⟨g.toNat,by omega,by omega⟩;have hold:∀ g:Int,0≤g→g<6→0≤ix D g→ix JW g=ix D g:=fun g ad af aG=>by
  obtain ⟨n,rfl,aN⟩:=yO g ad af;exact cl n aN aG
 have hle:∀ g:Nat,g<6→ix JW (g:Int)≤ix D f+1:=fun g aO=>by
  rcases uo (ix D (g:Int)) 0 with aT | aT
  ·rcases jP g aO aT with e | e
   ·omega
   ·omega
  ·rw [cl g aO aT];exact h.top f r rfl g aO
 have aj:∀ x∈r,0≤x∧x<b.1∧0≤ix D x∧ix JW x=ix D x:=fun x al=>by
  have:=h.q x (by simp [al]);exact ⟨this.1,this.2.1,this.2.2,hold x this.1 (by omega) this.2.2⟩
 have Da:=tx.1 h.sort;have eo:=h.room;simp only [sD] at eo;refine ⟨aJ,fun g aO=>?_,by simp only;omega,fun g aO aT=>?_,fun g aO aT=>?_,?_,fun Np r' he g aO=>?_,fun g aO aT R_ aY he=>?_,⟨h.zero.1,h.zero.2.1,by simp only;rw [hold to h.zero.1 h.zero.2.1 (by have:=h.zero.2.2;omega)];exact h.zero.2.2⟩⟩
 ·rcases sQ.1 aO with aO | aO
  ·have:=aj g aO;exact ⟨this.1,this.2.1,by simp only;omega⟩
  ·have:=Ic g aO;exact ⟨this.1,this.2.1,by simp only;omega⟩
 ·have Ct:=h.small c (by omega) (by rw [←ao];omega);rw [←ao] at Ct;simp only [sj] at aP;rcases uo (ix D (g:Int)) 0 with ad | ad
  ·rcases jP g aO ad with e | e
   ·simp only at aT;omega
   ·have B_:1≤N.length:=by
     rcases sQ.1 e.2.2 with dF | dF
     ·have:=(aj _ dF).2.2.1;omega
     ·exact vS dF
    simp only;omega
  ·have:=h.small g aO ad;simp only;rw [cl g aO ad];omega
 ·rcases uo (ix D (g:Int)) 0 with ad | ad
  ·rcases jP g aO ad with e | ⟨e,cm,_⟩
   ·simp only at aT;omega
   ·simp only;rw [e,show (ix D f+1).toNat=(ix D f).toNat+1 by omega];exact ⟨f,by have:=h.walk c (by omega) (by rw [←ao];omega);rw [ao];rw [←ao] at this ⊢;exact this,cm⟩
  ·simp only;rw [cl g aO ad];exact h.walk g aO ad
 ·simp only;rw [List.pairwise_append];refine ⟨Da.2.imp_of_mem fun {x y} al a1 Ib=>by rw [(aj x al).2.2.2,(aj y a1).2.2.2];exact Ib,?_,fun x al y a1=>?_⟩
  ·exact List.Pairwise.imp_of_mem (R:=fun _ _=>True) (fun {x y} al a1 _=>by rw [(Ic x al).2.2,(Ic y a1).2.2];omega) (List.pairwise_of_forall fun _ _=>trivial)
  ·obtain ⟨n,rfl,aN⟩:=yO x (aj x al).1 (by have:=(aj x al).2.1;omega);rw [(Ic y a1).2.2];exact hle n aN
 ·simp only at he ⊢;have alQ:ix D f≤ix JW Np:=by
   (have hm:Np∈r++N:=by rw [he];simp);rcases sQ.1 hm with hm | hm
   ·rw [(aj Np hm).2.2.2];exact Da.1 Np hm
   ·rw [(Ic Np hm).2.2];omega
  have:=hle g aO;omega
 ·simp only at aT R_ ⊢;have bK:=Hm.in p1 he;rcases Classical.em ((g:Int)=f) with e | e
  ·rw [e] at he ⊢;obtain ⟨n,rfl,aN⟩:=yO aY bK.1 (by omega);rw [hold f WW.1 (by omega) WW.2.2];obtain ⟨p,bT,b6,eD⟩:=he;exact ⟨by rw [←eD];exact Xf p bT b6,hle n aN⟩
  ·rcases uo (ix D (g:Int)) 0 with ad | ad
   ·rcases jP g aO ad with cm | ⟨_,_,dF⟩
    ·omega
    ·exact absurd dF R_
   ·have:=h.proc g aO ad (fun hm=>by
     rcases sf.1 hm with cm | cm
     ·exact e cm
     ·exact R_ (List.mem_append_left _ cm)) aY he
    rw [cl g aO ad,hold aY bK.1 (by omega) this.1];exact this
theorem aaN {b:p3} (p1:qH b) {wo to:Int} {k:List Int→Option (List Int)}:∀ (m:Nat) (Q D:List Int),JA b wo to Q D→Q.length+IL D<m→∃ JW,JA b wo to [] JW∧Mi b wo k m D Q=k JW
 | 0,_,_,_,h=>absurd h (by omega)
 | m+1,Q,D,cp,hm=>by
   rw [Mi];have ND:=p1.f6;have ak:=p1.len;cases Q with
   | nil=>rw [if_neg (by simp)];exact ⟨D,cp,rfl⟩
   | cons f r =>
     have aQ:=cp.q f (by simp);obtain ⟨c,ao⟩:∃ c:Nat,f=(c:Int):=⟨f.toNat,by omega⟩;have ae4:=cp.small c (by omega) (by rw [←ao];omega);rw [←ao] at ae4;have eo:=cp.room;simp only [sD] at eo hm;obtain ⟨aF,e1,cm⟩:=WA p1 ⟨aQ.1,aQ.2.1⟩ aQ.2.2 (by omega) (Qh:=f::r) rfl (by omega) (Q0:=r) (D0:=D) (wo:=wo) (places b f) [] (r,D) (fun p h=>h) ⟨cp.len,rfl,fun _ _ _=>rfl,fun _ _ _=>.inl rfl,⟨[],by simp,by simp⟩,by simp⟩;rw [uc] at cm;have hZ:=cm.We;obtain ⟨JW,d1,d2⟩:=aaN p1 m aF.1 aF.2 (JA.next p1 cp cm) (by omega);refine ⟨JW,d1,?_⟩;rw [if_pos (decide_eq_true (by simp)),qb (by simp),qb ⟨by omega,by simp only [sD];omega⟩,show ix (f::r) (0:Int)=f from rfl,OI,rW,Of,if_pos (by omega),rW];show ((H8 (Mj b wo (f::r)) (places b f) (r,D)).bind _)=_;rw [e1,rW];exact d2
structure Mt (b:p3) (wo to:Int) (D:List Int):Prop where
 len:D.length=6
 walk:∀ g:Nat,g<6→0≤ix D (g:Int)→GV b wo (ix D (g:Int)).toNat to (g:Int)
 least:∀ (n:Nat) (g:Int),GV b wo n to g→0≤g∧g<6∧0≤ix D g∧ix D g≤n
 small:∀ g:Nat,g<6→ix D (g:Int)≤5
theorem JA.aeb {b:p3} (p1:qH b) {wo to:Int} {D:List Int} (h:JA b wo to [] D):Mt b wo to D:=by
 have ND:=p1.f6;refine ⟨h.len,h.walk,fun n=>?_,fun g aO=>?_⟩
 ·induction n with
  | zero =>
    intro g aO;have aO:to=g:=aO;subst aO;have:=h.zero;exact ⟨this.1,this.2.1,by omega,by omega⟩
  | succ n a' =>
    rintro g ⟨f,ad,af⟩;obtain ⟨i1,i2,i3,i4⟩:=a' f ad;obtain ⟨c,rfl⟩:∃ c:Nat,f=(c:Int):=⟨f.toNat,by omega⟩;have aC:=h.proc c (by omega) i3 (by simp) g af;have hi:=Hm.in p1 af;exact ⟨hi.1,by omega,aC.1,by omega⟩
 ·rcases uo (ix D (g:Int)) 0 with ad | ad
  ·omega
  ·have:=h.small g aO ad;omega
theorem aaM {k:List Int→Option (List Int)}:∀ (m i:Nat) (z:Int) (D:List Int),z=i→i≤6→6-i<m→D.length=6→(∀ j:Nat,j<i→ix D (j:Int)=-1)→Mh k m z D=k (List.replicate 6 (-1))
 | 0,i,_,_,_,_,h,_,_=>absurd h (by omega)
 | m+1,i,_,D,rfl,hi,hm,ak,rb=>by
   rw [Mh];by_cases h:i<6
   ·rw [if_pos (decide_eq_true (by omega)),qb ⟨by omega,by omega,ak.symm⟩,re i (by omega),ti];refine aaM m (i+1) _ _ rfl (by omega) (by omega) (by simpa using ak) fun j aw=>?_;by_cases g1:j=i
    ·subst g1;exact LH (by omega)
    ·rw [J4 g1];exact rb j (by omega)
   ·rw [if_neg (by simp;omega)];congr 1;refine List.ext_getElem (by simp [ak]) fun j ad af=>?_;have:=rb j (by omega);rw [q_ ad] at this;rw [this,vT]
theorem aaL {b:p3} (p1:qH b) {wo to:Int} (ax:0≤to∧to<b.1):∃ D,M8 b to wo=some D∧Mt b wo to D:=by
 have ND:=p1.f6;obtain ⟨c,ao⟩:∃ c:Nat,to=(c:Int):=⟨to.toNat,by omega⟩;subst ao;have ny:ix ((List.replicate 6 (-1:Int)).set c 0) (c:Int)=0:=LH (by simp;omega);have Py:∀ g:Nat,g<6→g≠c→ix ((List.replicate 6 (-1:Int)).set c 0) (g:Int)=-1:=fun g aO bO=>by
  rw [J4 bO,q_ (by rw [List.length_replicate];omega),vT]
 have R5:IL ((List.replicate 6 (-1:Int)).set c 0)=5:=by
  have:=RG (List.replicate 6 (-1:Int)) c 0 (by rw [List.length_replicate];omega) (by rw [vT];omega) (by omega);have e:IL (List.replicate 6 (-1:Int))=6:=by decide
  omega
 have cp:JA b wo (c:Int) [(c:Int)] ((List.replicate 6 (-1:Int)).set c 0):=by
  refine ⟨by simp,fun f aQ=>?_,by rw [R5];simp,fun g aO aT=>?_,fun g aO aT=>?_,by simp,fun f r he g aO=>?_,fun g aO aT aN h he=>?_,⟨by omega,by omega,ny⟩⟩
  ·simp only [sI] at aQ;subst aQ;exact ⟨ax.1,ax.2,by rw [ny];omega⟩
  ·by_cases e:g=c
   ·subst e;rw [ny,R5];omega
   ·rw [Py g aO e] at aT;omega
  ·by_cases e:g=c
   ·subst e;rw [ny];exact rfl
   ·rw [Py g aO e] at aT;omega
  ·simp only [List.cons.injEq] at he;obtain ⟨rfl,_⟩:=he;rw [ny];by_cases e:g=c
   ·subst e;rw [ny];omega
   ·rw [Py g aO e];omega
  ·by_cases e:g=c
   ·subst e;simp at aN
   ·rw [Py g aO e] at aT;omega
 obtain ⟨D,d1,d2⟩:=aaN p1 (k:=fun oq =>
         p2 (oq.length=6) <|
         p2 (oq.length=6∧(List.replicate 6 (0:Int)).length=6) <|
         p2 (oq.length=6) <|
         some oq) p6 _ _ cp (rq (by rw [R5];simp))
 refine ⟨D,?_,JA.aeb p1 d1⟩;rw [M8,aaM p6 0 0 _ rfl (by omega) (rq (by omega)) (by simp) (fun j aw=>absurd aw (by omega)),qb ⟨by omega,by omega,by simp⟩,ti,d2];have:=d1.len;rw [qb this,qb ⟨this,by simp⟩,qb this]
end Go.Proofs.YtfakoboiahbhaaaGreat.Ab


namespace Go.Proofs.YtfakoboiahbhaaaGreat.Ab
open Go
set_option maxRecDepth 20000
set_option maxHeartbeats 4000000
def akH (bT:p8) (qp:p0) (Uo:Int×qc) (e1:(Int×Int)):Option (p8×Bool) :=
 match Uo with
 | (t1,t2) =>
   (Kf bT e1).bind fun G9 =>
   p2 (0≤G9.2∧G9.2<(6:Int)∧6=qp.length) <|
   p2 (0≤t1∧t1<(6:Int)∧6=qp.length) <|
   if (decide ((ix qp G9.2)=(w ((ix qp t1)-(1:Int)))))=true then
    p2 ((t2.length+1)*16≤140737488355328) <|
    some ((G9.2,(t2++[e1])),true)
   else
    some ((t1,t2),false)
def UE (to:Int) (bT:p8) (qp:p0) (p4:qc→Option (qc×Int)):Nat→Int→qc→Option (qc×Int)
 | 0,_,_=>none
 | m+1,s1,s2 =>
   if (decide (s1≠to))=true then
    (OI bT s1).bind fun rj =>
    (Of bT s1).bind fun dK =>
    (Wz (akH bT qp) dK (s1,s2)).bind fun HE =>
    if HE.2=true then
     UE to bT qp p4 m HE.1.1 HE.1.2
    else
     UE to bT qp p4 m HE.1.1 HE.1.2
   else
    p4 s2
def akG (b:p8) (HA to:Int):Option (qc×Int) :=
 (Ih b).bind fun aS =>
 match aS with
 | (none,q1) =>
   if (decide (q1≠(0:Int)))=true then
    some ([],q1)
   else
    (JT (0:Int) (w (b.1-(1:Int))) [HA,to]).bind fun bk =>
    if bk=true then
     if (decide (HA=to))=true then
      some ([],(2:Int))
     else
      none
    else
     some ([],(2:Int))
 | (some bT,q1) =>
   if (decide (q1≠(0:Int)))=true then
    some ([],q1)
   else
    (JT (0:Int) (w (b.1-(1:Int))) [HA,to]).bind fun eE =>
    if eE=true then
     if (decide (HA=to))=true then
      some ([],(2:Int))
     else
      (M8 bT to (-1:Int)).bind fun qp =>
      p2 (qp.length=6∧(List.replicate 6 (0:Int)).length=6) <|
      p2 (0≤HA∧HA<(6:Int)∧6=qp.length) <|
      if (decide ((ix qp HA)<(0:Int)))=true then
       some ([],(5:Int))
      else
       UE to bT qp (fun x0 =>
         some (x0,(0:Int))) p6 HA ([]:List (Int×Int))
    else
     some ([],(2:Int))
end Go.Proofs.YtfakoboiahbhaaaGreat.Ab


namespace Go.Proofs.YtfakoboiahbhaaaGreat.Ab
open Go
theorem Kx {b:p3} {f:Int} {p:Int×Int}:p∈places b f↔0≤p.1∧p.1<(b.2.length:Int)∧0≤p.2∧p.2≤1∧qz b p=f:=by
 refine ⟨SM,fun ⟨ad,af,aG,a7,bN⟩=>?_⟩;have e:rF (2*p.1.toNat+p.2.toNat)=p:=by
  rw [XV (n:=b.2.length) (by omega) (by omega)];exact Prod.ext (by simp only;omega) (by simp only;omega)
 refine sq.2 ⟨2*p.1.toNat+p.2.toNat,sK.2 ⟨sx.2 (by omega),?_⟩,e⟩;rw [Hj,e];exact decide_eq_true bN
def Lw (p:Int×Int):Int×Int:=(p.1,1-p.2)
theorem adn {b:p3} {p:Int×Int} (h:0≤p.2∧p.2≤1):qz b (Lw p)=fin b p:=by
 unfold qz fin Lw;simp only;by_cases ad:0<p.2
 ·rw [if_neg (by omega),if_pos ad]
 ·rw [if_pos (by omega),if_neg ad]
theorem aeh {b:p3} {p:Int×Int} (h:0≤p.2∧p.2≤1):fin b (Lw p)=qz b p:=by
 unfold qz fin Lw;simp only;by_cases ad:0<p.2
 ·rw [if_neg (by omega),if_pos ad]
 ·rw [if_pos (by omega),if_neg ad]
theorem Hm.symm {b:p3} {wo f g:Int} (h:Hm b wo f g):Hm b wo g f:=by
 obtain ⟨p,ad,af,aG⟩:=h;have aC:=Kx.1 ad;exact ⟨Lw p,Kx.2 ⟨aC.1,aC.2.1,by simp only [Lw];omega,by simp only [Lw];omega,by rw [adn ⟨aC.2.2.1,aC.2.2.2.1⟩,aG]⟩,af,by rw [aeh ⟨aC.2.2.1,aC.2.2.2.1⟩,aC.2.2.2.2]⟩
theorem GV.cons {b:p3} {wo:Int}:∀ {n:Nat} {a c g:Int},Hm b wo a c→GV b wo n c g→GV b wo (n+1) a g
 | 0,a,c,g,h,(k:c=g)=>⟨a,rfl,k ▸ h⟩
 | n+1,a,c,g,h,⟨f,aJ,aP⟩=>⟨f,GV.cons h aJ,aP⟩
theorem GV.symm {b:p3} {wo:Int}:∀ {n:Nat} {a g:Int},GV b wo n a g→GV b wo n g a
 | 0,_,_,(h:_=_)=>h.symm
 | _+1,_,_,⟨_,ad,af⟩=>GV.cons af.symm ad.symm
theorem GV.gN {b:p3} {wo:Int} {n:Nat} {a g:Int} (h:GV b wo (n+1) a g):∃ c,Hm b wo a c∧GV b wo n c g:=by
 obtain ⟨f,ad,af⟩:=h.symm;exact ⟨f,af.symm,ad.symm⟩
theorem agu {b:p3} (p1:qH b) {wo to f:Int} {D:List Int} (rb:Mt b wo to D) {n:Nat} (aQ:0≤f∧f<6) (aN:ix D f=((n+1:Nat):Int)):∃ p∈places b f,p.1≠wo∧ix D (fin b p)=(n:Int):=by
 obtain ⟨c,rfl⟩:∃ c:Nat,f=(c:Int):=⟨f.toNat,by omega⟩;have hw:=rb.walk c (by omega) (by omega);rw [aN] at hw;obtain ⟨e,he,hw⟩:=hw.symm.gN;have ak:=rb.least n e hw.symm;have pt:(n:Int)≤ix D e:=by
  refine Classical.byContradiction fun bK=>?_;have af:=rb.walk e.toNat (by omega) (by rw [tK ak.1];exact ak.2.2.1);rw [tK ak.1] at af;have:=(rb.least ((ix D e).toNat+1) (c:Int) ⟨e,af,he.symm⟩).2.2.2;omega
 obtain ⟨p,ad,af,aG⟩:=he;exact ⟨p,ad,af,by rw [aG];omega⟩
end Go.Proofs.YtfakoboiahbhaaaGreat.Ab


namespace Go.Proofs.YtfakoboiahbhaaaGreat.Ab
open Go
set_option maxRecDepth 20000
set_option maxHeartbeats 4000000
def QF (b:p8) (begun:qc) (Il to many:Int) (J8:(p8→qc→Int→Int→Int→Option (qc×Bool))) (s1:Int) (qn:Unit→Option (qc×Bool)):Nat→Int→Option (qc×Bool)
 | 0,_=>none
 | m+1,s2 =>
   if (decide (s2<(2:Int)))=true then
    (Lj b (s1,s2)).bind fun aS =>
    if (decide (aS≠Il))=true then
     QF b begun Il to many J8 s1 qn m (w (s2+(1:Int)))
    else
     (Mb begun s1).bind fun bk =>
     if bk=true then
      QF b begun Il to many J8 s1 qn m (w (s2+(1:Int)))
     else
      p2 ((([]:List (Int×Int)).length+begun.length)*16≤140737488355328) <|
      p2 (((([]:List (Int×Int))++begun).length+1)*16≤140737488355328) <|
      (JU b (s1,s2)).bind fun eE =>
      (J8 b ((([]:List (Int×Int))++begun)++[(s1,s2)]) eE to (w (many-(1:Int)))).bind fun qp =>
      if qp.2=true then
       some (qp.1,true)
      else
       QF b begun Il to many J8 s1 qn m (w (s2+(1:Int)))
   else
    qn ()
def aaU (b:p8) (begun:qc) (Il to many:Int) (J8:(p8→qc→Int→Int→Int→Option (qc×Bool))) (p4:Unit→Option (qc×Bool)):Nat→Int→Option (qc×Bool)
 | 0,_=>none
 | m+1,s1 =>
   if (decide (s1<(b.2.length:Int)))=true then
    QF b begun Il to many J8 s1 (fun _ =>
      aaU b begun Il to many J8 p4 m (w (s1+(1:Int)))) p6 (0:Int)
   else
    p4 ()
def ali (J8:p8→qc→Int→Int→Int→Option (qc×Bool)) (b:p8) (begun:qc) (Il to many:Int):Option (qc×Bool) :=
 if (decide (many=(0:Int)))=true then
  some (begun,(decide (Il=to)))
 else
  aaU b begun Il to many J8 (fun _ =>
    some ([],false)) p6 (0:Int)
def aaT:Nat→p8→qc→Int→Int→Int→Option (qc×Bool)
 | 0=>fun _ _ _ _ _=>none
 | m+1=>fun b begun Il to many=>ali (aaT m) b begun Il to many
def alh (b:p8) (begun:qc) (Il to many:Int):Option (qc×Bool):=aaT p6 b begun Il to many

def aap (b:p8) (HA to:Int) (p4:Unit→Option (qc×Int)):Nat→Int→Option (qc×Int)
 | 0,_=>none
 | m+1,s1 =>
   if (decide (s1<b.1))=true then
    (alh b [] HA to s1).bind fun eE =>
    if eE.2=true then
     some (eE.1,(0:Int))
    else
     aap b HA to p4 m (w (s1+(1:Int)))
   else
    p4 ()
def akI (b:p8) (HA to:Int):Option (qc×Int) :=
 (Hi b).bind fun aS =>
 if (decide (aS≠(0:Int)))=true then
  (Hi b).bind fun bk =>
  some ([],bk)
 else
  if (decide (HA<(0:Int)))=true then
   some ([],(2:Int))
  else
   if (decide (b.1≤HA))=true then
    some ([],(2:Int))
   else
    if (decide (to<(0:Int)))=true then
     some ([],(2:Int))
    else
     if (decide (b.1≤to))=true then
      some ([],(2:Int))
     else
      if (decide (HA=to))=true then
       some ([],(2:Int))
      else
       aap b HA to (fun _ =>
         some ([],(5:Int))) p6 (1:Int)

def aan (a b:qc) (p4:Unit→Option Bool):Nat→Int→Option Bool
 | 0,_=>none
 | m+1,s1 =>
   if (decide (s1<(a.length:Int)))=true then
    p2 (0≤s1∧s1<(a.length:Int)) <|
    p2 (0≤s1∧s1<(b.length:Int)) <|
    if (decide ((ix a s1)=(ix b s1)))=true then
     aan a b p4 m (w (s1+(1:Int)))
    else
     some false
   else
    p4 ()
def aam (a b:qc):Option Bool :=
 if (decide ((a.length:Int)≠(b.length:Int)))=true then
  some false
 else
  aan a b (fun _ =>
    some true) p6 (0:Int)

def M4 (b:p8) (HA to:Int):Option Bool :=
 (LW b).bind fun aS =>
 if aS=true then
  (IU).bind fun bk =>
  some bk
 else
  (akG b HA to).bind fun eE =>
  (akI b HA to).bind fun qp =>
  (aam eE.1 qp.1).bind fun rj =>
  if rj=true then
   if (decide (eE.2=qp.2))=true then
    (IU).bind fun G9 =>
    some G9
   else
    some false
  else
   some false
end Go.Proofs.YtfakoboiahbhaaaGreat.Ab


namespace Go.Proofs.YtfakoboiahbhaaaGreat.Ab
open Go
def alY (r:Row) (s:Int):Bool:=r.any fun q=>decide (q.1=s)
theorem Wq {b:p3} (p1:qH b) {wo to:Int} {D:List Int} (rb:Mt b wo to D):∀ (n:Nat) (f:Int),0≤f→f<b.1→ix D f=(n:Int)→∃ l:List Int,l.Nodup∧l.length=n+1∧∀ x∈l,0≤x∧x<b.1∧ix D x≤(n:Int)
 | 0,f,ad,af,h=>⟨[f],by simp,rfl,fun x al=>by simp only [sI] at al;subst al;exact ⟨ad,af,by omega⟩⟩
 | n+1,f,ad,af,h=>by
   have bX:=p1.f6;obtain ⟨p,bT,_,b6⟩:=agu p1 rb ⟨ad,by omega⟩ h;have aQ:=Pb p1 bT;obtain ⟨l,dK,kL,HU⟩:=Wq p1 rb n _ aQ.1 aQ.2 b6;refine ⟨f::l,tY.2 ⟨fun hm=>?_,dK⟩,by simp [kL],fun x al=>?_⟩
   ·have:=(HU f hm).2.2;omega
   ·rcases sf.1 al with e | e
    ·subst e;exact ⟨ad,af,by omega⟩
    ·have:=HU x e;exact ⟨this.1,this.2.1,by omega⟩
theorem aed {b:p3} (p1:qH b) {wo to f:Int} {D:List Int} (rb:Mt b wo to D) (ad:0≤f) (af:f<b.1):ix D f<b.1:=by
 rcases uo (ix D f) 0 with h | h
 ·omega
 ·obtain ⟨l,dK,kL,HU⟩:=Wq p1 rb (ix D f).toNat f ad af (by omega);have:=LM (n:=b.1.toNat) dK fun x al=>by have:=HU x al;omega
  omega
end Go.Proofs.YtfakoboiahbhaaaGreat.Ab


namespace Go.Proofs.YtfakoboiahbhaaaGreat.Ab
open Go
set_option maxRecDepth 20000
set_option maxHeartbeats 4000000
def O2:c9:={ ops:=[[{ takes:=[true] }],[],[],[{},{},{ takes:=[true] },{ takes:=[true,true] }],[{ takes:=[true] },{ takes:=[true] },{ takes:=[true] }],[{ takes:=[true] },{},{ takes:=[true] },{ takes:=[true,true],mode:=1 },{ takes:=[true] }],[],[{},{},{ takes:=[true] },{ takes:=[true,true] }],[{ takes:=[true] },{ takes:=[true] },{ takes:=[true] }],[],[{},{},{ takes:=[true] },{ takes:=[true] },{ takes:=[true,true] }],[{ takes:=[true] },{ takes:=[true] },{ takes:=[true] }],[{},{ takes:=[true] },{},{ takes:=[true,true] },{ takes:=[true] },{ takes:=[true] },{},{ takes:=[true] },{},{ takes:=[true,true] },{ takes:=[true] },{ takes:=[true] },{ takes:=[true] },{ takes:=[true] }],[{},{},{ takes:=[true,true] }],[{},{},{ takes:=[true,true] },{ takes:=[true] },{},{},{ takes:=[true,true] },{ takes:=[true] },{ takes:=[true,true] },{ takes:=[true] }],[{},{ takes:=[true] },{},{ takes:=[true,true] },{ takes:=[true,true] }],[{},{ takes:=[true] },{ takes:=[true] },{ takes:=[true,true] },{ takes:=[true,true] }],[{ takes:=[true],mode:=2 },{ takes:=[true] }]],h_:=[(0,(EA false [1,2,2,2,61])),(2,(EA false [1,2,2,1,1,1,60])),(4,(EA false [1,2,2,1,1,2,59]))] }
noncomputable def QX:ez :=
 .loop (some (EA false [1,2,2,2,61])) (.seq (GC [Gp 12 6,gO 13 [.sl 2] (.oT 0),Gm 14 13,F2 15 12 14 .lss] (.cond (.sl 15) .skip (.exit 0))) (.seq (.block 1 (Gt [Gq 18 5,Gp 19 6,gO 20 [.hM 19] (.ya 1 1 [.int .i64 0] [0]),gO 21 [.hJ 18,.hJ 20] (.x4 1 8),Gq 5 21])) (Gt [Gq 16 6,F0 17 16 1,Gq 6 17])))
noncomputable def QY:ez :=
 .loop (some (EA false [1,2,2,1,1,2,59])) (.seq (GC [Gp 28 8,gO 29 [.sl 2] (.oT 1),Gm 30 29,Gl 31 30,F2 32 28 31 .lss] (.cond (.sl 32) .skip (.exit 4))) (.seq (.block 5 (.seq (Gu [gO 35 [.sl 2] (.oT 1),Gm 36 35,Gp 37 8,Gi 38 36 37 2,F7 39 38 0,Gm 40 39,gO 41 [.sl 2] (.oT 1),Gm 42 41,Gp 43 8,Gi 44 42 43 2,F7 45 44 1,Gm 46 45,Gq 9 40,Gq 10 46]) (GC [Gp 47 8,Gp 48 1,F2 49 47 48 .neq] (.cond (.sl 49) (.seq (Gu [Gp 50 5,Gp 51 9,Gi 52 50 51 1,Gm 53 52,Gp 54 5,Gp 55 10,Gi 56 54 55 1,Gm 57 56,gO 58 [.hJ 53,.hJ 57] .min,Gq 11 58]) (GC [Gp 59 5,Gq 60 9,Gp 61 11,Gi 62 59 60 1,⟨none,[.hJ 62,.hJ 61],none,none,.st 1⟩] (Gt [Gp 63 5,Gq 64 10,Gq 65 11,Gi 66 63 64 1,⟨none,[.hJ 66,.hJ 65],none,none,.st 1⟩]))) .skip)))) (Gt [Gq 33 8,F0 34 33 1,Gq 8 34])))
noncomputable def QZ:ez :=
 .loop (some (EA false [1,2,2,1,1,1,60])) (.seq (GC [Gp 22 7,gO 23 [.sl 2] (.oT 0),Gm 24 23,F2 25 22 24 .lss] (.cond (.sl 25) .skip (.exit 2))) (.seq (.block 3 (GC [Gn 8 0] (.block 4 QY))) (Gt [Gq 26 7,F0 27 26 1,Gq 7 27])))
noncomputable def abm:ez :=
 GC [gO 2 [.hJ 0] .box, gO 4 [.iD (.ay [] 0 .full)] (.nil 1)] (GC [gO 5 [.iD (.ay [] 0 .full)] (.nil 1)] (.seq (GC [Gn 6 0] (.block 0 QX)) (.seq (GC [Gn 7 0] (.block 2 QZ)) (GC [⟨some 67, [.hJ 5], none, some 5, .other (Oper.mk (some 67) (Op.move (Operand.tmp 5)) 38 "ref.go:158" (Array.mk []) none) 2⟩, Gq 4 67] .ret))))
theorem af0:zg Tryz.prog O2 56=some (abm,68,[.tmp 4]):=by kernel_rfl
def Ma (b:p8) (p4:p0→Option p0):Nat→Int→p0→Option p0
 | 0,_,_=>none
 | m+1,s1,s2 =>
   if (decide (s1<b.1))=true then
    p2 ((s2.length+1)*8≤140737488355328) <|
    Ma b p4 m (w (s1+(1:Int))) (s2++[s1])
   else
    p4 s2
def Li (b:p8) (but:Int) (ra:p0→Option p0):Nat→Int→p0→Option p0
 | 0,_,_=>none
 | m+1,p_,ql =>
   if (decide (p_<(b.2.length:Int)))=true then
    p2 (0≤p_∧p_<(b.2.length:Int)) <|
    p2 (0≤p_∧p_<(b.2.length:Int)) <|
    if (decide (p_≠but))=true then
     p2 (0≤(ix b.2 p_).1∧(ix b.2 p_).1<(ql.length:Int)) <|
     p2 (0≤(ix b.2 p_).2∧(ix b.2 p_).2<(ql.length:Int)) <|
     p2 (0≤(ix b.2 p_).1∧(ix b.2 p_).1<(ql.length:Int)) <|
     p2 (0≤(ix b.2 p_).2∧(ix b.2 p_).2<((ql.set ((ix b.2 p_).1).toNat (min (ix ql ((ix b.2 p_).1)) (ix ql ((ix b.2 p_).2)))).length:Int)) <|
     Li b but ra m (w (p_+(1:Int))) ((ql.set ((ix b.2 p_).1).toNat (min (ix ql ((ix b.2 p_).1)) (ix ql ((ix b.2 p_).2)))).set ((ix b.2 p_).2).toNat (min (ix ql ((ix b.2 p_).1)) (ix ql ((ix b.2 p_).2))))
    else
     Li b but ra m (w (p_+(1:Int))) ql
   else
    ra ql
def Ke (b:p8) (but:Int) (qn:p0→Option p0):Nat→Int→p0→Option p0
 | 0,_,_=>none
 | m+1,s3,Gz =>
   if (decide (s3<b.1))=true then
    Li b but (fun oq =>
      Ke b but qn m (w (s3+(1:Int))) oq) p6 (0:Int) Gz
   else
    qn Gz
def M3 (b:p8) (but:Int):Option p0 :=
 if (decide ((0:Int)<b.1))=true then
  Ma b (fun x0 =>
    Ke b but (fun FX =>
      some FX) p6 (0:Int) x0) p6 (w ((0:Int)+(1:Int))) [(0:Int)]
 else
  none
theorem akO {b:p8} {p4:p0→Option p0} {s1:Int} {s2:p0} {but:Int} {v:p0} {Q:rm}   (qY:∀ (x0:p0) (q7:List au) (p9:List I),p4 x0=some v→qV 68 [(1,(hS but)),(2,(.ptr 0 0)),(5,(.cn (qg b::q7).length ((qg b::q7).length+1) x0.length 1))] p9→Q (.exit 0) p9 ((qg b::q7)++[au.grow (x0.map hS) ((qg b::q7).length+1) 1,au.dead])) {T:List I} (bZ:T=GH 68 [(1,(hS but)),(2,(.ptr 0 0)),(5,(.cn ([qg b]).length (([qg b]).length+1) s2.length 1)),(6,(hS s1))]) (h:Ma b p4 p6 s1 s2=some v) :
  Nc Tryz.prog O2 56 0 none QX T ((qg b::([]:List au))++[au.grow (s2.map hS) ((qg b::([]:List au)).length+1) 1,au.dead]) Q:=by
 subst bZ;refine .mk _ _ rfl (fun m T H=>∃ (s1:Int) (s2:p0) (Mv:List au),T=GH 68 [(1,(hS but)),(2,(.ptr 0 0)),(5,(.cn (qg b::Mv).length ((qg b::Mv).length+1) s2.length 1)),(6,(hS s1))]∧H=((qg b::Mv)++[au.grow (s2.map hS) ((qg b::Mv).length+1) 1,au.dead])∧Ma b p4 m s1 s2=some v) p6 (Nat.le_refl _) ⟨s1,s2,_,rfl,rfl,h⟩ ?_;clear h;rintro abX m T H ⟨s1,s2,Mv,rfl,rfl,h⟩ NH;cases m
 ·exact q4 h
 rename_i m;rw [Ma.eq_2] at h;conv=>whnf
 refine bs h (fun fl h=>?_) fun fl h=>?_
 ·rw [fl];conv=>whnf
  obtain ⟨qo,h⟩:=qw h;refine ⟨⟨rfl,by decide⟩,?_⟩;conv=>whnf
  refine DX (HH (qg b::Mv) _) ?_;conv=>whnf
  refine .inl ⟨⟨rfl,rfl,rfl,by simp,by decide,qo⟩,?_⟩;rw [Jw,VW];erw [VY hS s2 s1,VX s2 s1];conv=>whnf
  exact NH m _ _ (su m) ⟨(w (s1+(1:Int))),(s2++[s1]),_,rfl,rfl,h⟩
 ·rw [fl];conv=>whnf
  exact qY _ _ _ h ⟨rfl,rfl⟩
theorem akQ {b:p8} {but:Int} {ra:p0→Option p0} {p_:Int} {ql:p0} {s3:Int} {v:p0} {Q:rm}  {q7:List au} (LD:∀ (oq:p0) (p9:List I),ra oq=some v→qV 68 [(1,(hS but)),(2,(.ptr 0 0)),(5,(.cn (qg b::q7).length ((qg b::q7).length+1) oq.length 1)),(7,(hS s3))] p9→Q (.exit 4) p9 ((qg b::q7)++[au.grow (oq.map hS) ((qg b::q7).length+1) 1,au.dead])) {T:List I} (bZ:eS (EA false [1,2,2,1,1,2,59]) T=GH 68 [(1,(hS but)),(2,(.ptr 0 0)),(5,(.cn (qg b::q7).length ((qg b::q7).length+1) ql.length 1)),(7,(hS s3)),(8,(hS p_))]) (h:Li b but ra p6 p_ ql=some v) :
  dC Tryz.prog O2 56 0 none QY T ((qg b::q7)++[au.grow (ql.map hS) ((qg b::q7).length+1) 1,au.dead]) Q:=by
 unfold QY;refine wp_loop bZ ?_;refine .intro (fun m T H=>∃ (p_:Int) (ql:p0),T=GH 68 [(1,(hS but)),(2,(.ptr 0 0)),(5,(.cn (qg b::q7).length ((qg b::q7).length+1) ql.length 1)),(7,(hS s3)),(8,(hS p_))]∧H=((qg b::q7)++[au.grow (ql.map hS) ((qg b::q7).length+1) 1,au.dead])∧Li b but ra m p_ ql=some v) p6 ⟨p_,ql,rfl,rfl,h⟩ ?_;clear h bZ;rintro m T H ⟨p_,ql,rfl,rfl,h⟩;cases m
 ·exact q4 h
 rename_i m;rw [Li.eq_2] at h;conv=>whnf
 refine bs h (fun qG h=>?_) fun qG h=>?_
 ·rw [qG];conv=>whnf
  refine qy h id fun qZ h=>?_;rw [qR p7 2 qK b.2 p_ qZ];conv=>whnf
  refine qy h id fun qT h=>?_;rw [qR p7 2 qK b.2 p_ qT];conv=>whnf
  refine bs h (fun qO h=>?_) fun qO h=>?_
  ·rw [qO];(conv=>whnf);obtain ⟨q5,h⟩:=qw h;refine ⟨q5,?_⟩;(conv=>whnf);refine DX (HH (qg b::q7) _) ?_;(conv=>whnf);refine Js hS ql ((ix b.2 p_).1) q5 ?_;(conv=>whnf);obtain ⟨q2,h⟩:=qw h;refine ⟨q2,?_⟩;(conv=>whnf);refine DX (HH (qg b::q7) _) ?_;(conv=>whnf);refine Js hS ql ((ix b.2 p_).2) q2 ?_;(conv=>whnf);obtain ⟨rM,h⟩:=qw h;refine ⟨rM,?_⟩;(conv=>whnf);refine DX (HH (qg b::q7) _) ?_;(conv=>whnf);refine Jx hS ql ((ix b.2 p_).1) (min (ix ql ((ix b.2 p_).1)) (ix ql ((ix b.2 p_).2))) rM ?_;rw [Jw,show ql.length=(ql.set ((ix b.2 p_).1).toNat (min (ix ql ((ix b.2 p_).1)) (ix ql ((ix b.2 p_).2)))).length from (tz ..).symm];(conv=>whnf);obtain ⟨ry,h⟩:=qw h;refine ⟨ry,?_⟩;(conv=>whnf);refine DX (HH (qg b::q7) _) ?_;(conv=>whnf);refine Jx hS (ql.set ((ix b.2 p_).1).toNat (min (ix ql ((ix b.2 p_).1)) (ix ql ((ix b.2 p_).2)))) ((ix b.2 p_).2) (min (ix ql ((ix b.2 p_).1)) (ix ql ((ix b.2 p_).2))) ry ?_;rw [Jw,show (ql.set ((ix b.2 p_).1).toNat (min (ix ql ((ix b.2 p_).1)) (ix ql ((ix b.2 p_).2)))).length=((ql.set ((ix b.2 p_).1).toNat (min (ix ql ((ix b.2 p_).1)) (ix ql ((ix b.2 p_).2)))).set ((ix b.2 p_).2).toNat (min (ix ql ((ix b.2 p_).1)) (ix ql ((ix b.2 p_).2)))).length from (tz ..).symm];(conv=>whnf);exact ⟨m,su m,(w (p_+(1:Int))),((ql.set ((ix b.2 p_).1).toNat (min (ix ql ((ix b.2 p_).1)) (ix ql ((ix b.2 p_).2)))).set ((ix b.2 p_).2).toNat (min (ix ql ((ix b.2 p_).1)) (ix ql ((ix b.2 p_).2)))),rfl,rfl,h⟩
  ·rw [qO];(conv=>whnf);exact ⟨m,su m,(w (p_+(1:Int))),ql,rfl,rfl,h⟩
 ·rw [qG];conv=>whnf
  exact LD _ _ h ⟨rfl,rfl⟩
theorem akP {b:p8} {but:Int} {qn:p0→Option p0} {s3:Int} {Gz:p0} {v:p0} {Q:rm}  {q7:List au} (HT:∀ (FX:p0) (bC:au) (p9:List I),qn FX=some v→qV 68 [(5,(.cn (bC::q7).length ((bC::q7).length+1) FX.length 1))] p9→Q (.exit 2) p9 ((bC::q7)++[au.grow (FX.map hS) ((bC::q7).length+1) 1,au.dead])) {T:List I} (bZ:eS (EA false [1,2,2,1,1,1,60]) T=GH 68 [(1,(hS but)),(2,(.ptr 0 0)),(5,(.cn (qg b::q7).length ((qg b::q7).length+1) Gz.length 1)),(7,(hS s3))]) (h:Ke b but qn p6 s3 Gz=some v) :
  dC Tryz.prog O2 56 0 none QZ T ((qg b::q7)++[au.grow (Gz.map hS) ((qg b::q7).length+1) 1,au.dead]) Q:=by
 unfold QZ;obtain ⟨Ko,rT⟩:∃ c,QY=c:=⟨_,rfl⟩;rw [rT];refine wp_loop bZ ?_;refine .intro (fun m T H=>∃ (s3:Int) (Gz:p0),T=GH 68 [(1,(hS but)),(2,(.ptr 0 0)),(5,(.cn (qg b::q7).length ((qg b::q7).length+1) Gz.length 1)),(7,(hS s3))]∧H=((qg b::q7)++[au.grow (Gz.map hS) ((qg b::q7).length+1) 1,au.dead])∧Ke b but qn m s3 Gz=some v) p6 ⟨s3,Gz,rfl,rfl,h⟩ ?_;clear h bZ;rintro m T H ⟨s3,Gz,rfl,rfl,h⟩;cases m
 ·exact q4 h
 rename_i m;rw [Ke.eq_2] at h;conv=>whnf
 refine bs h (fun qC h=>?_) fun qC h=>?_
 ·rw [qC];conv=>whnf
  subst rT;refine akQ ?_ (by exact rfl) h;intro oq p9 h qs;obtain ⟨ru,rfl⟩:=qs.ex;conv=>whnf
  exact ⟨m,su m,(w (s3+(1:Int))),oq,rfl,rfl,h⟩
 ·rw [qC];conv=>whnf
  exact HT _ _ _ h ⟨rfl,rfl⟩
theorem aaw {b:p8} {but:Int} {v:p0} (h:M3 b but=some v):qt 56 [(.agg [(hS b.1),(.ay (b.2.flatMap p7) b.2.length .shared)]),(hS but)] (.ay (v.map hS) v.length .shared):=by
 refine qN dI af0 rfl (rz (fun _=>rfl) _ _ _) fun Q bn=>?_;have jz:qD [.tmp 4] Q (fun v=>(qj v .shared)) v:=fun T H bK=>bn _ T H bK;unfold M3 at h;unfold abm;obtain ⟨Hy,qB⟩:∃ c,QX=c:=⟨_,rfl⟩;rw [qB];obtain ⟨O8,Iq⟩:∃ c,QZ=c:=⟨_,rfl⟩;rw [Iq];conv=>whnf
 subst qB;refine ZV (rc:=QX) rfl (by exact rfl) ?_;intro abW RP;conv=>whnf
 refine bs h (fun eV h=>?_) fun eV h=>?_
 ·rw [eV];conv=>whnf
  refine ⟨⟨rfl,by decide⟩,?_⟩;conv=>whnf
  refine ⟨⟨rfl,by decide,by decide⟩,?_⟩;conv=>whnf
  refine RP _ _ ?_;refine akO ?_ (by exact rfl) h;intro x0 q7 p9 h qs;obtain ⟨ru,rfl⟩:=qs.ex;conv=>whnf
  subst Iq;refine akP ?_ (by exact rfl) h;intro FX bC p9 h qs;obtain ⟨ru,rfl⟩:=qs.ex;conv=>whnf
  refine ⟨_,_,fun C=>RH rfl (si _) (HH (bC::q7) _) (by simp),?_⟩;rw [Qp (fun _=>rfl),Jw];conv=>whnf
  exact qd h jz rfl rfl
 ·rw [eV];conv=>whnf
  exact q4 h
end Go.Proofs.YtfakoboiahbhaaaGreat.Ab


namespace Go.Proofs.YtfakoboiahbhaaaGreat.Ab
open Go
def GM (b:p3) (wo f g:Int):Prop:=∃ n,GV b wo n f g
theorem GV.trans {b:p3} {wo:Int}:∀ {n m:Nat} {a c g:Int},GV b wo n a c→GV b wo m c g→GV b wo (n+m) a g
 | n,0,a,c,g,h,(k:c=g)=>k ▸ h
 | n,m+1,a,c,g,h,⟨f,aJ,aP⟩=>⟨f,GV.trans h aJ,aP⟩
theorem GM.refl {b:p3} {wo:Int} (f:Int):GM b wo f f:=⟨0,rfl⟩
theorem GM.symm {b:p3} {wo f g:Int} (h:GM b wo f g):GM b wo g f:=h.elim fun n h=>⟨n,h.symm⟩
theorem GM.trans {b:p3} {wo f g h:Int} (ad:GM b wo f g) (af:GM b wo g h):GM b wo f h:=by
 obtain ⟨n,ad⟩:=ad;obtain ⟨m,af⟩:=af;exact ⟨n+m,ad.trans af⟩
theorem Hm.Nk {b:p3} {wo f g:Int} (h:Hm b wo f g):GM b wo f g:=⟨1,f,rfl,h⟩
theorem Hm.of {b:p3} {wo:Int} {i:Nat} (hi:i<b.2.length) (hw:(i:Int)≠wo):Hm b wo (ix b.2 (i:Int)).1 (ix b.2 (i:Int)).2 :=
 ⟨((i:Int),0),Kx.2 ⟨by simp only;omega,by simp only;omega,by simp only;omega,by simp only;omega,rfl⟩,hw,rfl⟩
theorem Hm.qW {b:p3} {wo f g:Int} (h:Hm b wo f g):∃ i:Nat,i<b.2.length∧(i:Int)≠wo∧(((ix b.2 (i:Int)).1=f∧(ix b.2 (i:Int)).2=g)∨((ix b.2 (i:Int)).2=f∧(ix b.2 (i:Int)).1=g)):=by
 obtain ⟨p,ad,af,aG⟩:=h;have aC:=Kx.1 ad;refine ⟨p.1.toNat,by omega,by omega,?_⟩;rw [tK aC.1];have a7:=aC.2.2.2.2;unfold qz at a7;unfold fin at aG;by_cases ao:0<p.2
 ·rw [if_pos ao] at a7 aG;exact .inr ⟨a7,aG⟩
 ·rw [if_neg ao] at a7 aG;exact .inl ⟨a7,aG⟩
theorem GM.short {b:p3} (p1:qH b) {wo f g:Int} (aO:0≤g∧g<b.1) (aQ:0≤f∧f<b.1) (h:GM b wo f g):∃ n:Nat,(n:Int)<b.1∧GV b wo n f g:=by
 obtain ⟨D,_,rb⟩:=aaL p1 (wo:=wo) aO;obtain ⟨n,h⟩:=h;have ak:=rb.least n f h.symm;have bX:=p1.f6;have aV:=aed p1 rb aQ.1 aQ.2;have hw:=rb.walk f.toNat (by omega) (by rw [tK aQ.1];exact ak.2.2.1);rw [tK aQ.1] at hw;exact ⟨(ix D f).toNat,by omega,hw.symm⟩
theorem Ka {b:p3} (p1:qH b) {i:Nat} (hi:i<b.2.length):0≤(ix b.2 (i:Int)).1∧(ix b.2 (i:Int)).1<b.1∧0≤(ix b.2 (i:Int)).2∧(ix b.2 (i:Int)).2<b.1:=by
 have hm:=PC (l:=b.2) (i:=(i:Int)) ⟨by omega,by omega⟩;have ad:=p1.left _ hm;have af:=p1.right _ hm;exact ⟨ad.1,ad.2,af.1,af.2⟩
def upto (n:Nat):List Int:=(List.range n).map fun (j:Nat)=>(j:Int)
theorem Hw (n:Nat):(upto n).length=n:=by simp [upto]
theorem Zx {n j:Nat} (h:j<n):ix (upto n) (j:Int)=(j:Int):=by
 rw [q_ (by rw [Hw];exact h)];simp [upto]
theorem Oo (n:Nat):upto (n+1)=upto n++[(n:Int)]:=by simp [upto,List.range_succ]
theorem aau {b:p3} (bX:b.1≤6) {k:List Int→Option (List Int)}:∀ (m i:Nat) (z:Int),z=i→(i:Int)≤b.1→b.1.toNat-i<m→Ma b k m z (upto i)=k (upto b.1.toNat)
 | 0,i,_,_,_,h=>absurd h (by omega)
 | m+1,i,_,rfl,hi,hm=>by
   rw [Ma];by_cases h:(i:Int)<b.1
   ·rw [if_pos (decide_eq_true h),qb (by rw [Hw];omega),re i (by omega),←Oo];exact aau bX m (i+1) _ rfl (by omega) (by omega)
   ·rw [if_neg (by simpa using h),show i=b.1.toNat by omega]
structure NI (b:p3) (wo:Int) (S:List Int):Prop where
 len:S.length=b.1.toNat
 IY:∀ f:Int,0≤f→f<b.1→GM b wo f (ix S f)∧0≤ix S f∧ix S f<b.1
structure Nd (b:p3) (wo:Int) (S0:List Int) (i:Nat) (S:List Int):Prop extends NI b wo S where
 mono:∀ f:Int,0≤f→f<b.1→ix S f≤ix S0 f
 done:∀ j:Nat,j<i→(j:Int)≠wo→ix S (ix b.2 (j:Int)).1≤ix S0 (ix b.2 (j:Int)).2∧ix S (ix b.2 (j:Int)).2≤ix S0 (ix b.2 (j:Int)).1
theorem afj {S:List Int} {x y f v:Int} (al:0≤x∧x<(S.length:Int)) (a1:0≤y∧y<(S.length:Int)) (aQ:0≤f∧f<(S.length:Int)):ix ((S.set x.toNat v).set y.toNat v) f=if f=x∨f=y then v else ix S f:=by
 obtain ⟨a,rfl⟩:∃ a:Nat,x=(a:Int):=⟨x.toNat,by omega⟩;obtain ⟨c,rfl⟩:∃ c:Nat,y=(c:Int):=⟨y.toNat,by omega⟩;obtain ⟨e,rfl⟩:∃ e:Nat,f=(e:Int):=⟨f.toNat,by omega⟩;rw [ti,ti];by_cases ad:e=c
 ·subst ad;rw [LH (by simp;omega),if_pos (.inr rfl)]
 ·rw [J4 ad];by_cases af:e=a
  ·subst af;rw [LH (by omega),if_pos (.inl rfl)]
  ·rw [J4 af,if_neg (by omega)]
theorem Nd.step {b:p3} (p1:qH b) {wo:Int} {S0 S:List Int} {i:Nat} (h:Nd b wo S0 i S) (hi:i<b.2.length) (hw:(i:Int)≠wo) :
  Nd b wo S0 (i+1) ((S.set (ix b.2 (i:Int)).1.toNat (min (ix S (ix b.2 (i:Int)).1) (ix S (ix b.2 (i:Int)).2))).set (ix b.2 (i:Int)).2.toNat (min (ix S (ix b.2 (i:Int)).1) (ix S (ix b.2 (i:Int)).2))):=by
 have ai:=Ka p1 hi;have he:=Hm.of hi hw;obtain ⟨x,al⟩:∃ x,x=(ix b.2 (i:Int)).1:=⟨_,rfl⟩;obtain ⟨y,a1⟩:∃ y,y=(ix b.2 (i:Int)).2:=⟨_,rfl⟩;rw [←al,←a1] at ai he;rw [←al,←a1];have ak:=h.len;have Pv:∀ f:Int,0≤f→f<b.1→_:=fun f ad af=>afj (S:=S) (x:=x) (y:=y) (f:=f) (v:=min (ix S x) (ix S y)) ⟨ai.1,by omega⟩ ⟨ai.2.2.1,by omega⟩ ⟨ad,by omega⟩;have R0:=h.IY x ai.1 ai.2.1;have R1:=h.IY y ai.2.2.1 ai.2.2.2;have hle:∀ f:Int,0≤f→f<b.1→ix ((S.set x.toNat (min (ix S x) (ix S y))).set y.toNat (min (ix S x) (ix S y))) f≤ix S f:=fun f ad af=>by
  rw [Pv f ad af];split
  ·rename_i e;rcases e with rfl | rfl <;> omega
  ·exact uw _
 refine ⟨⟨by simpa using ak,fun f ad af=>?_⟩,fun f ad af=>uY (hle f ad af) (h.mono f ad af),fun j aw R7=>?_⟩
 ·rw [Pv f ad af];split
  ·rename_i e;rcases Int.le_total (ix S x) (ix S y) with hm | hm
   ·rw [Int.min_eq_left hm];refine ⟨?_,R0.2⟩;rcases e with rfl | rfl
    ·exact R0.1
    ·exact he.symm.Nk.trans R0.1
   ·rw [Int.min_eq_right hm];refine ⟨?_,R1.2⟩;rcases e with rfl | rfl
    ·exact he.Nk.trans R1.1
    ·exact R1.1
  ·exact h.IY f ad af
 ·have ee:j<i∨j=i:=by omega
  rcases ee with ee | rfl
  ·have MI:=Ka p1 (i:=j) (by omega);obtain ⟨d1,d2⟩:=h.done j ee R7;exact ⟨uY (hle _ MI.1 MI.2.1) d1,uY (hle _ MI.2.2.1 MI.2.2.2) d2⟩
  ·rw [←al,←a1,Pv x ai.1 ai.2.1,Pv y ai.2.2.1 ai.2.2.2,if_pos (.inl rfl),if_pos (.inr rfl)];have df:=h.mono x ai.1 ai.2.1;have dg:=h.mono y ai.2.2.1 ai.2.2.2;omega
theorem UF {b:p3} (p1:qH b) {wo:Int} {S0:List Int} {k:List Int→Option (List Int)}:∀ (m i:Nat) (z:Int) (S:List Int),z=i→i≤b.2.length→b.2.length-i<m→Nd b wo S0 i S →
  ∃ S',Nd b wo S0 b.2.length S'∧Li b wo k m z S=k S'
 | 0,i,_,_,_,_,h,_=>absurd h (by omega)
 | m+1,i,_,S,rfl,hi,hm,h=>by
   have ak:=p1.len;rw [Li];by_cases aV:i<b.2.length
   ·have ai:=Ka p1 aV;have C':=h.len;rw [I5 aV,Hp aV,Hp aV];by_cases hw:(i:Int)≠wo
    ·rw [if_pos (decide_eq_true hw),qb ⟨ai.1,by omega⟩,qb ⟨ai.2.2.1,by omega⟩,qb ⟨ai.1,by omega⟩,qb ⟨ai.2.2.1,by rw [tz];omega⟩,re i (by omega)];exact UF p1 m (i+1) _ _ rfl (by omega) (by omega) (h.step p1 aV hw)
    ·rw [if_neg (by simpa using hw),re i (by omega)];exact UF p1 m (i+1) _ _ rfl (by omega) (by omega) ⟨h.toNI,h.mono,fun j aw R7=>h.done j (by omega) R7⟩
   ·rw [I4 aV];(obtain rfl:i=b.2.length:=by omega);exact ⟨S,h,rfl⟩
theorem aav {b:p3} (p1:qH b) {wo:Int} {k:List Int→Option (List Int)}:∀ (m r:Nat) (z:Int) (S:List Int),z=r→(r:Int)≤b.1→b.1.toNat-r<m→NI b wo S→(∀ (n:Nat) (f g:Int),n≤r→0≤f→f<b.1→GV b wo n f g→ix S f≤g) →
  ∃ S',NI b wo S'∧(∀ (n:Nat) (f g:Int),(n:Int)≤b.1→0≤f→f<b.1→GV b wo n f g→ix S' f≤g)∧Ke b wo k m z S=k S'
 | 0,i,_,_,_,_,h,_,_=>absurd h (by omega)
 | m+1,r,_,S,rfl,aj,hm,h,hw=>by
   have bX:=p1.f6;rw [Ke];by_cases aV:(r:Int)<b.1
   ·rw [if_pos (decide_eq_true aV)];obtain ⟨S',d1,d2⟩:=UF p1 (wo:=wo) (S0:=S) (k:=fun oq=>Ke b wo k m (w ((r:Int)+(1:Int))) oq) p6 0 0 S rfl (si _) (rq (by have:=p1.len;omega)) ⟨h,fun _ _ _=>uw _,fun j aw=>absurd aw (by omega)⟩;rw [d2,re r (by omega)];refine aav p1 m (r+1) _ S' rfl (by omega) (by omega) d1.toNI fun n f g aN ad af Kv=>?_;cases n with
    | zero =>
      have e:f=g:=Kv;subst e;have:=hw 0 f f (by omega) ad af rfl;have:=d1.mono f ad af;omega
    | succ n =>
      obtain ⟨c,he,ao⟩:=Kv.gN;have WT:=Hm.in p1 he;have:=hw n c g (by omega) WT.1 WT.2 ao;obtain ⟨i,i1,i2,i3⟩:=he.qW;obtain ⟨e1,cm⟩:=d1.done i i1 i2;rcases i3 with ⟨rfl,rfl⟩ | ⟨rfl,rfl⟩ <;> omega
   ·rw [if_neg (by simpa using aV)];exact ⟨S,h,fun n f g aN ad af Kv=>hw n f g (by omega) ad af Kv,rfl⟩
structure OX (b:p3) (wo:Int) (N:List Int):Prop extends NI b wo N where
 least:∀ f g:Int,0≤f→f<b.1→0≤g→g<b.1→GM b wo f g→ix N f≤g
theorem aat {b:p3} (p1:qH b) (wo:Int):∃ N,M3 b wo=some N∧OX b wo N:=by
 have bX:=p1.f6;have ad:=p1.f1
 have B_:NI b wo (upto b.1.toNat):=⟨Hw _,fun f Ku Cp=>by
  obtain ⟨a,rfl⟩:∃ a:Nat,f=(a:Int):=⟨f.toNat,by omega⟩
  rw [Zx (by omega)];exact ⟨GM.refl _,Ku,Cp⟩⟩
 obtain ⟨S',d1,d2,d3⟩:=aav p1 (wo:=wo) (k:=fun FX=>some FX) p6 0 0 (upto b.1.toNat) rfl (by omega) (rq (by omega)) B_ (fun n f g aN Ku Cp Kv=>by
  obtain rfl:n=0:=by omega
  have e:f=g:=Kv;subst e;obtain ⟨a,rfl⟩:∃ a:Nat,f=(a:Int):=⟨f.toNat,by omega⟩
  rw [Zx (by omega)];exact uw _)
 refine ⟨S',?_,d1,fun f g f1 f2 cd b_ ao=>?_⟩
 ·rw [M3,if_pos (decide_eq_true (by omega))];have:=aau bX (k:=fun x0=>Ke b wo (fun FX=>some FX) p6 (0:Int) x0) p6 1 1 rfl (by omega) (rq (by omega));rw [show upto 1=[(0:Int)] from rfl] at this;rw [show w ((0:Int)+(1:Int))=1 from rfl,this,d3]
 ·obtain ⟨n,aN,Kv⟩:=ao.short p1 ⟨cd,b_⟩ ⟨f1,f2⟩;exact d2 n f g (by omega) f1 f2 Kv
theorem OX.iff {b:p3} {wo:Int} {N:List Int} (h:OX b wo N) {f g:Int} (aQ:0≤f∧f<b.1) (aO:0≤g∧g<b.1):ix N f=ix N g↔GM b wo f g:=by
 have a:=h.IY f aQ.1 aQ.2;have c:=h.IY g aO.1 aO.2;refine ⟨fun e=>a.1.trans (by rw [e];exact c.1.symm),fun e=>?_⟩;have dK:=h.least f (ix N g) aQ.1 aQ.2 c.2.1 c.2.2 (e.trans c.1);have kL:=h.least g (ix N f) aO.1 aO.2 a.2.1 a.2.2 (e.symm.trans a.1);omega
end Go.Proofs.YtfakoboiahbhaaaGreat.Ab


namespace Go.Proofs.YtfakoboiahbhaaaGreat.Ab
open Go
theorem Ue:∀ {a b:List Int},a.Pairwise (·<·)→b.Pairwise (·<·)→(∀ x,x∈a↔x∈b)→a=b
 | [],[],_,_,_=>rfl
 | [],y::b,_,_,h=>by have:=(h y).2 (by simp);simp at this
 | x::a,[],_,_,h=>by have:=(h x).1 (by simp);simp at this
 | x::a,y::b,cg,ag,h=>by
   obtain ⟨aB,aH⟩:=tx.1 cg;obtain ⟨bq,cK⟩:=tx.1 ag;have Ib:x=y:=by
    rcases sf.1 ((h x).1 (by simp)) with e | e
    ·exact e
    ·rcases sf.1 ((h y).2 (by simp)) with cm | cm
     ·exact cm.symm
     ·have:=aB y cm;have:=bq x e;omega
   subst Ib;rw [Ue aH cK fun z=>?_];constructor
   ·intro bo;rcases sf.1 ((h z).1 (by simp [bo])) with e | e
    ·have:=aB z bo;omega
    ·exact e
   ·intro bo;rcases sf.1 ((h z).2 (by simp [bo])) with e | e
    ·have:=bq z bo;omega
    ·exact e
theorem Oh {α:Type} [Inhabited α] {lt:α→α→Bool} (ai:Sort.SWO lt) (l:List α):((Sort.insertionSort lt l.toArray 0 l.length).toList).Perm l∧((Sort.insertionSort lt l.toArray 0 l.length).toList).Pairwise (fun x y=>lt y x=false):=by
 obtain ⟨⟨ad,_,aG⟩,a7⟩:=Sort.insertionSort_holds (lt:=lt) ai l.toArray 0 l.length (si _) (by simp);generalize Sort.insertionSort lt l.toArray 0 l.length=d at ad aG a7;have ad:d.size=l.length:=by simpa using ad
 have e1:(d.extract 0 l.length).toList=d.toList:=by rw [←ad];simp
 have cm:(l.toArray.extract 0 l.length).toList=l:=by simp
 rw [e1,cm] at aG;refine ⟨aG,tc.2 fun i j hi aw gZ=>?_⟩;have hi':i<d.size:=by simpa using hi
 have ee:j<d.size:=by simpa using aw
 have:=a7 i j (si _) gZ (by omega);rw [getElem!_pos d i hi',getElem!_pos d j ee] at this;simpa using this
theorem YS (l:List Int):(rK l).Perm l:=(Oh Sort.swo_ltInt l).1
theorem ain {l:List Int} (h:l.Nodup):(rK l).Pairwise (·<·):=by
 have aQ:=Oh Sort.swo_ltInt l;have aN:(rK l).Nodup:=aQ.1.nodup_iff.2 h;refine tc.2 fun i j hi aw gZ=>?_;have ad:=tc.1 aQ.2 i j hi aw gZ;have af:=tc.1 aN i j hi aw gZ;simp only [Sort.ltInt,decide_eq_false_iff_not] at ad;have ad:¬ (rK l)[j]<(rK l)[i]:=ad;omega
theorem YY:Sort.SWO HR:=by
 constructor
 all_goals intros
 all_goals simp only [HR,decide_eq_true_eq,decide_eq_false_iff_not] at *
 all_goals omega
theorem ait (l:List (List Int)):(Iu l).Perm l:=(Oh YY l).1
theorem aiu {l:List (List Int)} (h:l.Pairwise fun x y=>ix x 0≠ix y 0):(Iu l).Pairwise fun x y=>ix x 0<ix y 0:=by
 have aQ:=Oh YY l;have aN:(Iu l).Pairwise fun x y=>ix x 0≠ix y 0:=aQ.1.symm.pairwise h fun {x y} Ib=>Ne.symm Ib;refine tc.2 fun i j hi aw gZ=>?_;have ad:=tc.1 aQ.2 i j hi aw gZ;have af:=tc.1 aN i j hi aw gZ;simp only [HR,decide_eq_false_iff_not] at ad;have ad:¬ ix (Iu l)[j] 0<ix (Iu l)[i] 0:=ad;omega
theorem YE:∀ {P Q:List (List Int)},P.Pairwise (fun x y=>ix x 0<ix y 0)→Q.Pairwise (fun x y=>ix x 0<ix y 0)→(∀ r,r∈P↔r∈Q)→P=Q
 | [],[],_,_,_=>rfl
 | [],y::b,_,_,h=>by have:=(h y).2 (by simp);simp at this
 | x::a,[],_,_,h=>by have:=(h x).1 (by simp);simp at this
 | x::a,y::b,cg,ag,h=>by
   obtain ⟨aB,aH⟩:=tx.1 cg;obtain ⟨bq,cK⟩:=tx.1 ag;have Ib:x=y:=by
    rcases sf.1 ((h x).1 (by simp)) with e | e
    ·exact e
    ·rcases sf.1 ((h y).2 (by simp)) with cm | cm
     ·exact cm.symm
     ·have:=aB y cm;have:=bq x e;omega
   subst Ib;rw [YE aH cK fun z=>?_];constructor
   ·intro bo;rcases sf.1 ((h z).1 (by simp [bo])) with e | e
    ·subst e;have:=aB z bo;omega
    ·exact e
   ·intro bo;rcases sf.1 ((h z).2 (by simp [bo])) with e | e
    ·subst e;have:=bq z bo;omega
    ·exact e
end Go.Proofs.YtfakoboiahbhaaaGreat.Ab
