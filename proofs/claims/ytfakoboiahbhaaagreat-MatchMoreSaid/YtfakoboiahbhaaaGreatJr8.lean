
import Derived.Test.YtfakoboiahbhaaaGreatJr5
import Derived.KernelRfl
import Derived.Test.YtfakoboiahbhaaaGreatJr6
import Derived.Test.YtfakoboiahbhaaaGreatJr7
import Derived.Test.YtfakoboiahbhaaaGreatJr4
set_option linter.unusedSimpArgs false
set_option linter.unusedVariables false
set_option linter.unusedSectionVars false

open Bool renaming false_or→u5,or_eq_true→tH,or_false→wa,true_or→wb
open Decidable renaming not_not→uJ
open Int renaming le_trans→vn,lt_or_le→uK,toNat_natCast→th,toNat_of_nonneg→uj
open List renaming any_cons→uy,any_eq_false→uz,any_eq_true→uU,any_nil→v_,append_assoc→sj,drop_eq_getElem_cons→sT,drop_eq_nil_of_le→tb,drop_zero→sO,filter_cons→tc,flatten_cons→tI,getD_eq_getElem?_getD→sG,getElem?_append→sc,getElem?_eq_getElem→sq,getElem?_set_ne→si,getElem_mem→sE,getElem_replicate→we,length_append→sm,length_cons→sH,length_pos_of_mem→wc,map_cons→se,mem_append→sS,mem_cons→sk,mem_filter→sM,mem_flatten→tT,mem_map→ss,mem_range→sJ,mem_singleton→sB,nil_append→tW,nodup_append→ua,nodup_cons→uh,pairwise_append→u6,pairwise_cons→tg,pairwise_iff_getElem→ti,take_zero→tf
open Nat renaming lt_succ_self→sv,zero_le→sr
open Option renaming bind_some→r_
namespace Go.Proofs.YtfakoboiahbhaaaGreat.Ab
open Go
def aJ:qs:=.pure 18 [.agg [.int .i64 4,.ay [.int .i64 0,.int .i64 1,.int .i64 1,.int .i64 2,.int .i64 2,.int .i64 0,.int .i64 2,.int .i64 3] 4 .shared],.ay [.int .i64 1,.int .i64 1,.int .i64 0,.int .i64 1,.int .i64 2,.int .i64 1,.int .i64 3,.int .i64 0] 4 .shared] (.tuple [.int .i64 2,.int .i64 3,.int .i64 0])
def aP:qs:=.pure 22 [.agg [.int .i64 4,.ay [.int .i64 0,.int .i64 1,.int .i64 1,.int .i64 2,.int .i64 2,.int .i64 0,.int .i64 2,.int .i64 3] 4 .shared],.ay [.int .i64 1,.int .i64 1,.int .i64 0,.int .i64 1,.int .i64 2,.int .i64 1,.int .i64 3,.int .i64 0] 4 .shared] (.int .i64 27)
def cj:qs:=.pure 27 [.agg [.int .i64 5,.ay [.int .i64 0,.int .i64 1,.int .i64 2,.int .i64 3,.int .i64 4,.int .i64 4] 3 .shared]] (.tuple [.ay [.int .i64 0,.int .i64 1,.int .i64 2,.int .i64 3] 4 .full,.int .i64 0])
def jO:qs:=.pure 29 [.agg [.int .i64 4,.ay [.int .i64 0,.int .i64 1,.int .i64 1,.int .i64 2,.int .i64 2,.int .i64 0,.int .i64 2,.int .i64 3] 4 .shared]] (.tuple [.ay [.ay [.int .i64 0,.int .i64 1,.int .i64 2,.int .i64 3] 4 .shared] 1 .shared,.int .i64 0])
def Df:qs:=.pure 35 [.agg [.int .i64 4,.ay [.int .i64 0,.int .i64 1,.int .i64 1,.int .i64 2,.int .i64 2,.int .i64 0,.int .i64 2,.int .i64 3] 4 .shared]] (.tuple [.int .i64 1,.int .i64 0])
def KU:qs:=.pure 35 [.agg [.int .i64 2,.ay [.int .i64 0,.int .i64 1,.int .i64 1,.int .i64 0] 2 .shared]] (.tuple [.int .i64 1,.int .i64 0])
end Go.Proofs.YtfakoboiahbhaaaGreat.Ab


namespace Go.Proofs.YtfakoboiahbhaaaGreat.Ab
open Go
def Zk:List qs:=[bC,bT,rR,I4,Mi,Ze,Zf,Zg,Zh,Y2,Y3,Y4,Y5,Y6,Y7,Y8,Y9,Y_,Y',Za,Zb,Zc,Zd]
theorem aja:∀ e∈Zk,qE Go.Proofs.Tryz.prog e:=by
 simp only [Zk,List.forall_mem_cons];exact ⟨aiX,ai2,ai3,ai4,ai5,ai6,ai7,ai8,ai9,aiN,aiO,aiP,aiQ,aiR,aiS,aiT,aiU,aiV,aiW,aiY,aiZ,ai0,ai1,by simp⟩
abbrev abg:Prop:=qg 17 [] (B true)
theorem ajb:abg:=GN aja (by kernel_rfl)
end Go.Proofs.YtfakoboiahbhaaaGreat.Ab


namespace Go.Proofs.YtfakoboiahbhaaaGreat.Ab
open Go
def Iz:Option Bool:=some true
theorem Kn {v:Bool} (h:Iz=some v):qg 17 [] (B v):=by
 obtain rfl:=Option.some.inj h;exact ajb
end Go.Proofs.YtfakoboiahbhaaaGreat.Ab


namespace Go.Proofs.YtfakoboiahbhaaaGreat.Ab
open Go
set_option maxRecDepth 20000
set_option maxHeartbeats 4000000
noncomputable def aay:eA :=
 Gx [gO 1 [.hI 0] .box,gO 2 [.iC (.bool false)] .iS] (Gx [F4 3 1 1,Gj 4 3,Gi 5 4,FY 6 5 14 .gtr,Gm 2 6] .ret)
theorem afj:ze Tryz.prog UQ 16=some (aay,7,[.tmp 2]):=by kernel_rfl
def NL (b:qb):Option Bool :=
 some (decide ((14:Int)<(b.2.length:Int)))
theorem ajz {b:qb} {v:Bool} (h:NL b=some v):qg 16 [(.agg [(hR b.1),(.ay (b.2.flatMap p0) b.2.length .shared)])] (B v):=by
 refine qB dJ afj rfl rfl fun Q bl=>?_;have jy:qn [.tmp 2] Q (fun v=>(B v)) v:=fun T H bI=>bl _ T H bI;unfold NL at h;unfold aay;conv=>whnf
 exact p4 h jy rfl rfl

noncomputable def aa7:eA :=
 Gx [gO 4 [.iC (.bool false)] .iS] (Gx [Gl 5 0,Gj 6 1,FZ 7 5 6 .lss,Gm 8 7,cP 9 [.hI 0] 8 false .iS,cP 10 [.hL 2] 8 false (.pV .one),cP 11 [.hL 9,.hL 10] 8 false (.bin .gtr),gO 12 [.hL 8,.iC (.bool true),.hL 11] .pick,Gm 4 12] .ret)
theorem afS:ze Tryz.prog Vg 93=some (aa7,13,[.tmp 4]):=by kernel_rfl
def NZ (n c0 a':Int):Option Bool :=
 if (decide (n<c0))=true then
  some true
 else
  some (decide (a'<n))
theorem akq {n:Int} {c0:Int} {a':Int} {v:Bool} (h:NZ n c0 a'=some v):qg 93 [(hR n),(.bU [(hR c0)]),(.bU [(hR a')])] (B v):=by
 refine qB dJ afS rfl rfl fun Q bl=>?_;have jy:qn [.tmp 4] Q (fun v=>(B v)) v:=fun T H bI=>bl _ T H bI;unfold NZ at h;unfold aa7;conv=>whnf
 refine bs h (fun eW h=>?_) fun eW h=>?_
 ·rw [eW];conv=>whnf
  exact p4 h jy rfl rfl
 ·rw [eW];conv=>whnf
  exact p4 h jy rfl rfl

noncomputable def aaV:eA :=
 Gx [gO 3 [.hI 0] .box,gO 4 [.hI 1] .box,gO 6 [.iC (.bool false)] .iS] (Gx [Gm 7 2,gO 8 [.hL 3,.hL 4] (.zu 93 0 2),gO 9 [.iC (.func 92 [] []),.sl 7,.sl 8] (.call 6),gO 10 [.hL 9] (.un .not),Gm 6 10] .ret)
theorem afG:ze Tryz.prog U8 66=some (aaV,11,[.tmp 6]):=by kernel_rfl
def Kr (lo hi:Int) (l:qa):Option Bool :=
 (JW l (fun qx=>NZ qx lo hi)).bind fun r1 =>
 some (!r1)
theorem PD {lo:Int} {hi:Int} {l:qa} {v:Bool} (h:Kr lo hi l=some v):qg 66 [(hR lo),(hR hi),(.ay (l.map hR) l.length .shared)] (B v):=by
 refine qB dJ afG rfl rfl fun Q bl=>?_;have jy:qn [.tmp 6] Q (fun v=>(B v)) v:=fun T H bI=>bl _ T H bI;unfold Kr at h;unfold aaV;conv=>whnf
 obtain ⟨r1,eW,h⟩:=p' h;refine ⟨_,_,HZ (cs:=[(qj l .shared),(.func 93 [] [(.bU [(hR lo)]),(.bU [(hR hi)])])]) (bs:=[(qj l .shared),(.func 93 [] [(.bU [(hR lo)]),(.bU [(hR hi)])])]) (qX rfl (qX (Jt rn (qX (Ib (cs:=[(hR lo)]) (by first | exact ql.h | rfl | (simp [sc,I.settle];done)) rfl) (qX (Ib (cs:=[(hR hi)]) (by first | exact ql.h | rfl | (simp [sc,I.settle];done)) rfl) rn))) rn)) (by rfl) (by exact (pY (ra (fun _=>rfl) _ _ _) (pY (I1 rfl (pY (qK (pY rfl rfl)) (pY (qK (pY rfl rfl)) rfl))) rfl))) (PQ ⟨(pY (qK (pY rfl rfl)) (pY (qK (pY rfl rfl)) rfl)),by simp⟩ (fun _ _ a0=>akq a0) eW) rfl,?_⟩
 conv=>whnf
 exact p4 h jy rfl rfl

noncomputable def aa0:eA :=
 Gx [gO 2 [.hI 0] .box,gO 3 [.iC (.bool false)] .iS] (Gx [F4 4 1 0,Gj 5 4,FY 6 5 1 .sub,gO 7 [.sl 2] (.oR 0),Gj 8 7,F4 9 2 1,Gj 10 9,gO 11 [.hL 8,.hL 10] (.x_ 2 1 [.int .i64 0] [0,1]),gO 12 [.iC (.func 66 [] []),.iC (.int .i64 0),.sl 6,.sl 11] (.call 3),gO 13 [.hL 12] (.un .not),Gm 3 13] .ret)
theorem afL:ze Tryz.prog Va 71=some (aa0,14,[.tmp 3]):=by kernel_rfl
def PE (s:(Int×Int)) (c0:qb):Option Bool :=
 (Kr (0:Int) (w (c0.1-(1:Int))) [s.1,s.2]).bind fun r1 =>
 some (!r1)
theorem aj9 {s:(Int×Int)} {c0:qb} {v:Bool} (h:PE s c0=some v):qg 71 [(.agg [(hR s.1),(hR s.2)]),(.bU [(hR c0.1),(.ay (c0.2.flatMap p0) c0.2.length .shared)])] (B v):=by
 refine qB dJ afL rfl rfl fun Q bl=>?_;have jy:qn [.tmp 3] Q (fun v=>(B v)) v:=fun T H bI=>bl _ T H bI;unfold PE at h;unfold aa0;conv=>whnf
 obtain ⟨r1,eW,h⟩:=p' h;refine ⟨(pY rfl (pY rfl (pY rfl rfl))),_,PD eW,?_⟩;conv=>whnf
 exact p4 h jy rfl rfl

noncomputable def Ql:eA :=
 .loop (some (Ex false [0,2,5,2,10])) (Gx [gO 9 [.sl 8,.sl 7] (.bin .lss)] (.seq (.cond (.sl 9) .skip (.exit 0)) (.seq (.block 1 (Gx [Gl 10 8,Gm 5 10] (Gx [Gl 11 1,Gl 12 0,Gl 13 5,Gf 14 12 13 2,gO 15 [.hL 14] (.pV (.str 2)),gO 16 [.sl 11,.sl 15] (.call 6)] (.cond (.sl 16) (Gx [Gm 17 5,Gm 4 17] .ret) .skip)))) (Gq [FX 18 8 1,Gm 8 18]))))
noncomputable def aa9:eA :=
 Gx [Gk 4 0] (.seq (Gx [Gl 6 0,Gi 7 6,Gk 8 0] (.block 0 Ql)) (Gx [Gk 4 (-1)] .ret))
theorem afU:ze Tryz.prog QM 95=some (aa9,19,[.tmp 4]):=by kernel_rfl
def Lq (s:qc) (f:((Int×Int)→Option Bool)) (p9:Unit→Option Int):Nat→Int→Option Int
 | 0,_=>none
 | m+1,s1 =>
   if (decide (s1<(s.length:Int)))=true then
    p6 (0≤s1∧s1<(s.length:Int)) <|
    (f (ix s s1)).bind fun r1 =>
    if r1=true then
     some s1
    else
     Lq s f p9 m (w (s1+(1:Int)))
   else
    p9 ()
def PS (s:qc) (f:((Int×Int)→Option Bool)):Option Int :=
 Lq s f (fun _ =>
   some (-1:Int)) p8 (0:Int)
theorem akt {s:qc} {f:((Int×Int)→Option Bool)} {p9:Unit→Option Int} {s1:Int} {rk:FuncId} {qQ:List I} (rA:rL qQ) (Hv:∀ (qx:(Int×Int)) (r:Bool),f qx=some r→qg rk ((.agg [(hR qx.1),(hR qx.2)])::qQ) (B r)) {v:Int} {Q:rp}   (jy:qn [.tmp 4] Q (fun v=>(hR v)) v) (rm:∀ (p5:List I),p9 ()=some v→q7 19 [] p5→Q (.exit 0) p5 []) {T:List I} (bX:eT (Ex false [0,2,5,2,10]) T=GD 19 [(0,(p7 s .shared)),(1,(.func rk [] qQ)),(7,(hR (s.length:Int))),(8,(hR s1))]) (h:Lq s f p9 p8 s1=some v) :
  dD Tryz.prog QM 95 0 none Ql T [] Q:=by
 unfold Ql;refine wp_loop bX ?_;refine .intro (fun m T H=>∃ (s1:Int),T=GD 19 [(0,(p7 s .shared)),(1,(.func rk [] qQ)),(7,(hR (s.length:Int))),(8,(hR s1))]∧H=[]∧Lq s f p9 m s1=some v) p8 ⟨s1,rfl,rfl,h⟩ ?_;clear h bX;rintro m T H ⟨s1,rfl,rfl,h⟩;cases m
 ·exact q9 h
 rename_i m;rw [Lq.eq_2] at h;conv=>whnf
 refine bs h (fun eW h=>?_) fun eW h=>?_
 ·rw [eW];conv=>whnf
  refine qm h id fun fm h=>?_;rw [q3 p0 2 qw s s1 fm];conv=>whnf
  obtain ⟨r1,qd,h⟩:=p' h;refine ⟨_,_,call6 (bs:=((.agg [(hR (ix s s1).1),(hR (ix s s1).2)])::qQ)) (by simp only [se,rA.il,rA.cr];rfl) (by simp only [se,rA.il];exact (pY (I0 (pY rfl (pY rfl rfl))) rA.Lw)) (Hv _ _ qd) rfl,?_⟩;conv=>whnf
  cases r1
  ·(conv=>whnf);replace h:=GK rfl h;exact ⟨m,sv m,(w (s1+(1:Int))),rfl,rfl,h⟩
  ·(conv=>whnf);replace h:=GL rfl h;exact p4 h jy rfl rfl
 ·rw [eW];conv=>whnf
  exact rm  _ h ⟨rfl,rfl⟩
theorem aku {s:qc} {f:((Int×Int)→Option Bool)} {rk:FuncId} {qQ:List I} (rA:rL qQ) (Hv:∀ (qx:(Int×Int)) (r:Bool),f qx=some r→qg rk ((.agg [(hR qx.1),(hR qx.2)])::qQ) (B r)) {v:Int} (h:PS s f=some v):qg 95 [(.ay (s.flatMap p0) s.length .shared),(.func rk [] qQ)] (hR v):=by
 refine qB dJ afU rfl rfl fun Q bl=>?_;have jy:qn [.tmp 4] Q (fun v=>(hR v)) v:=fun T H bI=>bl _ T H bI;unfold PS at h;unfold aa9;obtain ⟨Hn,qC⟩:∃ c,Ql=c:=⟨_,rfl⟩;rw [qC];conv=>whnf
 subst qC;refine akt rA Hv ?_ ?_ (by exact rfl) h
 ·exact fun T H bI=>jy T H bI
 ·intro  p5 h qi;obtain ⟨qZ,rfl⟩:=qi.ex;conv=>whnf
  exact p4 h jy rfl rfl

noncomputable def aa1:eA :=
 Gx [gO 4 [.iC (.bool false)] .iS] (Gx [Gm 5 0,Gm 6 1,gO 7 [.iC (.func 95 [] []),.sl 5,.sl 6] (.call 6),FY 8 7 0 .geq,Gm 4 8] .ret)
theorem afM:ze Tryz.prog Vb 72=some (aa1,9,[.tmp 4]):=by kernel_rfl
def NW (s:qc) (f:((Int×Int)→Option Bool)):Option Bool :=
 (PS s f).bind fun r1 =>
 some (decide ((0:Int)≤r1))
theorem aka {s:qc} {f:((Int×Int)→Option Bool)} {rk:FuncId} {qQ:List I} (rA:rL qQ) (Hv:∀ (qx:(Int×Int)) (r:Bool),f qx=some r→qg rk ((.agg [(hR qx.1),(hR qx.2)])::qQ) (B r)) {v:Bool} (h:NW s f=some v):qg 72 [(.ay (s.flatMap p0) s.length .shared),(.func rk [] qQ)] (B v):=by
 refine qB dJ afM rfl rfl fun Q bl=>?_;have jy:qn [.tmp 4] Q (fun v=>(B v)) v:=fun T H bI=>bl _ T H bI;unfold NW at h;unfold aa1;conv=>whnf
 obtain ⟨r1,eW,h⟩:=p' h;refine ⟨_,_,HZ (cs:=[(p7 s .shared),(.func rk [] qQ)]) (bs:=[(p7 s .shared),(.func rk [] qQ)]) (qX rfl (qX (rA.fn _ _) rn)) (by rfl) (by exact (pY (qG (fun _=>(pY rfl (pY rfl rfl))) _ _ _) (pY (rA.Ni _) rfl))) (aku rA Hv eW) rfl,?_⟩;conv=>whnf
 exact p4 h jy rfl rfl

noncomputable def aaB:eA :=
 Gx [gO 1 [.hI 0] .box,Gk 2 0] (Gx [gO 4 [.sl 1] (.zu 71 0 1),Gm 3 4] (.seq (.block 0 (Gx [gO 6 [.sl 1] (.oR 0),Gj 7 6,gO 8 [.hL 7] (.x_ 1 1 [.int .i64 0] [0]),gO 9 [.iC (.func 66 [] []),.iC (.int .i64 1),.iC (.int .i64 6),.sl 8] (.call 3),gO 10 [.hL 9] (.un .not),Gm 11 10,cP 12 [.sl 1] 11 false (.oR 1),cP 13 [.hL 12] 11 false (.pV .one),cP 14 [.hI 13] 11 false .w8,cP 15 [.hL 14,.iC (.int .i64 10)] 11 false (.bin .gtr),gO 16 [.hL 11,.iC (.bool true),.hL 15] .pick,Gm 5 16] (.cond (.sl 5) (Gx [Gk 2 6] .ret) (Gx [F4 18 1 1,Gj 19 18,Gm 20 3,gO 21 [.iC (.func 72 [] []),.sl 19,.sl 20] (.call 6),Gm 17 21] (.cond (.sl 17) (Gx [Gk 2 3] .ret) .skip))))) (Gx [Gk 2 0] .ret)))
theorem afm:ze Tryz.prog UR 20=some (aaB,22,[.tmp 2]):=by kernel_rfl
def Mn (b:qb):Option Int :=
 (Kr (1:Int) (6:Int) [b.1]).bind fun r1 =>
 if r1=true then
  if (decide ((10:Int)<(b.2.length:Int)))=true then
   some (6:Int)
  else
   (NW b.2 (fun qx=>PE qx b)).bind fun r2 =>
   if r2=true then
    some (3:Int)
   else
    some (0:Int)
 else
  some (6:Int)
theorem ZC {b:qb} {v:Int} (h:Mn b=some v):qg 20 [(.agg [(hR b.1),(.ay (b.2.flatMap p0) b.2.length .shared)])] (hR v):=by
 refine qB dJ afm rfl rfl fun Q bl=>?_;have jy:qn [.tmp 2] Q (fun v=>(hR v)) v:=fun T H bI=>bl _ T H bI;unfold Mn at h;unfold aaB;conv=>whnf
 obtain ⟨r1,eW,h⟩:=p' h;refine ⟨(pY rfl (pY rfl (pY rfl rfl))),_,PD eW,?_⟩;conv=>whnf
 cases r1
 ·conv=>whnf
  replace h:=GK rfl h;exact p4 h jy rfl rfl
 ·conv=>whnf
  replace h:=GL rfl h;refine bs h (fun fm h=>?_) fun fm h=>?_
  ·rw [fm];(conv=>whnf);exact p4 h jy rfl rfl
  ·rw [fm];(conv=>whnf);obtain ⟨r2,qd,h⟩:=p' h;refine ⟨_,_,HZ (cs:=[(p7 b.2 .shared),(.func 71 [] [(.bU [(hR b.1),(p7 b.2 .shared)])])]) (bs:=[(p7 b.2 .shared),(.func 71 [] [(.bU [(hR b.1),(p7 b.2 .shared)])])]) (qX rfl (qX (Jt rn (qX (Ib (cs:=[(hR b.1),(p7 b.2 .shared)]) (by first | exact ql.h | rfl | (simp [sc,I.settle];done)) rfl) rn)) rn)) (by rfl) (by exact (pY (qG (fun _=>(pY rfl (pY rfl rfl))) _ _ _) (pY (I1 rfl (pY (qK (pY rfl (pY (qG (fun _=>(pY rfl (pY rfl rfl))) _ _ _) rfl))) rfl)) rfl))) (aka ⟨(pY (qK (pY rfl (pY (qG (fun _=>(pY rfl (pY rfl rfl))) _ _ _) rfl))) rfl),by simp⟩ (fun _ _ a0=>aj9 a0) qd) rfl,?_⟩
   (conv=>whnf);cases r2
   ·(conv=>whnf);replace h:=GK rfl h;exact p4 h jy rfl rfl
   ·(conv=>whnf);replace h:=GL rfl h;exact p4 h jy rfl rfl

def Qm (x:qb):List I:=[(hR x.1),(p7 x.2 .shared)]
instance {d:Nat} {x:qb}:qf (d+2) (Qm x):=⟨(inferInstance:qf (d+2) [(hR x.1),(p7 x.2 .shared)]).pl⟩
noncomputable def aaT:eA :=
 Gx [gO 1 [.hI 0] .box,gO 2 [.iC .eD] .iS,Gk 3 0] (.seq (Gx [gO 5 [.sl 1] (.pV (.str 2)),gO 6 [.iC (.func 20 [] []),.sl 5] (.call 3),Gm 4 6] (Gx [Gl 7 4,FY 8 7 0 .neq] (.cond (.sl 8) (Gx [Gm 9 4,gO 2 [.iC .eD] .iS,Gm 3 9] .ret) .skip))) (Gx [gO 10 [.hL 1] (.pV (.str 2)),gO 11 [.hL 10] (.build [.int .i64 0,.ay [] 0 .full] [(0,2)]),gO 12 [.hI 11] .x8,Gm 2 12,Gk 3 0] .ret))
theorem afE:ze Tryz.prog U6 64=some (aaT,13,[.tmp 2,.tmp 3]):=by kernel_rfl
def IA (b:qb):Option ((Option qb)×Int) :=
 (Mn b).bind fun r1 =>
 if (decide (r1≠(0:Int)))=true then
  some (none,r1)
 else
  some ((some b),(0:Int))
theorem IQ {b:qb} {v:((Option qb)×Int)} (h:IA b=some v):qg 64 [(.agg [(hR b.1),(.ay (b.2.flatMap p0) b.2.length .shared)])] (.tuple [(OX Qm v.1),(hR v.2)]):=by
 refine qB dJ afE rfl (H5 (pY (Xq (fun _=>(pY rfl (pY (qG (fun _=>(pY rfl (pY rfl rfl))) _ _ _) rfl))) _) (pY rfl rfl))) fun Q bl=>?_;have jy:qn [.tmp 2,.tmp 3] Q (fun v=>(.tuple [(OX Qm v.1),(hR v.2)])) v:=fun T H bI=>bl _ T H bI;unfold IA at h;unfold aaT;conv=>whnf
 obtain ⟨r1,eW,h⟩:=p' h;refine ⟨qf.pl,_,ZC eW,?_⟩;conv=>whnf
 refine bs h (fun fm h=>?_) fun fm h=>?_
 ·rw [fm];conv=>whnf
  exact p4 h jy rfl rfl
 ·rw [fm];conv=>whnf
  refine ⟨rfl,?_⟩;conv=>whnf
  exact p4 h jy rfl rfl

noncomputable def aaU:eA :=
 Gx [gO 2 [.hI 0] .box,gO 3 [.iC (.bool false)] .iS] (Gx [F4 4 1 1,Gj 5 4,Gi 6 5,FY 7 6 1 .sub,gO 8 [.sl 2] (.oR 0),Gj 9 8,gO 10 [.hL 9] (.x_ 1 1 [.int .i64 0] [0]),gO 11 [.iC (.func 66 [] []),.iC (.int .i64 0),.sl 7,.sl 10] (.call 3),gO 12 [.hL 11] (.un .not),Gm 13 12,cP 14 [.hL 2] 13 false (.oR 1),cP 15 [.hL 14] 13 false (.pV .one),⟨some 16,[.hL 15],some (13,false),none,.x_ 1 1 [.int .i64 0] [0]⟩,⟨some 17,[.iC (.func 66 [] []),.iC (.int .i64 0),.iC (.int .i64 1),.sl 16],some (13,false),none,.call 3⟩,cP 18 [.hL 17] 13 false (.un .not),gO 19 [.hL 13,.iC (.bool true),.hL 18] .pick,Gm 3 19] .ret)
theorem afF:ze Tryz.prog U7 65=some (aaU,20,[.tmp 3]):=by kernel_rfl
def Mv (p:(Int×Int)) (c0:qb):Option Bool :=
 (Kr (0:Int) (w ((c0.2.length:Int)-(1:Int))) [p.1]).bind fun r1 =>
 if r1=true then
  (Kr (0:Int) (1:Int) [p.2]).bind fun r2 =>
  some (!r2)
 else
  some true
theorem ZY {p:(Int×Int)} {c0:qb} {v:Bool} (h:Mv p c0=some v):qg 65 [(.agg [(hR p.1),(hR p.2)]),(.bU [(hR c0.1),(.ay (c0.2.flatMap p0) c0.2.length .shared)])] (B v):=by
 refine qB dJ afF rfl rfl fun Q bl=>?_;have jy:qn [.tmp 3] Q (fun v=>(B v)) v:=fun T H bI=>bl _ T H bI;unfold Mv at h;unfold aaU;conv=>whnf
 obtain ⟨r1,eW,h⟩:=p' h;refine ⟨(pY rfl (pY rfl (pY rfl rfl))),_,PD eW,?_⟩;conv=>whnf
 cases r1
 ·conv=>whnf
  replace h:=GK rfl h;exact p4 h jy rfl rfl
 ·conv=>whnf
  replace h:=GL rfl h;obtain ⟨r2,fm,h⟩:=p' h;refine ⟨(pY rfl (pY rfl (pY rfl rfl))),_,PD fm,?_⟩;conv=>whnf
  exact p4 h jy rfl rfl

noncomputable def Qk:eA :=
 .loop (some (Ex false [0,2,5,2,10])) (Gx [gO 9 [.sl 8,.sl 7] (.bin .lss)] (.seq (.cond (.sl 9) .skip (.exit 0)) (.seq (.block 1 (Gx [Gl 10 8,Gm 5 10] (Gx [Gl 11 1,Gl 12 0,Gl 13 5,Gf 14 12 13 2,gO 15 [.hL 14] (.pV (.str 2)),gO 16 [.sl 11,.sl 15] (.call 6)] (.cond (.sl 16) (Gx [Gm 17 5,Gm 4 17] .ret) .skip)))) (Gq [FX 18 8 1,Gm 8 18]))))
noncomputable def aa8:eA :=
 Gx [Gk 4 0] (.seq (Gx [Gl 6 0,Gi 7 6,Gk 8 0] (.block 0 Qk)) (Gx [Gk 4 (-1)] .ret))
theorem afT:ze Tryz.prog QL 94=some (aa8,19,[.tmp 4]):=by kernel_rfl
def Lp (s:qc) (f:((Int×Int)→Option Bool)) (p9:Unit→Option Int):Nat→Int→Option Int
 | 0,_=>none
 | m+1,s1 =>
   if (decide (s1<(s.length:Int)))=true then
    p6 (0≤s1∧s1<(s.length:Int)) <|
    (f (ix s s1)).bind fun r1 =>
    if r1=true then
     some s1
    else
     Lp s f p9 m (w (s1+(1:Int)))
   else
    p9 ()
def Kx (s:qc) (f:((Int×Int)→Option Bool)):Option Int :=
 Lp s f (fun _ =>
   some (-1:Int)) p8 (0:Int)
theorem aks {s:qc} {f:((Int×Int)→Option Bool)} {p9:Unit→Option Int} {s1:Int} {rk:FuncId} {qQ:List I} (rA:rL qQ) (Hv:∀ (qx:(Int×Int)) (r:Bool),f qx=some r→qg rk ((.agg [(hR qx.1),(hR qx.2)])::qQ) (B r)) {v:Int} {Q:rp}   (jy:qn [.tmp 4] Q (fun v=>(hR v)) v) (rm:∀ (p5:List I),p9 ()=some v→q7 19 [] p5→Q (.exit 0) p5 []) {T:List I} (bX:eT (Ex false [0,2,5,2,10]) T=GD 19 [(0,(p7 s .shared)),(1,(.func rk [] qQ)),(7,(hR (s.length:Int))),(8,(hR s1))]) (h:Lp s f p9 p8 s1=some v) :
  dD Tryz.prog QL 94 0 none Qk T [] Q:=by
 unfold Qk;refine wp_loop bX ?_;refine .intro (fun m T H=>∃ (s1:Int),T=GD 19 [(0,(p7 s .shared)),(1,(.func rk [] qQ)),(7,(hR (s.length:Int))),(8,(hR s1))]∧H=[]∧Lp s f p9 m s1=some v) p8 ⟨s1,rfl,rfl,h⟩ ?_;clear h bX;rintro m T H ⟨s1,rfl,rfl,h⟩;cases m
 ·exact q9 h
 rename_i m;rw [Lp.eq_2] at h;conv=>whnf
 refine bs h (fun eW h=>?_) fun eW h=>?_
 ·rw [eW];conv=>whnf
  refine qm h id fun fm h=>?_;rw [q3 p0 2 qw s s1 fm];conv=>whnf
  obtain ⟨r1,qd,h⟩:=p' h;refine ⟨_,_,call6 (bs:=((.agg [(hR (ix s s1).1),(hR (ix s s1).2)])::qQ)) (by simp only [se,rA.il,rA.cr];rfl) (by simp only [se,rA.il];exact (pY (I0 (pY rfl (pY rfl rfl))) rA.Lw)) (Hv _ _ qd) rfl,?_⟩;conv=>whnf
  cases r1
  ·(conv=>whnf);replace h:=GK rfl h;exact ⟨m,sv m,(w (s1+(1:Int))),rfl,rfl,h⟩
  ·(conv=>whnf);replace h:=GL rfl h;exact p4 h jy rfl rfl
 ·rw [eW];conv=>whnf
  exact rm  _ h ⟨rfl,rfl⟩
theorem PR {s:qc} {f:((Int×Int)→Option Bool)} {rk:FuncId} {qQ:List I} (rA:rL qQ) (Hv:∀ (qx:(Int×Int)) (r:Bool),f qx=some r→qg rk ((.agg [(hR qx.1),(hR qx.2)])::qQ) (B r)) {v:Int} (h:Kx s f=some v):qg 94 [(.ay (s.flatMap p0) s.length .shared),(.func rk [] qQ)] (hR v):=by
 refine qB dJ afT rfl rfl fun Q bl=>?_;have jy:qn [.tmp 4] Q (fun v=>(hR v)) v:=fun T H bI=>bl _ T H bI;unfold Kx at h;unfold aa8;obtain ⟨Hn,qC⟩:∃ c,Qk=c:=⟨_,rfl⟩;rw [qC];conv=>whnf
 subst qC;refine aks rA Hv ?_ ?_ (by exact rfl) h
 ·exact fun T H bI=>jy T H bI
 ·intro  p5 h qi;obtain ⟨qZ,rfl⟩:=qi.ex;conv=>whnf
  exact p4 h jy rfl rfl

noncomputable def aaW:eA :=
 Gx [gO 4 [.iC (.bool false)] .iS] (Gx [Gm 5 0,Gm 6 1,gO 7 [.iC (.func 94 [] []),.sl 5,.sl 6] (.call 6),FY 8 7 0 .geq,Gm 4 8] .ret)
theorem afH:ze Tryz.prog U9 67=some (aaW,9,[.tmp 4]):=by kernel_rfl
def Mw (s:qc) (f:((Int×Int)→Option Bool)):Option Bool :=
 (Kx s f).bind fun r1 =>
 some (decide ((0:Int)≤r1))
theorem ZZ {s:qc} {f:((Int×Int)→Option Bool)} {rk:FuncId} {qQ:List I} (rA:rL qQ) (Hv:∀ (qx:(Int×Int)) (r:Bool),f qx=some r→qg rk ((.agg [(hR qx.1),(hR qx.2)])::qQ) (B r)) {v:Bool} (h:Mw s f=some v):qg 67 [(.ay (s.flatMap p0) s.length .shared),(.func rk [] qQ)] (B v):=by
 refine qB dJ afH rfl rfl fun Q bl=>?_;have jy:qn [.tmp 4] Q (fun v=>(B v)) v:=fun T H bI=>bl _ T H bI;unfold Mw at h;unfold aaW;conv=>whnf
 obtain ⟨r1,eW,h⟩:=p' h;refine ⟨_,_,HZ (cs:=[(p7 s .shared),(.func rk [] qQ)]) (bs:=[(p7 s .shared),(.func rk [] qQ)]) (qX rfl (qX (rA.fn _ _) rn)) (by rfl) (by exact (pY (qG (fun _=>(pY rfl (pY rfl rfl))) _ _ _) (pY (rA.Ni _) rfl))) (PR rA Hv eW) rfl,?_⟩;conv=>whnf
 exact p4 h jy rfl rfl

noncomputable def MB:eA :=
 .loop (some (Ex false [1,1,5,1,2,1,28,3,40])) (Gx [gO 42 [.sl 41,.sl 40] (.bin .lss)] (.seq (.cond (.sl 42) .skip (.exit 1)) (.seq (.block 2 (Gx [gO 43 [.sl 39,.sl 41] (.pO 2),gO 44 [.hL 43] (.pV (.str 2)),gO 12 [] (.alloc [.int .i64 0,.int .i64 0]),⟨none,[.sl 12,.hI 44],none,none,.st 2⟩] (.seq (Gx [gO 45 [.sl 12] (.oR 0),Gj 46 45,gO 47 [.sl 10,.hL 46] (.y2 10 1),Gj 48 47,FY 49 48 0 .gtr] (.cond (.sl 49) (Gx [Gk 4 0,Gk 5 0,Gk 6 11] .ret) .skip)) (Gq [F4 50 12 0,Gj 51 50,gO 52 [.sl 10,.hL 51] (.y2 10 1),⟨none,[.hI 52,.iC (.int .i64 1)],none,none,.st 1⟩])))) (Gq [FX 53 41 1,Gm 41 53]))))
noncomputable def P0:eA :=
 .loop (some (Ex false [7,1,5,1,1,1,47,3,16])) (Gx [gO 66 [.sl 65,.sl 64] (.bin .lss)] (.seq (.cond (.sl 66) .skip (.exit 3)) (.seq (.block 4 (Gx [gO 67 [.sl 63,.sl 65] (.pO 2),gO 68 [.hL 67] (.pV (.str 2)),gO 17 [] (.alloc [.int .i64 0,.int .i64 0]),⟨none,[.sl 17,.hI 68],none,none,.st 2⟩] (Gx [Gl 70 7,gO 71 [.hL 17] (.pV (.str 2)),gO 72 [.iC (.func 68 [] []),.sl 70,.sl 71] (.call 3),Gm 69 72,GH 73 69 0,gO 74 [.hL 69] (.ext 1),Gm 18 73,Gm 19 74] (.seq (Gx [Gm 75 18,Gm 76 15,FZ 77 75 76 .neq] (.cond (.sl 77) (Gx [Gk 4 0,Gk 5 0,Gk 6 27] .ret) .skip)) (Gq [Gm 78 19,Gm 15 78]))))) (Gq [FX 79 65 1,Gm 65 79]))))
noncomputable def aaz:eA :=
 Gx [gO 2 [.hI 0] .box, Gk 4 0, Gk 5 0, Gk 6 0] (Gx [gO 21 [.sl 2] (.pV (.str 2)), gO 22 [.iC (.func 64 [] []), .sl 21] (.call 3), Gm 20 22, GH 23 20 0, gO 24 [.hL 20] (.ext 1), Gm 7 23, Gm 8 24] (Gx [gO 25 [.hL 2] (.zu 65 0 1), Gm 9 25] (.seq (.block 0 (Gx [Gl 27 8, FY 28 27 0 .neq, Gm 26 28] (.cond (.sl 26) (Gx [Gm 29 8, Gk 4 0, Gk 5 0, Gm 6 29] .ret) (Gx [Gl 31 1, Gi 32 31, FY 33 32 0 .eql, Gm 30 33] (.cond (.sl 30) (Gx [Gk 4 0, Gk 5 0, Gk 6 6] .ret) (Gx [Gl 35 1, Gm 36 9, gO 37 [.iC (.func 67 [] []), .sl 35, .sl 36] (.call 6), Gm 34 37] (.cond (.sl 34) (Gx [Gk 4 0, Gk 5 0, Gk 6 3] .ret) .skip))))))) (Gx [gO 10 [] (.alloc [.int .i64 0, .int .i64 0, .int .i64 0, .int .i64 0, .int .i64 0, .int .i64 0, .int .i64 0, .int .i64 0, .int .i64 0, .int .i64 0])] (Gx [gO 38 [.sl 10] (.other (Oper.mk (some 38) (Op.slice 89 (Operand.tmp 10) none none none) 38 "match.go:50" (Array.mk []) none) 0), ⟨none, [.hI 38], none, none, .other (Oper.mk none (Op.call (Call.mk (Callee.builtin Builtin.clear) (Array.mk [Operand.tmp 38]) (Array.mk [38]))) 0 "match.go:50" (Array.mk [Edge.mk 0 Ground.data]) none) 0⟩] (.seq (Gx [Gl 39 1, gO 40 [.sl 39] .w8, Gk 41 0] (.block 1 MB)) (Gx [Gl 55 7, Gl 56 1, gO 57 [.hL 56, .iC (.int .i64 0)] (.pO 2), gO 58 [.hL 57] (.pV (.str 2)), gO 59 [.iC (.func 68 [] []), .sl 55, .sl 58] (.call 3), Gm 54 59, GH 60 54 0, gO 61 [.hL 54] (.ext 1), Gm 13 60, Gm 14 61] (Gx [Gl 62 13, Gm 15 62] (.seq (Gx [Gm 63 1, gO 64 [.sl 63] .w8, Gk 65 0] (.block 3 P0)) (Gx [Gm 80 13, Gm 81 15, Gm 4 80, Gm 5 81, Gk 6 0] .ret))))))))))
theorem afk:ze Tryz.prog ML 18=some (aaz,82,[.tmp 4,.tmp 5,.tmp 6]):=by kernel_rfl
def NM (row:qc) (p9:Unit→Option (Int×Int×Int)):Nat→Int→qa→Option (Int×Int×Int)
 | 0,_,_=>none
 | m+1,s1,s2 =>
   if (decide (s1<(row.length:Int)))=true then
    p6 (0≤s1∧s1<(row.length:Int)) <|
    p6 (0≤(ix row s1).1∧(ix row s1).1<(10:Int)∧10=s2.length) <|
    if (decide ((0:Int)<(ix s2 ((ix row s1).1))))=true then
     some ((0:Int),(0:Int),(11:Int))
    else
     p6 (0≤(ix row s1).1∧(ix row s1).1<(10:Int)∧10=s2.length) <|
     NM row p9 m (w (s1+(1:Int))) (s2.set ((ix row s1).1).toNat (1:Int))
   else
    p9 ()
def K8 (row:qc) (qH:Unit→Option (Int×Int×Int)):Nat→Int→qa→Option (Int×Int×Int)
 | 0,_,_=>none
 | m+1,dg,Gw =>
   if (decide (dg<(row.length:Int)))=true then
    p6 (0≤dg∧dg<(row.length:Int)) <|
    p6 (0≤(ix row dg).1∧(ix row dg).1<(10:Int)∧10=Gw.length) <|
    if (decide ((0:Int)<(ix Gw ((ix row dg).1))))=true then
     some ((0:Int),(0:Int),(11:Int))
    else
     p6 (0≤(ix row dg).1∧(ix row dg).1<(10:Int)∧10=Gw.length) <|
     K8 row qH m (w (dg+(1:Int))) (Gw.set ((ix row dg).1).toNat (1:Int))
   else
    qH ()
def K9 (row:qc) (bR:qb) (GU:Int→Option (Int×Int×Int)):Nat→Int→Int→Option (Int×Int×Int)
 | 0,_,_=>none
 | m+1,qo,qD =>
   if (decide (qD<(row.length:Int)))=true then
    p6 (0≤qD∧qD<(row.length:Int)) <|
    (Ks bR (ix row qD)).bind fun qk =>
    if (decide (qk.1≠qo))=true then
     some ((0:Int),(0:Int),(27:Int))
    else
     K9 row bR GU m qk.2 (w (qD+(1:Int)))
   else
    GU qo
def K7 (b:qb) (row:qc):Option (Int×Int×Int) :=
 (IA b).bind fun r1 =>
 match r1 with
 | (none,q1) =>
   if (decide (q1≠(0:Int)))=true then
    some ((0:Int),(0:Int),q1)
   else
    if (decide ((row.length:Int)=(0:Int)))=true then
     some ((0:Int),(0:Int),(6:Int))
    else
     (Mw row (fun qx=>Mv qx b)).bind fun r2 =>
     if r2=true then
      some ((0:Int),(0:Int),(3:Int))
     else
      p6 ((List.replicate 10 (0:Int)).length=10) <|
      NM row (fun _ =>
        p6 (0≤(0:Int)∧(0:Int)<(row.length:Int)) <|
        none) p8 (0:Int) (List.replicate 10 (0:Int))
 | (some bR,q1) =>
   if (decide (q1≠(0:Int)))=true then
    some ((0:Int),(0:Int),q1)
   else
    if (decide ((row.length:Int)=(0:Int)))=true then
     some ((0:Int),(0:Int),(6:Int))
    else
     (Mw row (fun qx=>Mv qx b)).bind fun eF =>
     if eF=true then
      some ((0:Int),(0:Int),(3:Int))
     else
      p6 ((List.replicate 10 (0:Int)).length=10) <|
      K8 row (fun _ =>
        p6 (0≤(0:Int)∧(0:Int)<(row.length:Int)) <|
        (Ks bR (ix row (0:Int))).bind fun qh =>
        K9 row bR (fun xY =>
          some (qh.1,xY,(0:Int))) p8 qh.1 (0:Int)) p8 (0:Int) (List.replicate 10 (0:Int))
theorem ajA {row:qc} {p9:Unit→Option (Int×Int×Int)} {s1:Int} {s2:qa} {v:(Int×Int×Int)} {Q:rp} {bA:au}  (jy:qn [.tmp 4,.tmp 5,.tmp 6] Q (fun v=>(.tuple [(hR v.1),(hR v.2.1),(hR v.2.2)])) v) (rm:∀ (bQ:au) (rD:List au) (p5:List I),p9 ()=some v→q7 82 [(1,(p7 row .shared)),(7,.eD)] p5→Q (.exit 1) p5 (bA::bQ::rD)) {T:List I} (bX:eT (Ex false [1,1,5,1,2,1,28,3,40]) T=GD 82 [(1,(p7 row .shared)),(7,.eD),(10,(.ptr 1 0)),(39,(p7 row .shared)),(40,(hR (row.length:Int))),(41,(hR s1))]) (h:NM row p9 p8 s1 s2=some v) :
  dD Tryz.prog ML 18 0 none MB T [bA,au.cells (s2.map hR)] Q:=by
 unfold MB;refine wp_loop bX ?_;refine .intro (fun m T H=>∃ (s1:Int) (s2:qa) (MJ:List au),T=GD 82 [(1,(p7 row .shared)),(7,.eD),(10,(.ptr 1 0)),(39,(p7 row .shared)),(40,(hR (row.length:Int))),(41,(hR s1))]∧H=(bA::au.cells (s2.map hR)::MJ)∧NM row p9 m s1 s2=some v) p8 ⟨s1,s2,[],rfl,rfl,h⟩ ?_;clear h bX;rintro m T H ⟨s1,s2,MJ,rfl,rfl,h⟩;cases m
 ·exact q9 h
 rename_i m;rw [NM.eq_2] at h;conv=>whnf
 refine bs h (fun q_ h=>?_) fun q_ h=>?_
 ·rw [q_];conv=>whnf
  refine qm h id fun qO h=>?_;rw [q3 p0 2 qw row s1 qO];conv=>whnf
  refine DU (x:=au.cells [(hR (0:Int)),(hR (0:Int))]) (by first | exact ql.h | rfl | (simp [sc,I.settle];done)) ?_
  conv=>whnf
  rw [ru];refine DU (x:=au.cells [(hR (ix row s1).1),(hR (ix row s1).2)]) (by first | exact ql.h | rfl | (simp [sc,I.settle];done)) ?_
  conv=>whnf
  obtain ⟨qR,h⟩:=qJ h;refine ⟨⟨qR.1,qR.2.1⟩,?_⟩;replace qR:0≤(ix row s1).1∧(ix row s1).1<(s2.length:Int):=⟨qR.1,by have:=qR.2;omega⟩;conv=>whnf
  refine NB hR s2 ((ix row s1).1) qR ?_;conv=>whnf
  refine bs h (fun ry h=>?_) fun ry h=>?_
  ·rw [ry];(conv=>whnf);exact p4 h jy rfl rfl
  ·rw [ry];(conv=>whnf);refine DU (x:=au.cells [(hR (ix row s1).1),(hR (ix row s1).2)]) (by first | exact ql.h | rfl | (simp [sc,I.settle];done)) ?_
   (conv=>whnf);obtain ⟨q4,h⟩:=qJ h;refine ⟨⟨q4.1,q4.2.1⟩,?_⟩;replace q4:0≤(ix row s1).1∧(ix row s1).1<(s2.length:Int):=⟨q4.1,by have:=q4.2;omega⟩;(conv=>whnf);refine NG hR s2 ((ix row s1).1) (1:Int) q4 ?_;(conv=>whnf);exact ⟨m,sv m,(w (s1+(1:Int))),(s2.set ((ix row s1).1).toNat (1:Int)),_,rfl,rfl,h⟩
 ·rw [q_];conv=>whnf
  exact rm _ _ _ h ⟨rfl,rfl⟩
theorem ajB {row:qc} {qH:Unit→Option (Int×Int×Int)} {dg:Int} {Gw:qa} {bR:qb} {v:(Int×Int×Int)} {Q:rp} {bA:au}  (jy:qn [.tmp 4,.tmp 5,.tmp 6] Q (fun v=>(.tuple [(hR v.1),(hR v.2.1),(hR v.2.2)])) v) (H4:∀ (ia:au) (rD:List au) (p5:List I),qH ()=some v→q7 82 [(1,(p7 row .shared)),(7,(.bU [(hR bR.1),(p7 bR.2 .shared)]))] p5→Q (.exit 1) p5 (bA::ia::rD)) {T:List I} (bX:eT (Ex false [1,1,5,1,2,1,28,3,40]) T=GD 82 [(1,(p7 row .shared)),(7,(.bU [(hR bR.1),(p7 bR.2 .shared)])),(10,(.ptr 1 0)),(39,(p7 row .shared)),(40,(hR (row.length:Int))),(41,(hR dg))]) (h:K8 row qH p8 dg Gw=some v) :
  dD Tryz.prog ML 18 0 none MB T [bA,au.cells (Gw.map hR)] Q:=by
 unfold MB;refine wp_loop bX ?_;refine .intro (fun m T H=>∃ (dg:Int) (Gw:qa) (MJ:List au),T=GD 82 [(1,(p7 row .shared)),(7,(.bU [(hR bR.1),(p7 bR.2 .shared)])),(10,(.ptr 1 0)),(39,(p7 row .shared)),(40,(hR (row.length:Int))),(41,(hR dg))]∧H=(bA::au.cells (Gw.map hR)::MJ)∧K8 row qH m dg Gw=some v) p8 ⟨dg,Gw,[],rfl,rfl,h⟩ ?_;clear h bX;rintro m T H ⟨dg,Gw,MJ,rfl,rfl,h⟩;cases m
 ·exact q9 h
 rename_i m;rw [K8.eq_2] at h;conv=>whnf
 refine bs h (fun GR h=>?_) fun GR h=>?_
 ·rw [GR];conv=>whnf
  refine qm h id fun HO h=>?_;rw [q3 p0 2 qw row dg HO];conv=>whnf
  refine DU (x:=au.cells [(hR (0:Int)),(hR (0:Int))]) (by first | exact ql.h | rfl | (simp [sc,I.settle];done)) ?_
  conv=>whnf
  rw [ru];refine DU (x:=au.cells [(hR (ix row dg).1),(hR (ix row dg).2)]) (by first | exact ql.h | rfl | (simp [sc,I.settle];done)) ?_
  conv=>whnf
  obtain ⟨G6,h⟩:=qJ h;refine ⟨⟨G6.1,G6.2.1⟩,?_⟩;replace G6:0≤(ix row dg).1∧(ix row dg).1<(Gw.length:Int):=⟨G6.1,by have:=G6.2;omega⟩;conv=>whnf
  refine NB hR Gw ((ix row dg).1) G6 ?_;conv=>whnf
  refine bs h (fun Iq h=>?_) fun Iq h=>?_
  ·rw [Iq];(conv=>whnf);exact p4 h jy rfl rfl
  ·rw [Iq];(conv=>whnf);refine DU (x:=au.cells [(hR (ix row dg).1),(hR (ix row dg).2)]) (by first | exact ql.h | rfl | (simp [sc,I.settle];done)) ?_
   (conv=>whnf);obtain ⟨Hi,h⟩:=qJ h;refine ⟨⟨Hi.1,Hi.2.1⟩,?_⟩;replace Hi:0≤(ix row dg).1∧(ix row dg).1<(Gw.length:Int):=⟨Hi.1,by have:=Hi.2;omega⟩;(conv=>whnf);refine NG hR Gw ((ix row dg).1) (1:Int) Hi ?_;(conv=>whnf);exact ⟨m,sv m,(w (dg+(1:Int))),(Gw.set ((ix row dg).1).toNat (1:Int)),_,rfl,rfl,h⟩
 ·rw [GR];conv=>whnf
  exact H4 _ _ _ h ⟨rfl,rfl⟩
theorem ajC {row:qc} {bR:qb} {GU:Int→Option (Int×Int×Int)} {qo:Int} {qD:Int} {qh:(Int×Int)} {v:(Int×Int×Int)} {Q:rp} {bA:au} {ia:au} {rD:List au} (jy:qn [.tmp 4,.tmp 5,.tmp 6] Q (fun v=>(.tuple [(hR v.1),(hR v.2.1),(hR v.2.2)])) v) (KO:∀ (xY:Int) (rD:List au) (p5:List I),GU xY=some v→q7 82 [(13,(hR qh.1)),(15,(hR xY))] p5→Q (.exit 3) p5 (bA::ia::rD)) {T:List I} (bX:eT (Ex false [7,1,5,1,1,1,47,3,16]) T=GD 82 [(7,(.bU [(hR bR.1),(p7 bR.2 .shared)])),(13,(hR qh.1)),(15,(hR qo)),(63,(p7 row .shared)),(64,(hR (row.length:Int))),(65,(hR qD))]) (h:K9 row bR GU p8 qo qD=some v) :
  dD Tryz.prog ML 18 0 none P0 T (bA::ia::rD) Q:=by
 unfold P0;refine wp_loop bX ?_;refine .intro (fun m T H=>∃ (qo qD:Int) (Ut:List au),T=GD 82 [(7,(.bU [(hR bR.1),(p7 bR.2 .shared)])),(13,(hR qh.1)),(15,(hR qo)),(63,(p7 row .shared)),(64,(hR (row.length:Int))),(65,(hR qD))]∧H=(bA::ia::Ut)∧K9 row bR GU m qo qD=some v) p8 ⟨qo,qD,rD,rfl,rfl,h⟩ ?_;clear h bX;rintro m T H ⟨qo,qD,Ut,rfl,rfl,h⟩;cases m
 ·exact q9 h
 rename_i m;rw [K9.eq_2] at h;conv=>whnf
 refine bs h (fun HP h=>?_) fun HP h=>?_
 ·rw [HP];conv=>whnf
  refine qm h id fun Jg h=>?_;rw [q3 p0 2 qw row qD Jg];conv=>whnf
  refine DU (x:=au.cells [(hR (0:Int)),(hR (0:Int))]) (by first | exact ql.h | rfl | (simp [sc,I.settle];done)) ?_
  conv=>whnf
  rw [ru];refine DU (x:=au.cells [(hR (ix row qD).1),(hR (ix row qD).2)]) (by first | exact ql.h | rfl | (simp [sc,I.settle];done)) ?_
  conv=>whnf
  obtain ⟨qk,Jh,h⟩:=p' h;refine ⟨qf.pl,_,Jv Jh,?_⟩;conv=>whnf
  refine bs h (fun Is h=>?_) fun Is h=>?_
  ·rw [Is];(conv=>whnf);exact p4 h jy rfl rfl
  ·rw [Is];(conv=>whnf);exact ⟨m,sv m,qk.2,(w (qD+(1:Int))),_,rfl,rfl,h⟩
 ·rw [HP];conv=>whnf
  exact KO _ _ _ h ⟨rfl,rfl⟩
theorem T5 {b:qb} {row:qc} {v:(Int×Int×Int)} (h:K7 b row=some v):qg 18 [(.agg [(hR b.1),(.ay (b.2.flatMap p0) b.2.length .shared)]),(.ay (row.flatMap p0) row.length .shared)] (.tuple [(hR v.1),(hR v.2.1),(hR v.2.2)]):=by
 refine qB dJ afk rfl (H5 (pY rfl (pY rfl (pY rfl rfl)))) fun Q bl=>?_;have jy:qn [.tmp 4,.tmp 5,.tmp 6] Q (fun v=>(.tuple [(hR v.1),(hR v.2.1),(hR v.2.2)])) v:=fun T H bI=>bl _ T H bI;unfold K7 at h;unfold aaz;obtain ⟨Hn,qC⟩:∃ c,MB=c:=⟨_,rfl⟩;rw [qC];obtain ⟨KD,rU⟩:∃ c,P0=c:=⟨_,rfl⟩;rw [rU];conv=>whnf
 obtain ⟨r1,eW,h⟩:=p' h;rcases r1 with ⟨_ | bR,q1⟩
 ·refine ⟨qf.pl,_,IQ eW,?_⟩;conv=>whnf
  refine bs h (fun fm h=>?_) fun fm h=>?_
  ·rw [fm];(conv=>whnf);exact p4 h jy rfl rfl
  ·rw [fm];(conv=>whnf);refine bs h (fun qd h=>?_) fun qd h=>?_
   ·rw [qd];(conv=>whnf);exact p4 h jy rfl rfl
   ·rw [qd];(conv=>whnf);obtain ⟨r2,qq,h⟩:=p' h;refine ⟨_,_,HZ (cs:=[(p7 row .shared),(.func 65 [] [(.bU [(hR b.1),(p7 b.2 .shared)])])]) (bs:=[(p7 row .shared),(.func 65 [] [(.bU [(hR b.1),(p7 b.2 .shared)])])]) (qX rfl (qX (Jt rn (qX (Ib (cs:=[(hR b.1),(p7 b.2 .shared)]) (by first | exact ql.h | rfl | (simp [sc,I.settle];done)) rfl) rn)) rn)) (by rfl) (by exact (pY (qG (fun _=>(pY rfl (pY rfl rfl))) _ _ _) (pY (I1 rfl (pY (qK (pY rfl (pY (qG (fun _=>(pY rfl (pY rfl rfl))) _ _ _) rfl))) rfl)) rfl))) (ZZ ⟨(pY (qK (pY rfl (pY (qG (fun _=>(pY rfl (pY rfl rfl))) _ _ _) rfl))) rfl),by simp⟩ (fun _ _ a0=>ZY a0) qq) rfl,?_⟩
    (conv=>whnf);cases r2
    ·(conv=>whnf);replace h:=GK rfl h;refine ⟨_,_,fun C=>Xf rfl (e:=3) (len:=10) (by kernel_rfl) (by kernel_rfl) (by decide),?_⟩;(conv=>whnf);obtain ⟨qP,h⟩:=qJ h;refine ⟨_,_,fun C=>(Nf rfl).trans (VC (e:=3) (l:=(List.replicate 10 (0:Int))) (by kernel_rfl) (by kernel_rfl) (by kernel_rfl) (sr _) (by first | exact ql.h | rfl | (simp [sc,I.settle];done)) qP),?_⟩
     (conv=>whnf);subst qC;refine ajA ?_ ?_ (by exact rfl) h
     ·exact fun T H bI=>jy T H bI
     ·intro bQ rD p5 h qi;obtain ⟨qZ,rfl⟩:=qi.ex;(conv=>whnf);refine qm h id fun rV h=>?_;rw [q3 p0 2 qw row (0:Int) rV];(conv=>whnf);exact q9 h
    ·(conv=>whnf);replace h:=GL rfl h;exact p4 h jy rfl rfl
 ·refine ⟨qf.pl,_,IQ eW,?_⟩;conv=>whnf
  refine bs h (fun rE h=>?_) fun rE h=>?_
  ·rw [rE];(conv=>whnf);exact p4 h jy rfl rfl
  ·rw [rE];(conv=>whnf);refine bs h (fun rz h=>?_) fun rz h=>?_
   ·rw [rz];(conv=>whnf);exact p4 h jy rfl rfl
   ·rw [rz];(conv=>whnf);obtain ⟨eF,rS,h⟩:=p' h;refine ⟨_,_,HZ (cs:=[(p7 row .shared),(.func 65 [] [(.bU [(hR b.1),(p7 b.2 .shared)])])]) (bs:=[(p7 row .shared),(.func 65 [] [(.bU [(hR b.1),(p7 b.2 .shared)])])]) (qX rfl (qX (Jt rn (qX (Ib (cs:=[(hR b.1),(p7 b.2 .shared)]) (by first | exact ql.h | rfl | (simp [sc,I.settle];done)) rfl) rn)) rn)) (by rfl) (by exact (pY (qG (fun _=>(pY rfl (pY rfl rfl))) _ _ _) (pY (I1 rfl (pY (qK (pY rfl (pY (qG (fun _=>(pY rfl (pY rfl rfl))) _ _ _) rfl))) rfl)) rfl))) (ZZ ⟨(pY (qK (pY rfl (pY (qG (fun _=>(pY rfl (pY rfl rfl))) _ _ _) rfl))) rfl),by simp⟩ (fun _ _ a0=>ZY a0) rS) rfl,?_⟩
    (conv=>whnf);cases eF
    ·(conv=>whnf);replace h:=GK rfl h;refine ⟨_,_,fun C=>Xf rfl (e:=3) (len:=10) (by kernel_rfl) (by kernel_rfl) (by decide),?_⟩;(conv=>whnf);obtain ⟨HD,h⟩:=qJ h;refine ⟨_,_,fun C=>(Nf rfl).trans (VC (e:=3) (l:=(List.replicate 10 (0:Int))) (by kernel_rfl) (by kernel_rfl) (by kernel_rfl) (sr _) (by first | exact ql.h | rfl | (simp [sc,I.settle];done)) HD),?_⟩
     (conv=>whnf);subst qC;refine ajB ?_ ?_ (by exact rfl) h
     ·exact fun T H bI=>jy T H bI
     ·intro ia rD p5 h qi;obtain ⟨qZ,rfl⟩:=qi.ex;(conv=>whnf);refine qm h id fun JJ h=>?_;rw [q3 p0 2 qw row (0:Int) JJ];(conv=>whnf);obtain ⟨qh,Ir,h⟩:=p' h;refine ⟨qf.pl,_,Jv Ir,?_⟩;(conv=>whnf);subst rU;refine ajC ?_ ?_ (by exact rfl) h
      ·exact fun T H bI=>jy T H bI
      ·intro xY rD p5 h qi;obtain ⟨qZ,rfl⟩:=qi.ex;(conv=>whnf);exact p4 h jy rfl rfl
    ·(conv=>whnf);replace h:=GL rfl h;exact p4 h jy rfl rfl

noncomputable def P4:eA :=
 .loop (some (Ex false [1,1,1,1,49])) (.seq (Gx [Gl 19 3,gO 20 [.sl 1] (.oR 1),Gj 21 20,Gi 22 21,FZ 23 19 22 .lss] (.cond (.sl 23) .skip (.exit 0))) (.seq (.block 1 (Gx [gO 26 [.sl 1] (.oR 1),Gj 27 26,Gl 28 3,Gf 29 27 28 2,gO 30 [.hL 29] (.pV (.str 2)),gO 4 [] (.alloc [.int .i64 0,.int .i64 0]),⟨none,[.sl 4,.hI 30],none,none,.st 2⟩] (Gx [gO 31 [.sl 4] (.oR 0),Gj 32 31,FY 33 32 0 .lss,Gm 34 33,cP 35 [.sl 4] 34 false (.oR 0),cP 36 [.hL 35] 34 false (.pV .one),cP 37 [.sl 1] 34 false (.oR 0),cP 38 [.hL 37] 34 false (.pV .one),cP 39 [.hL 36,.hL 38] 34 false (.bin .geq),gO 40 [.hL 34,.iC (.bool true),.hL 39] .pick,Gm 41 40,cP 42 [.sl 4] 41 false (.oR 1),cP 43 [.hL 42] 41 false (.pV .one),cP 44 [.hL 43,.iC (.int .i64 0)] 41 false (.bin .lss),gO 45 [.hL 41,.iC (.bool true),.hL 44] .pick,Gm 46 45,cP 47 [.hL 4] 46 false (.oR 1),cP 48 [.hL 47] 46 false (.pV .one),cP 49 [.sl 1] 46 false (.oR 0),cP 50 [.hL 49] 46 false (.pV .one),cP 51 [.hL 48,.hL 50] 46 false (.bin .geq),gO 52 [.hL 46,.iC (.bool true),.hL 51] .pick] (.cond (.sl 52) (Gx [Gk 2 3] .ret) .skip)))) (Gq [Gm 24 3,FX 25 24 1,Gm 3 25])))
noncomputable def aaC:eA :=
 Gx [gO 1 [.hI 0] .box,Gk 2 0] (.seq (Gx [gO 5 [.sl 1] (.oR 0),Gj 6 5,FY 7 6 1 .lss,Gm 8 7,cP 9 [.sl 1] 8 false (.oR 0),cP 10 [.hL 9] 8 false (.pV .one),cP 11 [.hL 10,.iC (.int .i64 6)] 8 false (.bin .gtr),gO 12 [.hL 8,.iC (.bool true),.hL 11] .pick,Gm 13 12,cP 14 [.sl 1] 13 false (.oR 1),cP 15 [.hL 14] 13 false (.pV .one),cP 16 [.hI 15] 13 false .w8,cP 17 [.hL 16,.iC (.int .i64 10)] 13 false (.bin .gtr),gO 18 [.hL 13,.iC (.bool true),.hL 17] .pick] (.cond (.sl 18) (Gx [Gk 2 6] .ret) .skip)) (.seq (Gx [Gk 3 0] (.block 0 P4)) (Gx [Gk 2 0] .ret)))
theorem afn:ze Tryz.prog QE 21=some (aaC,53,[.tmp 2]):=by kernel_rfl
def Ld (b:qb) (p9:Unit→Option Int):Nat→Int→Option Int
 | 0,_=>none
 | m+1,s1 =>
   if (decide (s1<(b.2.length:Int)))=true then
    p6 (0≤s1∧s1<(b.2.length:Int)) <|
    if (decide ((ix b.2 s1).1<(0:Int)))=true then
     some (3:Int)
    else
     if (decide (b.1≤(ix b.2 s1).1))=true then
      some (3:Int)
     else
      if (decide ((ix b.2 s1).2<(0:Int)))=true then
       some (3:Int)
      else
       if (decide (b.1≤(ix b.2 s1).2))=true then
        some (3:Int)
       else
        Ld b p9 m (w (s1+(1:Int)))
   else
    p9 ()
def Ju (b:qb):Option Int :=
 if (decide (b.1<(1:Int)))=true then
  some (6:Int)
 else
  if (decide ((6:Int)<b.1))=true then
   some (6:Int)
  else
   if (decide ((10:Int)<(b.2.length:Int)))=true then
    some (6:Int)
   else
    Ld b (fun _ =>
      some (0:Int)) p8 (0:Int)
theorem ajG {b:qb} {p9:Unit→Option Int} {s1:Int} {v:Int} {Q:rp}   (jy:qn [.tmp 2] Q (fun v=>(hR v)) v) (rm:∀ (bA:au) (rD:List au) (p5:List I),p9 ()=some v→q7 53 [] p5→Q (.exit 0) p5 (bA::rD)) {T:List I} (bX:eT (Ex false [1,1,1,1,49]) T=GD 53 [(1,(.ptr 0 0)),(3,(hR s1))]) (h:Ld b p9 p8 s1=some v) :
  dD Tryz.prog QE 21 0 none P4 T [G' b] Q:=by
 unfold P4;refine wp_loop bX ?_;refine .intro (fun m T H=>∃ (s1:Int) (Uu:List au),T=GD 53 [(1,(.ptr 0 0)),(3,(hR s1))]∧H=(G' b::Uu)∧Ld b p9 m s1=some v) p8 ⟨s1,[],rfl,rfl,h⟩ ?_;clear h bX;rintro m T H ⟨s1,Uu,rfl,rfl,h⟩;cases m
 ·exact q9 h
 rename_i m;rw [Ld.eq_2] at h;conv=>whnf
 refine bs h (fun qq h=>?_) fun qq h=>?_
 ·rw [qq];conv=>whnf
  refine qm h id fun qP h=>?_;rw [q3 p0 2 qw b.2 s1 qP];conv=>whnf
  refine DU (x:=au.cells [(hR (0:Int)),(hR (0:Int))]) (by first | exact ql.h | rfl | (simp [sc,I.settle];done)) ?_
  conv=>whnf
  rw [ru];refine DU (x:=au.cells [(hR (ix b.2 s1).1),(hR (ix b.2 s1).2)]) (by first | exact ql.h | rfl | (simp [sc,I.settle];done)) ?_
  conv=>whnf
  refine bs h (fun q_ h=>?_) fun q_ h=>?_
  ·rw [q_];(conv=>whnf);exact p4 h jy rfl rfl
  ·rw [q_];(conv=>whnf);refine DU (x:=au.cells [(hR (ix b.2 s1).1),(hR (ix b.2 s1).2)]) (by first | exact ql.h | rfl | (simp [sc,I.settle];done)) ?_
   (conv=>whnf);refine bs h (fun qO h=>?_) fun qO h=>?_
   ·rw [qO];(conv=>whnf);exact p4 h jy rfl rfl
   ·rw [qO];(conv=>whnf);refine DU (x:=au.cells [(hR (ix b.2 s1).1),(hR (ix b.2 s1).2)]) (by first | exact ql.h | rfl | (simp [sc,I.settle];done)) ?_
    (conv=>whnf);refine bs h (fun qR h=>?_) fun qR h=>?_
    ·rw [qR];(conv=>whnf);exact p4 h jy rfl rfl
    ·rw [qR];(conv=>whnf);refine DU (x:=au.cells [(hR (ix b.2 s1).1),(hR (ix b.2 s1).2)]) (by first | exact ql.h | rfl | (simp [sc,I.settle];done)) ?_
     (conv=>whnf);refine bs h (fun ry h=>?_) fun ry h=>?_
     ·rw [ry];(conv=>whnf);exact p4 h jy rfl rfl
     ·rw [ry];(conv=>whnf);exact ⟨m,sv m,(w (s1+(1:Int))),_,rfl,rfl,h⟩
 ·rw [qq];conv=>whnf
  exact rm _ _ _ h ⟨rfl,rfl⟩
theorem NN {b:qb} {v:Int} (h:Ju b=some v):qg 21 [(.agg [(hR b.1),(.ay (b.2.flatMap p0) b.2.length .shared)])] (hR v):=by
 refine qB dJ afn rfl rfl fun Q bl=>?_;have jy:qn [.tmp 2] Q (fun v=>(hR v)) v:=fun T H bI=>bl _ T H bI;unfold Ju at h;unfold aaC;obtain ⟨Hn,qC⟩:∃ c,P4=c:=⟨_,rfl⟩;rw [qC];conv=>whnf
 refine bs h (fun eW h=>?_) fun eW h=>?_
 ·rw [eW];conv=>whnf
  exact p4 h jy rfl rfl
 ·rw [eW];conv=>whnf
  refine bs h (fun fm h=>?_) fun fm h=>?_
  ·rw [fm];(conv=>whnf);exact p4 h jy rfl rfl
  ·rw [fm];(conv=>whnf);refine bs h (fun qd h=>?_) fun qd h=>?_
   ·rw [qd];(conv=>whnf);exact p4 h jy rfl rfl
   ·rw [qd];(conv=>whnf);subst qC;refine ajG ?_ ?_ (by exact rfl) h
    ·exact fun T H bI=>jy T H bI
    ·intro bA rD p5 h qi;obtain ⟨qZ,rfl⟩:=qi.ex;(conv=>whnf);exact p4 h jy rfl rfl

noncomputable def aaS:eA :=
 Gx [gO 2 [.hI 0] .box,gO 3 [.hI 1] .box,Gk 4 0] (.seq (Gx [gO 5 [.sl 3] (.oR 1),Gj 6 5,FY 7 6 1 .eql] (.cond (.sl 7) (Gx [F4 8 2 1,Gj 9 8,F4 10 3 0,Gj 11 10,Gf 12 9 11 2,F4 13 12 1,Gj 14 13,Gm 4 14] .ret) .skip)) (Gx [F4 15 2 1,Gj 16 15,F4 17 3 0,Gj 18 17,Gf 19 16 18 2,F4 20 19 0,Gj 21 20,Gm 4 21] .ret))
theorem afD:ze Tryz.prog U5 57=some (aaS,22,[.tmp 4]):=by kernel_rfl
def Mu (b:qb) (p:(Int×Int)):Option Int :=
 if (decide (p.2=(1:Int)))=true then
  p6 (0≤p.1∧p.1<(b.2.length:Int)) <|
  some ((ix b.2 p.1).2)
 else
  p6 (0≤p.1∧p.1<(b.2.length:Int)) <|
  some ((ix b.2 p.1).1)
theorem ZX {b:qb} {p:(Int×Int)} {v:Int} (h:Mu b p=some v):qg 57 [(.agg [(hR b.1),(.ay (b.2.flatMap p0) b.2.length .shared)]),(.agg [(hR p.1),(hR p.2)])] (hR v):=by
 refine qB dJ afD rfl rfl fun Q bl=>?_;have jy:qn [.tmp 4] Q (fun v=>(hR v)) v:=fun T H bI=>bl _ T H bI;unfold Mu at h;unfold aaS;conv=>whnf
 refine bs h (fun eW h=>?_) fun eW h=>?_
 ·rw [eW];conv=>whnf
  refine qm h id fun fm h=>?_;rw [q3 p0 2 qw b.2 p.1 fm];conv=>whnf
  exact p4 h jy rfl rfl
 ·rw [eW];conv=>whnf
  refine qm h id fun qd h=>?_;rw [q3 p0 2 qw b.2 p.1 qd];conv=>whnf
  exact p4 h jy rfl rfl

noncomputable def P':eA :=
 .loop (some (Ex false [0,2,3,1,13])) (.seq (Gx [Gl 6 5,Gl 7 0,Gi 8 7,FZ 9 6 8 .lss] (.cond (.sl 9) .skip (.exit 0))) (.seq (.block 1 (Gx [Gl 12 0,Gl 13 5,Gf 14 12 13 2,F4 15 14 0,Gj 16 15,Gl 17 1,FZ 18 16 17 .eql] (.cond (.sl 18) (Gx [gO 4 [.iC (.bool true)] .iS] .ret) .skip))) (Gq [Gm 10 5,FX 11 10 1,Gm 5 11])))
noncomputable def aaY:eA :=
 Gx [gO 4 [.iC (.bool false)] .iS] (.seq (Gx [Gk 5 0] (.block 0 P')) (Gx [gO 4 [.iC (.bool false)] .iS] .ret))
theorem afJ:ze Tryz.prog QH 69=some (aaY,19,[.tmp 4]):=by kernel_rfl
def Lk (row:qc) (Ia:Int) (p9:Unit→Option Bool):Nat→Int→Option Bool
 | 0,_=>none
 | m+1,s1 =>
   if (decide (s1<(row.length:Int)))=true then
    p6 (0≤s1∧s1<(row.length:Int)) <|
    if (decide ((ix row s1).1=Ia))=true then
     some true
    else
     Lk row Ia p9 m (w (s1+(1:Int)))
   else
    p9 ()
def Mx (row:qc) (Ia:Int):Option Bool :=
 Lk row Ia (fun _ =>
   some false) p8 (0:Int)
theorem aj8 {row:qc} {Ia:Int} {p9:Unit→Option Bool} {s1:Int} {v:Bool} {Q:rp}   (jy:qn [.tmp 4] Q (fun v=>(B v)) v) (rm:∀ (p5:List I),p9 ()=some v→q7 19 [] p5→Q (.exit 0) p5 []) {T:List I} (bX:eT (Ex false [0,2,3,1,13]) T=GD 19 [(0,(p7 row .shared)),(1,(hR Ia)),(5,(hR s1))]) (h:Lk row Ia p9 p8 s1=some v) :
  dD Tryz.prog QH 69 0 none P' T [] Q:=by
 unfold P';refine wp_loop bX ?_;refine .intro (fun m T H=>∃ (s1:Int),T=GD 19 [(0,(p7 row .shared)),(1,(hR Ia)),(5,(hR s1))]∧H=[]∧Lk row Ia p9 m s1=some v) p8 ⟨s1,rfl,rfl,h⟩ ?_;clear h bX;rintro m T H ⟨s1,rfl,rfl,h⟩;cases m
 ·exact q9 h
 rename_i m;rw [Lk.eq_2] at h;conv=>whnf
 refine bs h (fun eW h=>?_) fun eW h=>?_
 ·rw [eW];conv=>whnf
  refine qm h id fun fm h=>?_;rw [q3 p0 2 qw row s1 fm];conv=>whnf
  refine bs h (fun qd h=>?_) fun qd h=>?_
  ·rw [qd];(conv=>whnf);exact p4 h jy rfl rfl
  ·rw [qd];(conv=>whnf);exact ⟨m,sv m,(w (s1+(1:Int))),rfl,rfl,h⟩
 ·rw [eW];conv=>whnf
  exact rm  _ h ⟨rfl,rfl⟩
theorem T_ {row:qc} {Ia:Int} {v:Bool} (h:Mx row Ia=some v):qg 69 [(.ay (row.flatMap p0) row.length .shared),(hR Ia)] (B v):=by
 refine qB dJ afJ rfl rfl fun Q bl=>?_;have jy:qn [.tmp 4] Q (fun v=>(B v)) v:=fun T H bI=>bl _ T H bI;unfold Mx at h;unfold aaY;obtain ⟨Hn,qC⟩:∃ c,P'=c:=⟨_,rfl⟩;rw [qC];conv=>whnf
 subst qC;refine aj8 ?_ ?_ (by exact rfl) h
 ·exact fun T H bI=>jy T H bI
 ·intro  p5 h qi;obtain ⟨qZ,rfl⟩:=qi.ex;conv=>whnf
  exact p4 h jy rfl rfl

noncomputable def aaZ:eA :=
 Gx [gO 2 [.hI 0] .box,gO 3 [.hI 1] .box,Gk 4 0] (.seq (Gx [gO 5 [.sl 3] (.oR 1),Gj 6 5,FY 7 6 1 .eql] (.cond (.sl 7) (Gx [F4 8 2 1,Gj 9 8,F4 10 3 0,Gj 11 10,Gf 12 9 11 2,F4 13 12 0,Gj 14 13,Gm 4 14] .ret) .skip)) (Gx [F4 15 2 1,Gj 16 15,F4 17 3 0,Gj 18 17,Gf 19 16 18 2,F4 20 19 1,Gj 21 20,Gm 4 21] .ret))
theorem afK:ze Tryz.prog U' 70=some (aaZ,22,[.tmp 4]):=by kernel_rfl
def My (b:qb) (p:(Int×Int)):Option Int :=
 if (decide (p.2=(1:Int)))=true then
  p6 (0≤p.1∧p.1<(b.2.length:Int)) <|
  some ((ix b.2 p.1).1)
 else
  p6 (0≤p.1∧p.1<(b.2.length:Int)) <|
  some ((ix b.2 p.1).2)
theorem Z3 {b:qb} {p:(Int×Int)} {v:Int} (h:My b p=some v):qg 70 [(.agg [(hR b.1),(.ay (b.2.flatMap p0) b.2.length .shared)]),(.agg [(hR p.1),(hR p.2)])] (hR v):=by
 refine qB dJ afK rfl rfl fun Q bl=>?_;have jy:qn [.tmp 4] Q (fun v=>(hR v)) v:=fun T H bI=>bl _ T H bI;unfold My at h;unfold aaZ;conv=>whnf
 refine bs h (fun eW h=>?_) fun eW h=>?_
 ·rw [eW];conv=>whnf
  refine qm h id fun fm h=>?_;rw [q3 p0 2 qw b.2 p.1 fm];conv=>whnf
  exact p4 h jy rfl rfl
 ·rw [eW];conv=>whnf
  refine qm h id fun qd h=>?_;rw [q3 p0 2 qw b.2 p.1 qd];conv=>whnf
  exact p4 h jy rfl rfl

noncomputable def P1:eA :=
 .loop (some (Ex false [1,2,4,2,94])) (.seq (Gx [Gl 20 8,Gl 21 7,FZ 22 20 21 .lss] (.cond (.sl 22) .skip (.exit 0))) (.seq (.block 1 (.seq (Gr [Gl 25 1,Gl 26 8,Gf 27 25 26 2,F4 28 27 0,Gj 29 28,FY 30 29 0 .lss,Gm 31 30,cP 32 [.sl 1] 31 false .iS,cP 33 [.sl 8] 31 false .iS,cP 34 [.hL 32,.hL 33] 31 false (.pO 2),cP 35 [.hL 34] 31 false (.oR 0),cP 36 [.hL 35] 31 false (.pV .one),cP 37 [.sl 2] 31 false (.oR 1),cP 38 [.hL 37] 31 false (.pV .one),cP 39 [.hI 38] 31 false .w8,cP 40 [.hL 36,.hL 39] 31 false (.bin .geq),gO 41 [.sl 31,.iC (.bool true),.hL 40] .pick,Gm 42 41,cP 43 [.sl 1] 42 false .iS,cP 44 [.sl 8] 42 false .iS,cP 45 [.hL 43,.hL 44] 42 false (.pO 2),cP 46 [.hL 45] 42 false (.oR 1),cP 47 [.hL 46] 42 false (.pV .one),cP 48 [.hL 47,.iC (.int .i64 0)] 42 false (.bin .lss),gO 49 [.sl 42,.iC (.bool true),.hL 48] .pick,Gm 50 49,cP 51 [.sl 1] 50 false .iS,cP 52 [.sl 8] 50 false .iS,cP 53 [.hL 51,.hL 52] 50 false (.pO 2),cP 54 [.hL 53] 50 false (.oR 1),cP 55 [.hL 54] 50 false (.pV .one),cP 56 [.hL 55,.iC (.int .i64 1)] 50 false (.bin .gtr),gO 57 [.sl 50,.iC (.bool true),.hL 56] .pick]) (.cond (.sl 57) (Gx [Gk 4 0,Gk 5 0,Gk 6 3] .ret) .skip))) (Gq [Gm 23 8,FX 24 23 1,Gm 8 24])))
noncomputable def P2:eA :=
 .loop (some (Ex false [1,2,4,1,1,1,93])) (.seq (Gx [Gl 58 9,Gl 59 7,FZ 60 58 59 .lss] (.cond (.sl 60) .skip (.exit 2))) (.seq (.block 3 (.seq (Gr [Gl 63 1,Gl 64 9,gO 65 [.hI 63,.hI 64] (.AW 2 false true false),Gl 66 1,Gl 67 9,Gf 68 66 67 2,F4 69 68 0,Gj 70 69,gO 71 [.iC (.func 69 [] []),.sl 65,.sl 70] (.call 3)]) (.cond (.sl 71) (Gx [Gk 4 0,Gk 5 0,Gk 6 11] .ret) .skip))) (Gq [Gm 61 9,FX 62 61 1,Gm 9 62])))
noncomputable def P3:eA :=
 .loop (some (Ex false [1,2,4,1,2,1,92])) (.seq (Gx [Gl 72 10,Gl 73 7,FZ 74 72 73 .lss] (.cond (.sl 74) .skip (.exit 4))) (.seq (.block 5 (.seq (Gr [gO 77 [.sl 2] (.pV (.str 2)),Gl 78 1,Gl 79 10,FY 80 79 1 .sub,Gf 81 78 80 2,gO 82 [.hL 81] (.pV (.str 2)),gO 83 [.iC (.func 70 [] []),.sl 77,.sl 82] (.call 3),gO 84 [.sl 2] (.pV (.str 2)),Gl 85 1,Gl 86 10,Gf 87 85 86 2,gO 88 [.hL 87] (.pV (.str 2)),gO 89 [.iC (.func 57 [] []),.sl 84,.sl 88] (.call 3),FZ 90 83 89 .neq]) (.cond (.sl 90) (Gx [Gk 4 0,Gk 5 0,Gk 6 27] .ret) .skip))) (Gq [Gm 75 10,FX 76 75 1,Gm 10 76])))
noncomputable def aaA:eA :=
 Gx [gO 2 [.hI 0] .box,Gk 4 0,Gk 5 0,Gk 6 0] (.seq (Gx [gO 11 [.sl 2] (.pV (.str 2)),gO 12 [.iC (.func 21 [] []),.sl 11] (.call 3),FY 13 12 0 .neq] (.cond (.sl 13) (Gx [gO 14 [.hL 2] (.pV (.str 2)),gO 15 [.iC (.func 21 [] []),.sl 14] (.call 3),Gk 4 0,Gk 5 0,Gm 6 15] .ret) .skip)) (Gx [Gl 16 1,Gi 17 16,Gm 7 17] (.seq (Gx [Gl 18 7,FY 19 18 0 .eql] (.cond (.sl 19) (Gx [Gk 4 0,Gk 5 0,Gk 6 6] .ret) .skip)) (.seq (Gx [Gk 8 0] (.block 0 P1)) (.seq (Gx [Gk 9 0] (.block 2 P2)) (.seq (Gx [Gk 10 1] (.block 4 P3)) (.seq (Gr [gO 91 [.sl 2] (.pV (.str 2)),Gl 92 1,gO 93 [.hL 92,.iC (.int .i64 0)] (.pO 2),gO 94 [.hL 93] (.pV (.str 2)),gO 95 [.iC (.func 57 [] []),.sl 91,.sl 94] (.call 3),gO 96 [.sl 2] (.pV (.str 2)),Gl 97 1,Gm 98 7,FY 99 98 1 .sub,Gf 100 97 99 2,gO 101 [.hL 100] (.pV (.str 2)),gO 102 [.iC (.func 70 [] []),.sl 96,.sl 101] (.call 3),Gm 4 95,Gm 5 102,Gk 6 0]) .ret)))))))
theorem afl:ze Tryz.prog MM 19=some (aaA,103,[.tmp 4,.tmp 5,.tmp 6]):=by kernel_rfl
def La (b:qb) (row:qc) (p9:Unit→Option (Int×Int×Int)):Nat→Int→Option (Int×Int×Int)
 | 0,_=>none
 | m+1,s1 =>
   if (decide (s1<(row.length:Int)))=true then
    p6 (0≤s1∧s1<(row.length:Int)) <|
    if (decide ((ix row s1).1<(0:Int)))=true then
     some ((0:Int),(0:Int),(3:Int))
    else
     p6 (0≤s1∧s1<(row.length:Int)) <|
     if (decide ((b.2.length:Int)≤(ix row s1).1))=true then
      some ((0:Int),(0:Int),(3:Int))
     else
      p6 (0≤s1∧s1<(row.length:Int)) <|
      if (decide ((ix row s1).2<(0:Int)))=true then
       some ((0:Int),(0:Int),(3:Int))
      else
       p6 (0≤s1∧s1<(row.length:Int)) <|
       if (decide ((1:Int)<(ix row s1).2))=true then
        some ((0:Int),(0:Int),(3:Int))
       else
        La b row p9 m (w (s1+(1:Int)))
   else
    p9 ()
def Lb (row:qc) (qH:Unit→Option (Int×Int×Int)):Nat→Int→Option (Int×Int×Int)
 | 0,_=>none
 | m+1,s2 =>
   if (decide (s2<(row.length:Int)))=true then
    p6 (0≤s2∧s2≤(row.length:Int)) <|
    p6 (0≤s2∧s2<(row.length:Int)) <|
    (Mx (row.take s2.toNat) ((ix row s2).1)).bind fun eF =>
    if eF=true then
     some ((0:Int),(0:Int),(11:Int))
    else
     Lb row qH m (w (s2+(1:Int)))
   else
    qH ()
def Lc (b:qb) (row:qc) (GU:Unit→Option (Int×Int×Int)):Nat→Int→Option (Int×Int×Int)
 | 0,_=>none
 | m+1,dg =>
   if (decide (dg<(row.length:Int)))=true then
    p6 (0≤(w (dg-(1:Int)))∧(w (dg-(1:Int)))<(row.length:Int)) <|
    (My b (ix row (w (dg-(1:Int))))).bind fun qh =>
    p6 (0≤dg∧dg<(row.length:Int)) <|
    (Mu b (ix row dg)).bind fun qk =>
    if (decide (qh≠qk))=true then
     some ((0:Int),(0:Int),(27:Int))
    else
     Lc b row GU m (w (dg+(1:Int)))
   else
    GU ()
def K_ (b:qb) (row:qc):Option (Int×Int×Int) :=
 (Ju b).bind fun r1 =>
 if (decide (r1≠(0:Int)))=true then
  (Ju b).bind fun r2 =>
  some ((0:Int),(0:Int),r2)
 else
  if (decide ((row.length:Int)=(0:Int)))=true then
   some ((0:Int),(0:Int),(6:Int))
  else
   La b row (fun _ =>
     Lb row (fun _ =>
       Lc b row (fun _ =>
         p6 (0≤(0:Int)∧(0:Int)<(row.length:Int)) <|
         (Mu b (ix row (0:Int))).bind fun rJ =>
         p6 (0≤(w ((row.length:Int)-(1:Int)))∧(w ((row.length:Int)-(1:Int)))<(row.length:Int)) <|
         (My b (ix row (w ((row.length:Int)-(1:Int))))).bind fun HT =>
         some (rJ,HT,(0:Int))) p8 (1:Int)) p8 (0:Int)) p8 (0:Int)
theorem ajD {b:qb} {row:qc} {p9:Unit→Option (Int×Int×Int)} {s1:Int} {v:(Int×Int×Int)} {Q:rp}   (jy:qn [.tmp 4,.tmp 5,.tmp 6] Q (fun v=>(.tuple [(hR v.1),(hR v.2.1),(hR v.2.2)])) v) (rm:∀ (p5:List I),p9 ()=some v→q7 103 [(1,(p7 row .shared)),(2,(.ptr 0 0)),(7,(hR (row.length:Int)))] p5→Q (.exit 0) p5 [G' b]) {T:List I} (bX:eT (Ex false [1,2,4,2,94]) T=GD 103 [(1,(p7 row .shared)),(2,(.ptr 0 0)),(7,(hR (row.length:Int))),(8,(hR s1))]) (h:La b row p9 p8 s1=some v) :
  dD Tryz.prog MM 19 0 none P1 T [G' b] Q:=by
 unfold P1;refine wp_loop bX ?_;refine .intro (fun m T H=>∃ (s1:Int),T=GD 103 [(1,(p7 row .shared)),(2,(.ptr 0 0)),(7,(hR (row.length:Int))),(8,(hR s1))]∧H=[G' b]∧La b row p9 m s1=some v) p8 ⟨s1,rfl,rfl,h⟩ ?_;clear h bX;rintro m T H ⟨s1,rfl,rfl,h⟩;cases m
 ·exact q9 h
 rename_i m;rw [La.eq_2] at h;conv=>whnf
 refine bs h (fun qP h=>?_) fun qP h=>?_
 ·rw [qP];conv=>whnf
  refine qm h id fun q_ h=>?_;rw [q3 p0 2 qw row s1 q_];conv=>whnf
  refine bs h (fun qO h=>?_) fun qO h=>?_
  ·rw [qO];(conv=>whnf);exact p4 h jy rfl rfl
  ·rw [qO];(conv=>whnf);refine qm h id fun qR h=>?_;rw [q3 p0 2 qw row s1 qR];(conv=>whnf);refine bs h (fun ry h=>?_) fun ry h=>?_
   ·rw [ry];(conv=>whnf);exact p4 h jy rfl rfl
   ·rw [ry];(conv=>whnf);refine qm h id fun q4 h=>?_;rw [q3 p0 2 qw row s1 q4];(conv=>whnf);refine bs h (fun rV h=>?_) fun rV h=>?_
    ·rw [rV];(conv=>whnf);exact p4 h jy rfl rfl
    ·rw [rV];(conv=>whnf);refine qm h id fun rE h=>?_;rw [q3 p0 2 qw row s1 rE];(conv=>whnf);refine bs h (fun rz h=>?_) fun rz h=>?_
     ·rw [rz];(conv=>whnf);exact p4 h jy rfl rfl
     ·rw [rz];(conv=>whnf);exact ⟨m,sv m,(w (s1+(1:Int))),rfl,rfl,h⟩
 ·rw [qP];conv=>whnf
  exact rm  _ h ⟨rfl,rfl⟩
theorem ajE {row:qc} {qH:Unit→Option (Int×Int×Int)} {s2:Int} {b:qb} {v:(Int×Int×Int)} {Q:rp}   (jy:qn [.tmp 4,.tmp 5,.tmp 6] Q (fun v=>(.tuple [(hR v.1),(hR v.2.1),(hR v.2.2)])) v) (H4:∀ (p5:List I),qH ()=some v→q7 103 [(1,(p7 row .shared)),(2,(.ptr 0 0)),(7,(hR (row.length:Int)))] p5→Q (.exit 2) p5 [G' b]) {T:List I} (bX:eT (Ex false [1,2,4,1,1,1,93]) T=GD 103 [(1,(p7 row .shared)),(2,(.ptr 0 0)),(7,(hR (row.length:Int))),(9,(hR s2))]) (h:Lb row qH p8 s2=some v) :
  dD Tryz.prog MM 19 0 none P2 T [G' b] Q:=by
 unfold P2;refine wp_loop bX ?_;refine .intro (fun m T H=>∃ (s2:Int),T=GD 103 [(1,(p7 row .shared)),(2,(.ptr 0 0)),(7,(hR (row.length:Int))),(9,(hR s2))]∧H=[G' b]∧Lb row qH m s2=some v) p8 ⟨s2,rfl,rfl,h⟩ ?_;clear h bX;rintro m T H ⟨s2,rfl,rfl,h⟩;cases m
 ·exact q9 h
 rename_i m;rw [Lb.eq_2] at h;conv=>whnf
 refine bs h (fun rS h=>?_) fun rS h=>?_
 ·rw [rS];conv=>whnf
  refine qm h id fun HD h=>?_;erw [Mb p0 2 qw row s2 HD];conv=>whnf
  refine qm h id fun GR h=>?_;rw [q3 p0 2 qw row s2 GR];conv=>whnf
  obtain ⟨eF,HO,h⟩:=p' h;refine ⟨qf.pl,_,T_ HO,IE,?_⟩;conv=>whnf
  cases eF
  ·(conv=>whnf);replace h:=GK rfl h;exact ⟨m,sv m,(w (s2+(1:Int))),rfl,rfl,h⟩
  ·(conv=>whnf);replace h:=GL rfl h;exact p4 h jy rfl rfl
 ·rw [rS];conv=>whnf
  exact H4  _ h ⟨rfl,rfl⟩
theorem ajF {b:qb} {row:qc} {GU:Unit→Option (Int×Int×Int)} {dg:Int} {v:(Int×Int×Int)} {Q:rp}   (jy:qn [.tmp 4,.tmp 5,.tmp 6] Q (fun v=>(.tuple [(hR v.1),(hR v.2.1),(hR v.2.2)])) v) (KO:∀ (p5:List I),GU ()=some v→q7 103 [(1,(p7 row .shared)),(2,(.ptr 0 0)),(7,(hR (row.length:Int)))] p5→Q (.exit 4) p5 [G' b]) {T:List I} (bX:eT (Ex false [1,2,4,1,2,1,92]) T=GD 103 [(1,(p7 row .shared)),(2,(.ptr 0 0)),(7,(hR (row.length:Int))),(10,(hR dg))]) (h:Lc b row GU p8 dg=some v) :
  dD Tryz.prog MM 19 0 none P3 T [G' b] Q:=by
 unfold P3;refine wp_loop bX ?_;refine .intro (fun m T H=>∃ (dg:Int),T=GD 103 [(1,(p7 row .shared)),(2,(.ptr 0 0)),(7,(hR (row.length:Int))),(10,(hR dg))]∧H=[G' b]∧Lc b row GU m dg=some v) p8 ⟨dg,rfl,rfl,h⟩ ?_;clear h bX;rintro m T H ⟨dg,rfl,rfl,h⟩;cases m
 ·exact q9 h
 rename_i m;rw [Lc.eq_2] at h;conv=>whnf
 refine bs h (fun G6 h=>?_) fun G6 h=>?_
 ·rw [G6];conv=>whnf
  refine qm h id fun Iq h=>?_;rw [q3 p0 2 qw row (w (dg-(1:Int))) Iq];conv=>whnf
  obtain ⟨qh,Hi,h⟩:=p' h;refine ⟨qf.pl,_,Z3 Hi,IE,?_⟩;conv=>whnf
  refine qm h id fun JJ h=>?_;rw [q3 p0 2 qw row dg JJ];conv=>whnf
  obtain ⟨qk,Ir,h⟩:=p' h;refine ⟨qf.pl,_,ZX Ir,Qy rfl,?_⟩;conv=>whnf
  refine bs h (fun HP h=>?_) fun HP h=>?_
  ·rw [HP];(conv=>whnf);exact p4 h jy rfl rfl
  ·rw [HP];(conv=>whnf);exact ⟨m,sv m,(w (dg+(1:Int))),rfl,rfl,h⟩
 ·rw [G6];conv=>whnf
  exact KO  _ h ⟨rfl,rfl⟩
theorem ZB {b:qb} {row:qc} {v:(Int×Int×Int)} (h:K_ b row=some v):qg 19 [(.agg [(hR b.1),(.ay (b.2.flatMap p0) b.2.length .shared)]),(.ay (row.flatMap p0) row.length .shared)] (.tuple [(hR v.1),(hR v.2.1),(hR v.2.2)]):=by
 refine qB dJ afl rfl (H5 (pY rfl (pY rfl (pY rfl rfl)))) fun Q bl=>?_;have jy:qn [.tmp 4,.tmp 5,.tmp 6] Q (fun v=>(.tuple [(hR v.1),(hR v.2.1),(hR v.2.2)])) v:=fun T H bI=>bl _ T H bI;unfold K_ at h;unfold aaA;obtain ⟨Hn,qC⟩:∃ c,P1=c:=⟨_,rfl⟩;rw [qC];obtain ⟨KD,rU⟩:∃ c,P2=c:=⟨_,rfl⟩;rw [rU];obtain ⟨Vw,IW⟩:∃ c,P3=c:=⟨_,rfl⟩;rw [IW];conv=>whnf
 obtain ⟨r1,eW,h⟩:=p' h;refine ⟨qf.pl,_,NN eW,?_⟩;conv=>whnf
 refine bs h (fun fm h=>?_) fun fm h=>?_
 ·rw [fm];conv=>whnf
  obtain ⟨r2,qd,h⟩:=p' h;refine ⟨qf.pl,_,NN qd,?_⟩;conv=>whnf
  exact p4 h jy rfl rfl
 ·rw [fm];conv=>whnf
  refine bs h (fun qq h=>?_) fun qq h=>?_
  ·rw [qq];(conv=>whnf);exact p4 h jy rfl rfl
  ·rw [qq];(conv=>whnf);subst qC;refine ajD ?_ ?_ (by exact rfl) h
   ·exact fun T H bI=>jy T H bI
   ·intro  p5 h qi;obtain ⟨qZ,rfl⟩:=qi.ex;(conv=>whnf);subst rU;refine ajE ?_ ?_ (by exact rfl) h
    ·exact fun T H bI=>jy T H bI
    ·intro  p5 h qi;obtain ⟨qZ,rfl⟩:=qi.ex;(conv=>whnf);subst IW;refine ajF ?_ ?_ (by exact rfl) h
     ·exact fun T H bI=>jy T H bI
     ·intro  p5 h qi;obtain ⟨qZ,rfl⟩:=qi.ex;(conv=>whnf);refine qm h id fun Jg h=>?_;rw [q3 p0 2 qw row (0:Int) Jg];(conv=>whnf);obtain ⟨rJ,Jh,h⟩:=p' h;refine ⟨qf.pl,_,ZX Jh,IE,?_⟩;(conv=>whnf);refine qm h id fun Is h=>?_;rw [q3 p0 2 qw row (w ((row.length:Int)-(1:Int))) Is];(conv=>whnf);obtain ⟨HT,J9,h⟩:=p' h;refine ⟨qf.pl,_,Z3 J9,Qy rfl,?_⟩;(conv=>whnf);exact p4 h jy rfl rfl

noncomputable def aaD:eA :=
 Gx [gO 2 [.hI 0] .box,Gk 4 0] (Gx [gO 9 [.sl 2] (.pV (.str 2)),Gl 10 1,gO 11 [.iC (.func 18 [] []),.sl 9,.sl 10] (.call 3),Gm 8 11,GH 12 8 0,GH 13 8 1,gO 14 [.hL 8] (.ext 2),Gm 5 12,Gm 6 13,Gm 7 14] (.seq (.block 0 (Gx [Gl 16 7,FY 17 16 0 .neq,Gm 15 17] (.cond (.sl 15) (Gx [Gm 18 7,Gm 4 18] .ret) (Gx [Gm 20 1,Gi 21 20,F4 22 2 1,Gj 23 22,Gi 24 23,FZ 25 21 24 .lss,Gm 19 25] (.cond (.sl 19) (Gx [Gk 4 15] .ret) (Gx [Gm 27 5,Gm 28 6,FZ 29 27 28 .neq,Gm 26 29] (.cond (.sl 26) (Gx [Gk 4 27] .ret) .skip))))))) (Gx [Gk 4 0] .ret)))
theorem afo:ze Tryz.prog US 22=some (aaD,30,[.tmp 4]):=by kernel_rfl
def Le (b:qb) (row:qc):Option Int :=
 (K7 b row).bind fun r1 =>
 if (decide (r1.2.2≠(0:Int)))=true then
  some r1.2.2
 else
  if (decide ((row.length:Int)<(b.2.length:Int)))=true then
   some (15:Int)
  else
   if (decide (r1.1≠r1.2.1))=true then
    some (27:Int)
   else
    some (0:Int)
theorem ZF {b:qb} {row:qc} {v:Int} (h:Le b row=some v):qg 22 [(.agg [(hR b.1),(.ay (b.2.flatMap p0) b.2.length .shared)]),(.ay (row.flatMap p0) row.length .shared)] (hR v):=by
 refine qB dJ afo rfl rfl fun Q bl=>?_;have jy:qn [.tmp 4] Q (fun v=>(hR v)) v:=fun T H bI=>bl _ T H bI;unfold Le at h;unfold aaD;conv=>whnf
 obtain ⟨r1,eW,h⟩:=p' h;refine ⟨qf.pl,_,T5 eW,?_⟩;conv=>whnf
 refine bs h (fun fm h=>?_) fun fm h=>?_
 ·rw [fm];conv=>whnf
  exact p4 h jy rfl rfl
 ·rw [fm];conv=>whnf
  refine bs h (fun qd h=>?_) fun qd h=>?_
  ·rw [qd];(conv=>whnf);exact p4 h jy rfl rfl
  ·rw [qd];(conv=>whnf);refine bs h (fun qq h=>?_) fun qq h=>?_
   ·rw [qq];(conv=>whnf);exact p4 h jy rfl rfl
   ·rw [qq];(conv=>whnf);exact p4 h jy rfl rfl

noncomputable def aaE:eA :=
 Gx [gO 2 [.hI 0] .box,Gk 4 0] (Gx [gO 9 [.sl 2] (.pV (.str 2)),Gl 10 1,gO 11 [.iC (.func 19 [] []),.sl 9,.sl 10] (.call 3),Gm 8 11,GH 12 8 0,GH 13 8 1,gO 14 [.hL 8] (.ext 2),Gm 5 12,Gm 6 13,Gm 7 14] (.seq (Gx [Gl 15 7,FY 16 15 0 .neq] (.cond (.sl 16) (Gx [Gm 17 7,Gm 4 17] .ret) .skip)) (.seq (Gx [Gm 18 1,Gi 19 18,F4 20 2 1,Gj 21 20,Gi 22 21,FZ 23 19 22 .neq] (.cond (.sl 23) (Gx [Gk 4 15] .ret) .skip)) (.seq (Gx [Gm 24 5,Gm 25 6,FZ 26 24 25 .neq] (.cond (.sl 26) (Gx [Gk 4 27] .ret) .skip)) (Gx [Gk 4 0] .ret)))))
theorem afp:ze Tryz.prog UT 23=some (aaE,27,[.tmp 4]):=by kernel_rfl
def Mo (b:qb) (row:qc):Option Int :=
 (K_ b row).bind fun r1 =>
 if (decide (r1.2.2≠(0:Int)))=true then
  some r1.2.2
 else
  if (decide ((row.length:Int)≠(b.2.length:Int)))=true then
   some (15:Int)
  else
   if (decide (r1.1≠r1.2.1))=true then
    some (27:Int)
   else
    some (0:Int)
theorem ajI {b:qb} {row:qc} {v:Int} (h:Mo b row=some v):qg 23 [(.agg [(hR b.1),(.ay (b.2.flatMap p0) b.2.length .shared)]),(.ay (row.flatMap p0) row.length .shared)] (hR v):=by
 refine qB dJ afp rfl rfl fun Q bl=>?_;have jy:qn [.tmp 4] Q (fun v=>(hR v)) v:=fun T H bI=>bl _ T H bI;unfold Mo at h;unfold aaE;conv=>whnf
 obtain ⟨r1,eW,h⟩:=p' h;refine ⟨qf.pl,_,ZB eW,?_⟩;conv=>whnf
 refine bs h (fun fm h=>?_) fun fm h=>?_
 ·rw [fm];conv=>whnf
  exact p4 h jy rfl rfl
 ·rw [fm];conv=>whnf
  refine bs h (fun qd h=>?_) fun qd h=>?_
  ·rw [qd];(conv=>whnf);exact p4 h jy rfl rfl
  ·rw [qd];(conv=>whnf);refine bs h (fun qq h=>?_) fun qq h=>?_
   ·rw [qq];(conv=>whnf);exact p4 h jy rfl rfl
   ·rw [qq];(conv=>whnf);exact p4 h jy rfl rfl

def FT (b:qb) (l:qc):Option Bool :=
 (NL b).bind fun r1 =>
 if r1=true then
  (Iz).bind fun r2 =>
  some r2
 else
  if (decide ((14:Int)<(l.length:Int)))=true then
   (Iz).bind fun eF =>
   some eF
  else
   (K7 b l).bind fun qh =>
   (K_ b l).bind fun qk =>
   (Mn b).bind fun rJ =>
   (Ju b).bind fun HT =>
   if (decide (rJ=HT))=true then
    if (decide (qh.1=qk.1))=true then
     if (decide (qh.2.1=qk.2.1))=true then
      if (decide (qh.2.2=qk.2.2))=true then
       (Le b l).bind fun Jp =>
       (Mo b l).bind fun H6 =>
       if (decide (Jp=H6))=true then
        (Iz).bind fun Hm =>
        some Hm
       else
        some false
      else
       some false
     else
      some false
    else
     some false
   else
    some false
end Go.Proofs.YtfakoboiahbhaaaGreat.Ab


namespace Go.Proofs.YtfakoboiahbhaaaGreat.Ab
open Go
def HE (lo hi x:Int):Bool:=decide (x<lo) || decide (hi<x)
theorem KX {lo hi x:Int}:HE lo hi x=false↔lo≤x∧x≤hi:=by
 simp only [HE,Bool.or_eq_false_iff,decide_eq_false_iff_not];omega
theorem LU {lo hi x:Int}:HE lo hi x=true↔x<lo∨hi<x:=by
 simp only [HE,tH,decide_eq_true_eq]
def posOf {α:Type} (p:α→Bool):List α→Nat→Int
 | [],_ => -1
 | x::l,i=>if p x=true then (i:Int) else posOf p l (i+1)
theorem Nj {α:Type} (p:α→Bool):∀ (l:List α) (i:Nat),decide (0≤posOf p l i)=l.any p
 | [],_=>rfl
 | x::l,i=>by
   rw [posOf,uy];by_cases h:p x=true
   ·rw [if_pos h,h];simp
   ·rw [if_neg h,Nj p l (i+1)];simp [h]
theorem akp (n lo hi:Int):NZ n lo hi=some (HE lo hi n):=by
 unfold NZ HE;by_cases h:n<lo <;> simp [h]
theorem T1 {s:List Int} {f:Int→Option Bool} {p:Int→Bool} (aQ:∀ x∈s,f x=some (p x)) (ai:s.length≤140737488355328):∀ (m i:Nat) (z:Int),z=i→i≤s.length→s.length-i<m→K5 s f (fun _=>some (-1:Int)) m z=some (posOf p (s.drop i) i)
 | 0,i,_,_,_,h=>absurd h (by omega)
 | m+1,i,_,rfl,hi,hm=>by
   rw [K5];by_cases h:i<s.length
   ·rw [IJ h,Hh h,qW h,aQ _ (sE h),r_,sT h,posOf];by_cases aC:p s[i]=true
    ·rw [if_pos aC,if_pos aC]
    ·rw [if_neg aC,if_neg aC,rH i (by omega),T1 aQ ai m (i+1) _ rfl (by omega) (by omega)]
   ·rw [II h,tb (by omega)];rfl
theorem Ug {s:List (Int×Int)} {f:Int×Int→Option Bool} {p:Int×Int→Bool} (aQ:∀ x∈s,f x=some (p x)) (ai:s.length≤140737488355328):∀ (m i:Nat) (z:Int),z=i→i≤s.length→s.length-i<m→Lp s f (fun _=>some (-1:Int)) m z=some (posOf p (s.drop i) i)
 | 0,i,_,_,_,h=>absurd h (by omega)
 | m+1,i,_,rfl,hi,hm=>by
   rw [Lp];by_cases h:i<s.length
   ·rw [IJ h,Hh h,qW h,aQ _ (sE h),r_,sT h,posOf];by_cases aC:p s[i]=true
    ·rw [if_pos aC,if_pos aC]
    ·rw [if_neg aC,if_neg aC,rH i (by omega),Ug aQ ai m (i+1) _ rfl (by omega) (by omega)]
   ·rw [II h,tb (by omega)];rfl
theorem aaf {s:List (Int×Int)} {f:Int×Int→Option Bool} {p:Int×Int→Bool} (aQ:∀ x∈s,f x=some (p x)) (ai:s.length≤140737488355328):∀ (m i:Nat) (z:Int),z=i→i≤s.length→s.length-i<m→Lq s f (fun _=>some (-1:Int)) m z=some (posOf p (s.drop i) i)
 | 0,i,_,_,_,h=>absurd h (by omega)
 | m+1,i,_,rfl,hi,hm=>by
   rw [Lq];by_cases h:i<s.length
   ·rw [IJ h,Hh h,qW h,aQ _ (sE h),r_,sT h,posOf];by_cases aC:p s[i]=true
    ·rw [if_pos aC,if_pos aC]
    ·rw [if_neg aC,if_neg aC,rH i (by omega),aaf aQ ai m (i+1) _ rfl (by omega) (by omega)]
   ·rw [II h,tb (by omega)];rfl
theorem Uf {s:List Int} {f:Int→Option Bool} {p:Int→Bool} (aQ:∀ x∈s,f x=some (p x)) (ai:s.length≤140737488355328):JW s f=some (s.any p):=by
 have:=T1 aQ ai p8 0 0 rfl (sr _) (rC (by omega));rw [sO] at this;rw [JW,Ml,this,r_,Nj]
theorem aj7 {s:List (Int×Int)} {f:Int×Int→Option Bool} {p:Int×Int→Bool} (aQ:∀ x∈s,f x=some (p x)) (ai:s.length≤140737488355328):Mw s f=some (s.any p):=by
 have:=Ug aQ ai p8 0 0 rfl (sr _) (rC (by omega));rw [sO] at this;rw [Mw,Kx,this,r_,Nj]
theorem aj_ {s:List (Int×Int)} {f:Int×Int→Option Bool} {p:Int×Int→Bool} (aQ:∀ x∈s,f x=some (p x)) (ai:s.length≤140737488355328):NW s f=some (s.any p):=by
 have:=aaf aQ ai p8 0 0 rfl (sr _) (rC (by omega));rw [sO] at this;rw [NW,PS,this,r_,Nj]
theorem PC (lo hi:Int) (l:List Int) (ak:l.length≤140737488355328):Kr lo hi l=some (!(l.any (HE lo hi))):=by
 rw [Kr,Uf (p:=HE lo hi) (fun x _=>akp x lo hi) ak,r_]
def Ie (f:Int) (s:Int×Int):Bool:=HE 0 (f-1) s.1 || HE 0 (f-1) s.2
def qL (b:p3):Int:=if b.1<1∨6<b.1∨(10:Int)<(b.2.length:Int) then 6 else if b.2.any (Ie b.1)=true then 3 else 0
structure qu (b:p3):Prop where
 f1:1≤b.1
 f6:b.1≤6
 len:b.2.length≤10
 left:∀ s∈b.2,0≤s.1∧s.1<b.1
 right:∀ s∈b.2,0≤s.2∧s.2<b.1
theorem G_ {b:p3}:qL b=0↔qu b:=by
 unfold qL;constructor
 ·intro h;split at h
  ·omega
  ·rename_i ad;split at h
   ·omega
   ·rename_i af;(have af:b.2.any (Ie b.1)=false:=by simpa using af);rw [uz] at af;have aG:∀ s∈b.2,HE 0 (b.1-1) s.1=false∧HE 0 (b.1-1) s.2=false:=fun s ai=>by
     have:=af s ai;unfold Ie at this;simpa using this
    exact ⟨by omega,by omega,by omega,fun s ai=>by have:=KX.1 (aG s ai).1;omega,fun s ai=>by have:=KX.1 (aG s ai).2;omega⟩
 ·intro h;obtain ⟨ad,af,aG,a6,bL⟩:=h;rw [if_neg (by omega),if_neg];rw [Bool.not_eq_true,uz];intro s ai;have a:=a6 s ai;have c:=bL s ai;unfold Ie;rw [KX.2 (by omega),KX.2 (by omega)];decide
theorem PA (b:p3) (ag:b.2.length≤1000):Mn b=some (qL b):=by
 rw [Mn,PC _ _ _ (by simp),r_];unfold qL;simp only [uy,v_,wa];by_cases h:1≤b.1∧b.1≤6
 ·rw [KX.2 h,if_pos (by decide)];by_cases af:(10:Int)<(b.2.length:Int)
  ·rw [if_pos (decide_eq_true af),if_pos (by omega)]
  ·rw [if_neg (by simpa using af),if_neg (by omega),aj_ (p:=Ie b.1) (fun s _=>by
    rw [PE,HH (by omega),PC _ _ _ (by simp),r_]
    simp [Ie]) (by omega),r_]
   cases b.2.any (Ie b.1) <;> rfl
 ·have:HE 1 6 b.1=true:=by rw [LU];omega
  rw [this,if_neg (by decide),if_pos (by omega)]
theorem ZD {b:p3} (ag:b.2.length≤1000) (aQ:1≤b.1):∀ (m i:Nat) (z:Int),z=i→i≤b.2.length→b.2.length-i<m→Ld b (fun _=>some (0:Int)) m z=some (if (b.2.drop i).any (Ie b.1)=true then 3 else 0)
 | 0,i,_,_,_,h=>absurd h (by omega)
 | m+1,i,_,rfl,hi,hm=>by
   rw [Ld];by_cases h:i<b.2.length
   ·rw [IJ h,Hh h,qW h,sT h,uy];have e:Ie b.1 b.2[i]=true↔b.2[i].1<0∨b.1≤b.2[i].1∨b.2[i].2<0∨b.1≤b.2[i].2:=by
     unfold Ie;rw [tH,LU,LU];omega
    by_cases ai:Ie b.1 b.2[i]=true
    ·have aX:=e.1 ai;rw [ai,wb,if_pos rfl];by_cases aB:b.2[i].1<0
     ·rw [if_pos (decide_eq_true aB)]
     rw [if_neg (by simpa using aB)];by_cases aH:b.1≤b.2[i].1
     ·rw [if_pos (decide_eq_true aH)]
     rw [if_neg (by simpa using aH)];by_cases aR:b.2[i].2<0
     ·rw [if_pos (decide_eq_true aR)]
     rw [if_neg (by simpa using aR),if_pos (decide_eq_true (by omega))]
    ·have aX:=(not_congr e).1 ai;(have g1:Ie b.1 b.2[i]=false:=by simpa using ai);rw [g1,u5,if_neg (by simp;omega),if_neg (by simp;omega),if_neg (by simp;omega),if_neg (by simp;omega),rH i (by omega),ZD ag aQ m (i+1) _ rfl (by omega) (by omega)]
   ·rw [II h,tb (by omega)];rfl
theorem T6 (b:p3) (ag:b.2.length≤1000):Ju b=some (qL b):=by
 rw [Ju];unfold qL;by_cases ad:b.1<1
 ·rw [if_pos (decide_eq_true ad),if_pos (.inl ad)]
 rw [if_neg (by simpa using ad)];by_cases af:6<b.1
 ·rw [if_pos (decide_eq_true af),if_pos (.inr (.inl af))]
 rw [if_neg (by simpa using af)];by_cases aG:(10:Int)<(b.2.length:Int)
 ·rw [if_pos (decide_eq_true aG),if_pos (.inr (.inr aG))]
 rw [if_neg (by simpa using aG),if_neg (by omega),ZD ag (by omega) p8 0 0 rfl (sr _) (rC (by omega)),sO]
abbrev Row:=List (Int×Int)
def GX (b:p3) (p:Int×Int):Bool:=HE 0 ((b.2.length:Int)-1) p.1 || HE 0 1 p.2
theorem Mc {b:p3} {p:Int×Int}:GX b p=false↔0≤p.1∧p.1<(b.2.length:Int)∧0≤p.2∧p.2≤1:=by
 unfold GX;rw [Bool.or_eq_false_iff,KX,KX];omega
def Hb:Row→Row→Bool
 | _,[]=>false
 | pre,p::r=>if (pre.any fun q=>decide (q.1=p.1))=true then true else Hb (pre++[p]) r
def qv (b:p3):Int→Row→Option Int
 | a,[]=>some a
 | a,p::r=>if qp b p=a then qv b (fin b p) r else none
def re (b:p3) (row:Row):Int×Int×Int :=
 if qL b≠0 then (0,0,qL b) else match row with
 | []=>(0,0,6)
 | p::r=>if (p::r).any (GX b)=true then (0,0,3) else if Hb [] (p::r)=true then (0,0,11) else match qv b (qp b p) (p::r) with
   | none=>(0,0,27)
   | some a=>(qp b p,a,0)
theorem aj6 {b:p3} (ag:b.2.length≤1000) (p:Int×Int):Mv p b=some (GX b p):=by
 rw [Mv,HH (by omega),PC _ _ _ (by simp),r_];unfold GX;simp only [uy,v_,wa];cases HE 0 ((b.2.length:Int)-1) p.1 with
 | true=>rfl
 | false=>rw [if_pos (by decide),PC _ _ _ (by simp),r_];simp
theorem ack {α:Type} (f:α→Bool) (l:List α) (x:α):(l++[x]).any f=(l.any f || f x):=by simp
theorem Kj {α:Type} {l:List α} {i:Nat} (h:i<l.length):l.take (i+1)=l.take i++[l[i]]:=by
 rw [List.take_add_one,sq h];rfl
theorem KT {t:List Int} {c:Nat} {x:Int} (h:c<t.length):ix (t.set c x) (c:Int)=x:=by unfold ix;simp [sG,h]
theorem JL {t:List Int} {c j:Nat} {x:Int} (h:j≠c):ix (t.set c x) (j:Int)=ix t (j:Int):=by unfold ix;simp [sG,si (Ne.symm h)]
theorem R1 {n:Nat} (j:Int):ix (List.replicate n (0:Int)) j=0:=by
 unfold ix;rw [sG,List.getElem?_replicate];split <;> rfl
theorem Zv {row:Row} {k:Unit→Option (Int×Int×Int)} (aj:row.length≤1000) (gZ:∀ p∈row,0≤p.1∧p.1<10):∀ (m i:Nat) (z:Int) (t:List Int),z=i→i≤row.length→row.length-i<m→t.length=10 →
  (∀ j:Nat,j<10→(0<ix t (j:Int)↔((row.take i).any fun q=>decide (q.1=(j:Int)))=true))→K8 row k m z t=if Hb (row.take i) (row.drop i)=true then some (0,0,11) else k ()
 | 0,i,_,_,_,_,h,_,_=>absurd h (by omega)
 | m+1,i,_,t,rfl,hi,hm,ax,bX=>by
   rw [K8];by_cases h:i<row.length
   ·have aC:=gZ _ (sE h);obtain ⟨c,ao⟩:∃ c:Nat,row[i].1=(c:Int):=⟨row[i].1.toNat,by omega⟩;rw [IJ h,Hh h,qW h,qe ⟨aC.1,aC.2,ax.symm⟩,sT h,Hb,ao];by_cases al:0<ix t (c:Int)
    ·rw [if_pos (decide_eq_true al),if_pos ((bX c (by omega)).1 al),if_pos rfl]
    ·rw [if_neg (by simpa using al),if_neg (fun e=>al ((bX c (by omega)).2 e)),qe ⟨by omega,by omega,ax.symm⟩,rH i (by omega),
      Zv aj gZ m (i+1) _ _ rfl (by omega) (by omega) (by simpa using ax) (fun j aw=>?_),Kj h]
     rw [Kj h,ack,ao];by_cases pn:j=c
     ·subst pn;rw [th,KT (by omega)];simp
     ·rw [th,JL pn,bX j aw];simp [show ¬ (c:Int)=(j:Int) by omega]
   ·rw [II h,tb (by omega)];simp [Hb]
theorem Zw {b:p3} {row:Row} {k:Int→Option (Int×Int×Int)} (aj:row.length≤1000) (gZ:∀ p∈row,0≤p.1∧p.1<(b.2.length:Int)):∀ (m i:Nat) (z a:Int),z=i→i≤row.length→row.length-i<m →
  K9 row b k m a z=match qv b a (row.drop i) with | none=>some (0,0,27) | some aM=>k aM
 | 0,i,_,_,_,_,h=>absurd h (by omega)
 | m+1,i,_,a,rfl,hi,hm=>by
   rw [K9];by_cases h:i<row.length
   ·rw [IJ h,Hh h,qW h,I5 (gZ _ (sE h)),r_,sT h,qv];by_cases ag:qp b row[i]=a
    ·rw [if_pos ag,if_neg (by simp [ag]),rH i (by omega),Zw aj gZ m (i+1) _ _ rfl (by omega) (by omega)]
    ·rw [if_neg ag,if_pos (decide_eq_true ag)]
   ·rw [II h,tb (by omega)];rfl
theorem T4 (b:p3) (row:Row) (ag:b.2.length≤1000) (aj:row.length≤1000):K7 b row=some (re b row):=by
 rw [K7,IA,PA b ag,r_];unfold re;by_cases aS:qL b≠0
 ·rw [if_pos (decide_eq_true aS),r_];dsimp only;rw [if_pos (decide_eq_true aS),if_pos aS]
 have p2:=G_.1 (uJ.1 aS);rw [if_neg (by simpa using aS),r_,if_neg aS];dsimp only;rw [if_neg (by decide)];cases row with
 | nil=>rfl
 | cons p r =>
   rw [if_neg (by simp;omega),aj7 (p:=GX b) (fun q _=>aj6 ag q) (by omega),r_];dsimp only;by_cases ad:(p::r).any (GX b)=true
   ·rw [if_pos ad,if_pos ad]
   rw [if_neg ad,if_neg ad,qe (by simp)];(have iF:(p::r).any (GX b)=false:=by simpa using ad);rw [uz] at iF;have gZ:∀ q∈p::r,0≤q.1∧q.1<(b.2.length:Int):=fun q a3=>by
    have:=Mc.1 (by simpa using iF q a3);exact ⟨this.1,this.2.1⟩
   have hlen:=p2.len;rw [Zv aj (fun q a3=>by have:=gZ q a3;omega) p8 0 0 _ rfl (sr _) (rC (by omega)) (by simp) (fun j aw=>by rw [R1];simp),tf,sO];by_cases af:Hb [] (p::r)=true
   ·rw [if_pos af,if_pos af]
   rw [if_neg af,if_neg af,qe (by simp),show ix (p::r) (0:Int)=p from rfl,I5 (gZ p (by simp)),r_,Zw aj gZ p8 0 0 _ rfl (sr _) (rC (by omega)),sO];cases qv b (qp b p) (p::r) <;> rfl
theorem Z1 {row:Row} {s:Int} (aj:row.length≤1000):∀ (m i:Nat) (z:Int),z=i→i≤row.length→row.length-i<m→Lk row s (fun _=>some false) m z=some ((row.drop i).any fun q=>decide (q.1=s))
 | 0,i,_,_,_,h=>absurd h (by omega)
 | m+1,i,_,rfl,hi,hm=>by
   rw [Lk];by_cases h:i<row.length
   ·rw [IJ h,Hh h,qW h,sT h,uy];by_cases aC:row[i].1=s
    ·rw [if_pos (decide_eq_true aC)];simp [aC]
    ·rw [if_neg (by simpa using aC),rH i (by omega),Z1 aj m (i+1) _ rfl (by omega) (by omega)];simp [aC]
   ·rw [II h,tb (by omega)];rfl
theorem Z0 (row:Row) (s:Int) (aj:row.length≤1000):Mx row s=some (row.any fun q=>decide (q.1=s)):=by
 rw [Mx,Z1 aj p8 0 0 rfl (sr _) (rC (by omega)),sO]
theorem ZW {b:p3} {p:Int×Int} (h:GX b p=false):Mu b p=some (qp b p):=by
 have h:=Mc.1 h;rw [Mu];unfold qp;by_cases ad:p.2=1
 ·rw [if_pos (decide_eq_true ad),if_pos (by omega),qe ⟨by omega,by omega⟩]
 ·rw [if_neg (by simpa using ad),if_neg (by omega),qe ⟨by omega,by omega⟩]
theorem Z2 {b:p3} {p:Int×Int} (h:GX b p=false):My b p=some (fin b p):=by
 have h:=Mc.1 h;rw [My];unfold fin;by_cases ad:p.2=1
 ·rw [if_pos (decide_eq_true ad),if_pos (by omega),qe ⟨by omega,by omega⟩]
 ·rw [if_neg (by simpa using ad),if_neg (by omega),qe ⟨by omega,by omega⟩]
theorem Zy {b:p3} {row:Row} {k:Unit→Option (Int×Int×Int)} (aj:row.length≤1000):∀ (m i:Nat) (z:Int),z=i→i≤row.length→row.length-i<m →
  La b row k m z=if (row.drop i).any (GX b)=true then some (0,0,3) else k ()
 | 0,i,_,_,_,h=>absurd h (by omega)
 | m+1,i,_,rfl,hi,hm=>by
   rw [La];by_cases h:i<row.length
   ·rw [IJ h,Hh h,qW h,sT h,uy];have e:GX b row[i]=true↔row[i].1<0∨(b.2.length:Int)≤row[i].1∨row[i].2<0∨1<row[i].2:=by
     unfold GX;rw [tH,LU,LU];omega
    by_cases ai:GX b row[i]=true
    ·have aX:=e.1 ai;rw [ai,wb,if_pos rfl];by_cases aB:row[i].1<0
     ·rw [if_pos (decide_eq_true aB)]
     rw [if_neg (by simpa using aB),Hh h];by_cases aH:(b.2.length:Int)≤row[i].1
     ·rw [if_pos (decide_eq_true aH)]
     rw [if_neg (by simpa using aH),Hh h];by_cases aR:row[i].2<0
     ·rw [if_pos (decide_eq_true aR)]
     rw [if_neg (by simpa using aR),Hh h,if_pos (decide_eq_true (by omega))]
    ·have aX:=(not_congr e).1 ai;(have g1:GX b row[i]=false:=by simpa using ai);rw [g1,u5,if_neg (by simp;omega),Hh h,if_neg (by simp;omega),Hh h,if_neg (by simp;omega),Hh h,if_neg (by simp;omega),rH i (by omega),Zy aj m (i+1) _ rfl (by omega) (by omega)]
   ·rw [II h,tb (by omega)];rfl
theorem Zz {row:Row} {k:Unit→Option (Int×Int×Int)} (aj:row.length≤1000):∀ (m i:Nat) (z:Int),z=i→i≤row.length→row.length-i<m →
  Lb row k m z=if Hb (row.take i) (row.drop i)=true then some (0,0,11) else k ()
 | 0,i,_,_,_,h=>absurd h (by omega)
 | m+1,i,_,rfl,hi,hm=>by
   rw [Lb];by_cases h:i<row.length
   ·rw [IJ h,qe ⟨by omega,by omega⟩,Hh h,qW h,th,Z0 _ _ (by simp;omega),r_,sT h,Hb];by_cases al:((row.take i).any fun q=>decide (q.1=row[i].1))=true
    ·rw [if_pos al,if_pos al,if_pos rfl]
    ·rw [if_neg al,if_neg al,rH i (by omega),Zz aj m (i+1) _ rfl (by omega) (by omega),Kj h]
   ·rw [II h,tb (by omega)];simp [Hb]
theorem ZA {b:p3} {row:Row} {k:Unit→Option (Int×Int×Int)} (aj:row.length≤1000) (gZ:∀ p∈row,GX b p=false):∀ (m i:Nat) (z:Int),z=((i+1:Nat):Int)→(hi:i<row.length)→row.length-i<m →
  Lc b row k m z=match qv b (fin b row[i]) (row.drop (i+1)) with | none=>some (0,0,27) | some _=>k ()
 | 0,i,_,_,_,h=>absurd h (by omega)
 | m+1,i,_,rfl,hi,hm=>by
   rw [Lc];by_cases h:i+1<row.length
   ·rw [IJ h,show w (((i+1:Nat):Int)-1)=((i:Nat):Int) by rw [HH (by omega)];omega,Hh hi,qW hi,Z2 (gZ _ (sE hi)),r_,Hh h,qW h,ZW (gZ _ (sE h)),r_,sT h,qv];by_cases ag:qp b row[i+1]=fin b row[i]
    ·rw [if_pos ag,if_neg (by simp [ag]),rH (i+1) (by omega),ZA aj gZ m (i+1) _ rfl h (by omega)]
    ·rw [if_neg ag,if_pos (decide_eq_true (Ne.symm ag))]
   ·rw [II h,tb (by omega)];rfl
theorem XW {b:p3}:∀ (l:Row) (a aM:Int) (h:l≠[]),qv b a l=some aM→aM=fin b (l.getLast h)
 | [],_,_,h,_=>absurd rfl h
 | [p],a,aM,_,h=>by
   rw [qv] at h;split at h
   ·rw [qv] at h;cases h;rfl
   ·cases h
 | p::q::r,a,aM,_,h=>by
   rw [qv] at h;split at h
   ·rw [List.getLast_cons (by simp)];exact XW (q::r) _ aM (by simp) h
   ·cases h
theorem Zx (b:p3) (row:Row) (ag:b.2.length≤1000) (aj:row.length≤1000):K_ b row=some (re b row):=by
 rw [K_,T6 b ag,r_];unfold re;by_cases aS:qL b≠0
 ·rw [if_pos (decide_eq_true aS),r_,if_pos aS]
 rw [if_neg (by simpa using aS),if_neg aS];cases row with
 | nil=>rfl
 | cons p r =>
   rw [if_neg (by simp;omega),Zy aj p8 0 0 rfl (sr _) (rC (by omega)),sO];dsimp only;by_cases ad:(p::r).any (GX b)=true
   ·rw [if_pos ad,if_pos ad]
   rw [if_neg ad,if_neg ad];(have iF:(p::r).any (GX b)=false:=by simpa using ad);rw [uz] at iF;(have gZ:∀ q∈p::r,GX b q=false:=fun q a3=>by simpa using iF q a3);rw [Zz aj p8 0 0 rfl (sr _) (rC (by omega)),tf,sO];by_cases af:Hb [] (p::r)=true
   ·rw [if_pos af,if_pos af]
   rw [if_neg af,if_neg af,ZA aj gZ p8 0 1 rfl (by simp) (rC (by omega))];rw [show qv b (qp b p) (p::r)=qv b (fin b p) r by rw [qv,if_pos rfl]];show (match qv b (fin b p) r with | none=>_ | some _=>_)=_;cases aO:qv b (fin b p) r with
   | none=>rfl
   | some a =>
     have ak:(r.length+1:Nat)=(p::r).length:=rfl;dsimp only
     rw [qe (by simp),show ix (p::r) (0:Int)=p from rfl,ZW (gZ p (by simp)),r_,
      show w (((p::r).length:Int)-1)=((r.length:Nat):Int) by rw [HH (by omega)];omega,Hh (by simp),qW (by simp),Z2 (gZ _ (sE _)),r_]
     have:=XW (p::r) (qp b p) a (by simp) (by rw [qv,if_pos rfl];exact aO);rw [this,List.getLast_eq_getElem];rfl
def Jq (b:p3) (row:Row):Int:=let r:=re b row;if r.2.2≠0 then r.2.2 else if row.length<b.2.length then 15 else if r.1≠r.2.1 then 27 else 0
theorem QZ:∀ (r pre:Row),Hb pre r=false→(pre.map (·.1)).Nodup→((pre++r).map (·.1)).Nodup
 | [],pre,_,h=>by simpa using h
 | p::r,pre,h,aN=>by
   rw [Hb] at h;split at h
   ·cases h
   ·rename_i al
    have:=QZ r (pre++[p]) h (by
     rw [List.map_append,ua];refine ⟨aN,by simp,fun a cd c ao=>?_⟩;simp only [se,List.map_nil,sB] at ao;subst ao;intro e;apply al;rw [uU];obtain ⟨q,a3,rfl⟩:=ss.1 cd
     exact ⟨q,a3,by simp [e]⟩)
    simpa using this
theorem Yb:∀ (a b:List Nat),a.Nodup→(∀ x∈a,x∈b)→a.length≤b.length
 | [],_,_,_=>sr _
 | x::a,b,aN,h=>by
   obtain ⟨ad,af⟩:=uh.1 aN;have al:=h x (by simp);have:=Yb a (b.erase x) af fun y a0=>by
    have bM:y≠x:=fun e=>ad (e ▸ a0);exact (List.mem_erase_of_ne bM).2 (h y (by simp [a0]))
   rw [List.length_erase_of_mem al] at this;have:=wc al;simp only [sH];omega
theorem Kc {l:List Int} {n:Nat} (h:l.Nodup) (ag:∀ x∈l,0≤x∧x<(n:Int)):l.length≤n:=by
 have ad:(l.map Int.toNat).Nodup:=by
  rw [List.Nodup,List.pairwise_map];refine h.imp_of_mem fun {a c} cd ao bM e=>bM ?_;have:=ag a cd;have:=ag c ao;omega
 have af:∀ x∈l.map Int.toNat,x∈List.range n:=fun x al=>by
  obtain ⟨y,a0,rfl⟩:=ss.1 al;have:=ag y a0;exact sJ.2 (by omega)
 have:=Yb _ _ ad af;simpa using this
theorem VA {b:p3} {row:Row} (h:(re b row).2.2=0):qu b∧row≠[]∧(∀ p∈row,GX b p=false)∧(row.map (·.1)).Nodup∧qv b (re b row).1 row=some (re b row).2.1:=by
 unfold re at h ⊢;by_cases aS:qL b≠0
 ·rw [if_pos aS] at h;exact absurd h aS
 have p2:=G_.1 (uJ.1 aS);rw [if_neg aS] at h ⊢;cases row with
 | nil=>simp at h
 | cons p r =>
   dsimp only at h ⊢;by_cases ad:(p::r).any (GX b)=true
   ·rw [if_pos ad] at h;simp at h
   rw [if_neg ad] at h ⊢;(have iF:(p::r).any (GX b)=false:=by simpa using ad);rw [uz] at iF;(have gZ:∀ q∈p::r,GX b q=false:=fun q a3=>by simpa using iF q a3);by_cases af:Hb [] (p::r)=true
   ·rw [if_pos af] at h;simp at h
   rw [if_neg af] at h ⊢;(have F8:Hb [] (p::r)=false:=by simpa using af);have aZ:=QZ (p::r) [] F8 (by simp);rw [tW] at aZ;cases aO:qv b (qp b p) (p::r) with
   | none=>rw [aO] at h;simp at h
   | some a=>exact ⟨p2,by simp,gZ,aZ,aO⟩
theorem ZE (b:p3) (row:Row) (ag:b.2.length≤1000) (aj:row.length≤1000):Le b row=some (Jq b row):=by
 rw [Le,T4 b row ag aj,r_];unfold Jq;dsimp only;by_cases h:(re b row).2.2=0
 ·rw [if_neg (c:=decide ((re b row).2.2≠0)=true) (by simp [h]),if_neg (c:=(re b row).2.2≠0) (by simp [h])];by_cases ad:row.length<b.2.length
  ·rw [if_pos (decide_eq_true (by omega)),if_pos ad]
  ·rw [if_neg (by simp;omega),if_neg ad];by_cases af:(re b row).1≠(re b row).2.1
   ·rw [if_pos (decide_eq_true af),if_pos af]
   ·rw [if_neg (by simpa using af),if_neg af]
 ·rw [if_pos (decide_eq_true h),if_pos h]
theorem ajH (b:p3) (row:Row) (ag:b.2.length≤1000) (aj:row.length≤1000):Mo b row=some (Jq b row):=by
 rw [Mo,Zx b row ag aj,r_];unfold Jq;dsimp only;by_cases h:(re b row).2.2=0
 ·rw [if_neg (c:=decide ((re b row).2.2≠0)=true) (by simp [h]),if_neg (c:=(re b row).2.2≠0) (by simp [h])];obtain ⟨_,_,aG,a6,_⟩:=VA h;have bL:row.length≤b.2.length:=by
   have:=Kc (n:=b.2.length) a6 (fun x al=>by
    obtain ⟨p,aC,rfl⟩:=ss.1 al
    have:=Mc.1 (aG p aC);omega)
   simpa using this
  by_cases ad:row.length<b.2.length
  ·rw [if_pos (decide_eq_true (by omega)),if_pos ad]
  ·rw [if_neg (by simp;omega),if_neg ad];by_cases af:(re b row).1≠(re b row).2.1
   ·rw [if_pos (decide_eq_true af),if_pos af]
   ·rw [if_neg (by simpa using af),if_neg af]
 ·rw [if_pos (decide_eq_true h),if_pos h]
end Go.Proofs.YtfakoboiahbhaaaGreat.Ab


namespace Go.Proofs.YtfakoboiahbhaaaGreat.Ab
open Go
set_option maxRecDepth 20000
set_option maxHeartbeats 4000000
noncomputable def aa5:eA :=
 Gx [gO 2 [.hI 0] .box,gO 3 [.hI 1] .box,gO 4 [.iC .junk] .iS] (Gx [gO 5 [.hL 2,.hL 3] (.zu 113 0 2),Gm 4 5] .ret)
theorem afQ:ze Tryz.prog Ve 89=some (aa5,6,[.tmp 4]):=by kernel_rfl
def PM (t:qb) (figure:Int):Option Unit :=
 some ()
theorem akm {t:qb} {figure:Int} {v:Unit} (h:PM t figure=some v):qg 89 [(.bU [(hR t.1),(.ay (t.2.flatMap p0) t.2.length .shared)]),(hR figure)] (.func 113 [] [(.bU [(.bU [(hR t.1),(.ay (t.2.flatMap p0) t.2.length .shared)])]),(.bU [(hR figure)])]):=by
 refine qB dJ afQ rfl (I1 rfl (pY (qK (pY (qK (pY rfl (pY (qG (fun _=>(pY rfl (pY rfl rfl))) _ _ _) rfl))) rfl)) (pY (qK (pY rfl rfl)) rfl))) fun Q bl=>?_;have jy:∀ T H,HW [.tmp 4] (.func 113 [] [(.bU [(.bU [(hR t.1),(p7 t.2 .shared)])]),(.bU [(hR figure)])]) .ret T H→Q .ret T H:=fun T H bI=>bl _ T H bI;unfold PM at h;unfold aa5;conv=>whnf
 exact jy _ _ ⟨.inr rfl,_,rfl,_,(adp R7 (OO (V8 (l:=[(.bU [(hR t.1),(p7 t.2 .shared)])]) (by first | exact ql.h | rfl | (simp [sc,I.settle];done)) (pY (qK (pY rfl (pY (qG (fun _=>(pY rfl (pY rfl rfl))) _ _ _) rfl))) rfl)) (OO (V8 (l:=[(hR figure)]) (by first | exact ql.h | rfl | (simp [sc,I.settle];done)) (pY rfl rfl)) R7))),rfl⟩

def PI (p9:qa→Option qa):Nat→Int→qa→Option qa
 | 0,_,_=>none
 | m+1,s1,s2 =>
   if (decide (s1<(6:Int)))=true then
    p6 (0≤s1∧s1<(6:Int)∧6=s2.length) <|
    PI p9 m (w (s1+(1:Int))) (s2.set s1.toNat (-1:Int))
   else
    p9 s2
def NY (t:qb) (without:Int) (Gw:qa) (ah5:qa×qa) (e1:(Int×Int)):Option (qa×qa) :=
 match ah5 with
 | (t1,t2) =>
   (Ks t e1).bind fun r2 =>
   if (decide (e1.1≠without))=true then
    p6 (0≤r2.2∧r2.2<(6:Int)∧6=t2.length) <|
    if (decide ((ix t2 r2.2)<(0:Int)))=true then
     p6 (0≤(ix Gw (0:Int))∧(ix Gw (0:Int))<(6:Int)∧6=t2.length) <|
     p6 (0≤r2.2∧r2.2<(6:Int)∧6=t2.length) <|
     p6 ((t1.length+1)*8≤140737488355328) <|
     some ((t1++[r2.2]),(t2.set r2.2.toNat (w ((ix t2 (ix Gw (0:Int)))+(1:Int)))))
    else
     some (t1,t2)
   else
    some (t1,t2)
def PJ (t:qb) (without:Int) (qH:qa→Option qa):Nat→qa→qa→Option qa
 | 0,_,_=>none
 | m+1,dg,Gw =>
   if (decide ((0:Int)<(Gw.length:Int)))=true then
    p6 (0≤(0:Int)∧(0:Int)<(Gw.length:Int)) <|
    p6 (0≤(1:Int)∧(1:Int)≤(Gw.length:Int)) <|
    (PM t (ix Gw (0:Int))).bind fun r1 =>
    (Kh t (ix Gw (0:Int))).bind fun dL =>
    (HM (NY t without Gw) dL ((Gw.drop (1:Int).toNat),dg)).bind fun eF =>
    PJ t without qH m eF.2 eF.1
   else
    qH dg
def Z7 (t:qb) (to without:Int):Option qa :=
 PI (fun xY =>
   p6 (0≤to∧to<(6:Int)∧6=xY.length) <|
   PJ t without (fun om =>
     p6 (om.length=6) <|
     p6 (om.length=6∧(List.replicate 6 (0:Int)).length=6) <|
     p6 (om.length=6) <|
     some om) p8 (xY.set to.toNat (0:Int)) [to]) p8 (0:Int) (List.replicate 6 (0:Int))
end Go.Proofs.YtfakoboiahbhaaaGreat.Ab


namespace Go.Proofs.YtfakoboiahbhaaaGreat.Ab
open Go
def Hg (b:p3) (wo f g:Int):Prop:=∃ p∈places b f,p.1≠wo∧fin b p=g
def G9 (b:p3) (wo:Int):Nat→Int→Int→Prop
 | 0,a,g=>a=g
 | n+1,a,g=>∃ f,G9 b wo n a f∧Hg b wo f g
def Ps (b:p3) (wo f:Int) (s:List Int×List Int) (p:Int×Int):List Int×List Int :=
 if p.1≠wo∧ix s.2 (fin b p)<0 then (s.1++[fin b p],s.2.set (fin b p).toNat (ix s.2 f+1)) else s
theorem agy {n r:Nat} (h:r<2*n):0≤(qY r).1∧(qY r).1<(n:Int)∧0≤(qY r).2∧(qY r).2≤1:=by
 unfold qY;simp only;omega
theorem Sd {b:p3} {f:Int} {p:Int×Int} (h:p∈places b f):0≤p.1∧p.1<(b.2.length:Int)∧0≤p.2∧p.2≤1∧qp b p=f:=by
 unfold places at h;obtain ⟨r,aj,rfl⟩:=ss.1 h;obtain ⟨ad,af⟩:=sM.1 aj;have:=agy (sJ.1 ad);exact ⟨this.1,this.2.1,this.2.2.1,this.2.2.2,by simpa [rv] using af⟩
theorem OK {l:List (Int×Int)} {i:Int} (h:0≤i∧i<(l.length:Int)):ix l i∈l:=by
 obtain ⟨k,rfl⟩:∃ k:Nat,i=(k:Int):=⟨i.toNat,by omega⟩;rw [qW (by omega)];exact sE _
theorem Od {b:p3} (p2:qu b) {f:Int} {p:Int×Int} (h:p∈places b f):0≤fin b p∧fin b p<b.1:=by
 have h:=Sd h;have hm:=OK (l:=b.2) ⟨h.1,h.2.1⟩;unfold fin;split
 ·exact p2.left _ hm
 ·exact p2.right _ hm
def Io (D:List Int):Nat:=D.countP fun x=>decide (x<0)
theorem Q9:∀ (D:List Int) (j:Nat) (x:Int) (h:j<D.length),D[j]<0→0≤x→Io (D.set j x)+1=Io D
 | a::D,0,x,_,ad,af=>by
   have ad:a<0:=ad;simp [Io,List.countP_cons,ad,show ¬ x<0 by omega]
 | a::D,j+1,x,h,ad,af=>by
   have:=Q9 D j x (by simpa using h) ad af;simp only [Io,List.set_cons_succ,List.countP_cons] at this ⊢;omega
theorem akf {b:p3} (p2:qu b) {wo f:Int} {Q0:List Int} (aQ:ix Q0 (0:Int)=f∧0≤f∧f<b.1) {s:List Int×List Int} {p:Int×Int} (aC:p∈places b f) (ak:s.2.length=6) (aj:s.1.length+Io s.2≤1000) (aZ:-1≤ix s.2 f∧ix s.2 f≤100) :
  NY b wo Q0 s p=some (Ps b wo f s p):=by
 obtain ⟨t1,t2⟩:=s;have h6:=Sd aC;have Cn:=Od p2 aC;have bV:=p2.f6;simp only at ak aj aZ;rw [NY];simp only [I5 ⟨h6.1,h6.2.1⟩,r_,aQ.1];unfold Ps;by_cases ad:p.1≠wo
 ·rw [if_pos (decide_eq_true ad),qe ⟨by omega,by omega,ak.symm⟩];by_cases af:ix t2 (fin b p)<0
  ·rw [if_pos (decide_eq_true af),qe ⟨by omega,by omega,ak.symm⟩,qe ⟨by omega,by omega,ak.symm⟩,qe (by omega),HH (by omega),if_pos ⟨ad,af⟩]
  ·rw [if_neg (by simpa using af),if_neg (by simp [af])]
 ·rw [if_neg (by simpa using ad),if_neg (by simp [ad])]
structure Lt (b:p3) (wo f:Int) (Q0 D0:List Int) (Hk:List (Int×Int)) (s:List Int×List Int):Prop where
 len:s.2.length=6
 VG:s.1.length+Io s.2=Q0.length+Io D0
 fL:∀ g:Nat,g<6→0≤ix D0 (g:Int)→ix s.2 (g:Int)=ix D0 (g:Int)
 new:∀ g:Nat,g<6→ix D0 (g:Int)<0→ix s.2 (g:Int)=ix D0 (g:Int)∨(ix s.2 (g:Int)=ix D0 f+1∧Hg b wo f (g:Int)∧(g:Int)∈s.1)
 ale:∃ N,s.1=Q0++N∧∀ g∈N,0≤g∧g<b.1∧ix s.2 g=ix D0 f+1
 Hk:∀ p∈Hk,p.1≠wo→0≤ix s.2 (fin b p)
theorem Lt.step {b:p3} (p2:qu b) {wo f:Int} {Q0 D0:List Int} (aQ:0≤f∧f<b.1) (aZ:0≤ix D0 f) {Hk:List (Int×Int)} {s:List Int×List Int} (h:Lt b wo f Q0 D0 Hk s) {p:Int×Int} (aC:p∈places b f):Lt b wo f Q0 D0 (Hk++[p]) (Ps b wo f s p):=by
 obtain ⟨Q,D⟩:=s;obtain ⟨ad,af,aG,a6,⟨N,bL,bV⟩,cN⟩:=h;simp only at ad af aG a6 bL bV cN;have Cn:=Od p2 aC;have MW:=p2.f6;obtain ⟨a,cd⟩:∃ a:Nat,fin b p=(a:Int):=⟨(fin b p).toNat,by omega⟩;obtain ⟨c,ao⟩:∃ c:Nat,f=(c:Int):=⟨f.toNat,by omega⟩;have Wg:ix D f=ix D0 f:=by rw [ao];exact aG c (by omega) (by rw [←ao];exact aZ)
 unfold Ps;by_cases al:p.1≠wo∧ix D (fin b p)<0
 ·rw [if_pos al,cd,th,Wg];have RX:ix D (a:Int)<0:=by rw [←cd];exact al.2
  have MX:ix D0 (a:Int)<0:=by
   refine Classical.byContradiction fun bI=>?_;have:=aG a (by omega) (by omega);omega
  have adz:D[a]'(by omega)<0:=by rw [qW (by omega)] at RX;exact RX
  have nx:ix (D.set a (ix D0 f+1)) (a:Int)=ix D0 f+1:=KT (by omega);refine ⟨by simpa using ad,?_,fun g aO yE=>?_,fun g aO yE=>?_,⟨N++[(a:Int)],by simp [bL],fun g aO=>?_⟩,fun q a3 OH=>?_⟩
  ·have:=Q9 D a (ix D0 f+1) (by omega) adz (by omega);simp only [sm,List.length_singleton];omega
  ·(have bM:g≠a:=fun e=>by subst e;omega);simp only;rw [JL bM];exact aG g aO yE
  ·by_cases M8:g=a
   ·subst M8;exact .inr ⟨nx,⟨p,aC,al.1,cd⟩,by simp⟩
   ·simp only;rw [JL M8];rcases a6 g aO yE with e | ⟨e,ck,dG⟩
    ·exact .inl e
    ·exact .inr ⟨e,ck,by simp [dG]⟩
  ·rcases sS.1 aO with aO | aO
   ·obtain ⟨aJ,aP,cj⟩:=bV g aO;obtain ⟨F6,rfl⟩:∃ F6:Nat,g=(F6:Int):=⟨g.toNat,by omega⟩;refine ⟨aJ,aP,?_⟩;by_cases M8:F6=a
    ·subst M8;exact nx
    ·simp only;rw [JL M8];exact cj
   ·simp only [sB] at aO;subst aO;exact ⟨by omega,by omega,nx⟩
  ·have key:0≤ix D (fin b q)∨fin b q=(a:Int):=by
    rcases sS.1 a3 with a3 | a3
    ·exact .inl (cN q a3 OH)
    ·simp only [sB] at a3;subst a3;exact .inr cd
   rcases key with key | key
   ·rcases Classical.em (fin b q=(a:Int)) with e | e
    ·simp only;rw [e,nx];omega
    ·have:ix (D.set a (ix D0 f+1)) (fin b q)=ix D (fin b q):=by
      unfold ix;rcases uK (fin b q) 0 with aN | aN
      ·(have fT:(fin b q).toNat=0:=by omega);rw [fT];rw [sG];by_cases Wk:a=0
       ·subst Wk;exfalso;have k:=key;unfold ix at k;rw [fT,sG] at k;rw [qW (by omega)] at RX;rw [sq (by omega)] at k;simp at k;omega
       ·rw [si Wk];rfl
      ·rw [sG,si (by omega)];rfl
     simp only;rw [this];exact key
   ·simp only;rw [key,nx];omega
 ·rw [if_neg al];refine ⟨ad,af,aG,a6,⟨N,bL,bV⟩,fun q a3 OH=>?_⟩;rcases sS.1 a3 with a3 | a3
  ·exact cN q a3 OH
  ·simp only [sB] at a3;subst a3
   have:¬ ix D (fin b q)<0:=fun e=>al ⟨OH,e⟩
   simp only;omega
theorem V5 {b:p3} (p2:qu b) {wo f:Int} {Q0 D0:List Int} (aQ:0≤f∧f<b.1) (aZ:0≤ix D0 f) (ad0:ix D0 f≤50) {Qh:List Int} (a3:ix Qh (0:Int)=f) (ep:Q0.length+Io D0≤100):∀ (l Hk:List (Int×Int)) (s:List Int×List Int),(∀ p∈l,p∈places b f)→Lt b wo f Q0 D0 Hk s →
  ∃ aF,HM (NY b wo Qh) l s=some aF∧Lt b wo f Q0 D0 (Hk++l) aF
 | [],Hk,s,_,h=>⟨s,rfl,by simpa using h⟩
 | p::l,Hk,s,ak,h=>by
   have aC:=ak p (by simp);have MW:=p2.f6;obtain ⟨c,ao⟩:∃ c:Nat,f=(c:Int):=⟨f.toNat,by omega⟩;(have Wg:ix s.2 f=ix D0 f:=by rw [ao];exact h.fL c (by omega) (by rw [←ao];exact aZ));obtain ⟨aF,e1,ck⟩:=V5 p2 aQ aZ ad0 a3 ep l (Hk++[p]) _ (fun q a3=>ak q (by simp [a3])) (h.step p2 aQ aZ aC);have hY:=h.VG;refine ⟨aF,?_,by simpa using ck⟩;rw [HM,akf p2 ⟨a3,aQ⟩ aC h.len (by omega) (by omega),r_];exact e1
structure I_ (b:p3) (wo to:Int) (Q D:List Int):Prop where
 len:D.length=6
 q:∀ f∈Q,0≤f∧f<b.1∧0≤ix D f
 room:Q.length+Io D≤6
 small:∀ g:Nat,g<6→0≤ix D (g:Int)→ix D (g:Int)+Io D≤5
 walk:∀ g:Nat,g<6→0≤ix D (g:Int)→G9 b wo (ix D (g:Int)).toNat to (g:Int)
 sort:Q.Pairwise fun x y=>ix D x≤ix D y
 top:∀ f r,Q=f::r→∀ g:Nat,g<6→ix D (g:Int)≤ix D f+1
 proc:∀ g:Nat,g<6→0≤ix D (g:Int)→(g:Int) ∉ Q→∀ h,Hg b wo (g:Int) h→0≤ix D h∧ix D h≤ix D (g:Int)+1
 zero:0≤to∧to<6∧ix D to=0
theorem Hg.in {b:p3} (p2:qu b) {wo f g:Int} (h:Hg b wo f g):0≤g∧g<b.1:=by
 obtain ⟨p,ad,_,rfl⟩:=h;exact Od p2 ad
theorem I_.next {b:p3} (p2:qu b) {wo to f:Int} {r D:List Int} (h:I_ b wo to (f::r) D) {s:List Int×List Int} (ai:Lt b wo f r D (places b f) s):I_ b wo to s.1 s.2:=by
 obtain ⟨cG,Jz⟩:=s;obtain ⟨aJ,aP,cj,jO,⟨N,Df,KU⟩,WH⟩:=ai;simp only at aJ aP cj jO Df KU WH;subst Df;have MW:=p2.f6;have Wn:=h.q f (by simp);obtain ⟨c,ao⟩:∃ c:Nat,f=(c:Int):=⟨f.toNat,by omega⟩;have yM:∀ g:Int,0≤g→g<6→∃ n:Nat,g=(n:Int)∧n<6:=fun g ad af=>⟨g.toNat,by omega,by omega⟩;have hold:∀ g:Int,0≤g→g<6→0≤ix D g→ix Jz g=ix D g:=fun g ad af aG=>by
  obtain ⟨n,rfl,aN⟩:=yM g ad af;exact cj n aN aG
 have hle:∀ g:Nat,g<6→ix Jz (g:Int)≤ix D f+1:=fun g aO=>by
  rcases uK (ix D (g:Int)) 0 with aS | aS
  ·rcases jO g aO aS with e | e
   ·omega
   ·omega
  ·rw [cj g aO aS];exact h.top f r rfl g aO
 have aj:∀ x∈r,0≤x∧x<b.1∧0≤ix D x∧ix Jz x=ix D x:=fun x al=>by
  have:=h.q x (by simp [al]);exact ⟨this.1,this.2.1,this.2.2,hold x this.1 (by omega) this.2.2⟩
 have C9:=tg.1 h.sort;have ep:=h.room;simp only [sH] at ep;refine ⟨aJ,fun g aO=>?_,by simp only;omega,fun g aO aS=>?_,fun g aO aS=>?_,?_,fun MT r' he g aO=>?_,fun g aO aS RR aX he=>?_,⟨h.zero.1,h.zero.2.1,by simp only;rw [hold to h.zero.1 h.zero.2.1 (by have:=h.zero.2.2;omega)];exact h.zero.2.2⟩⟩
 ·rcases sS.1 aO with aO | aO
  ·have:=aj g aO;exact ⟨this.1,this.2.1,by simp only;omega⟩
  ·have:=KU g aO;exact ⟨this.1,this.2.1,by simp only;omega⟩
 ·have Cq:=h.small c (by omega) (by rw [←ao];omega);rw [←ao] at Cq;simp only [sm] at aP;rcases uK (ix D (g:Int)) 0 with ad | ad
  ·rcases jO g aO ad with e | e
   ·simp only at aS;omega
   ·have B7:1≤N.length:=by
     rcases sS.1 e.2.2 with dG | dG
     ·have:=(aj _ dG).2.2.1;omega
     ·exact wc dG
    simp only;omega
  ·have:=h.small g aO ad;simp only;rw [cj g aO ad];omega
 ·rcases uK (ix D (g:Int)) 0 with ad | ad
  ·rcases jO g aO ad with e | ⟨e,ck,_⟩
   ·simp only at aS;omega
   ·simp only;rw [e,show (ix D f+1).toNat=(ix D f).toNat+1 by omega];exact ⟨f,by have:=h.walk c (by omega) (by rw [←ao];omega);rw [ao];rw [←ao] at this ⊢;exact this,ck⟩
  ·simp only;rw [cj g aO ad];exact h.walk g aO ad
 ·simp only;rw [u6];refine ⟨C9.2.imp_of_mem fun {x y} al a0 HS=>by rw [(aj x al).2.2.2,(aj y a0).2.2.2];exact HS,?_,fun x al y a0=>?_⟩
  ·exact List.Pairwise.imp_of_mem (R:=fun _ _=>True) (fun {x y} al a0 _=>by rw [(KU x al).2.2,(KU y a0).2.2];omega) (List.pairwise_of_forall fun _ _=>trivial)
  ·obtain ⟨n,rfl,aN⟩:=yM x (aj x al).1 (by have:=(aj x al).2.1;omega);rw [(KU y a0).2.2];exact hle n aN
 ·simp only at he ⊢;have ak4:ix D f≤ix Jz MT:=by
   (have hm:MT∈r++N:=by rw [he];simp);rcases sS.1 hm with hm | hm
   ·rw [(aj MT hm).2.2.2];exact C9.1 MT hm
   ·rw [(KU MT hm).2.2];omega
  have:=hle g aO;omega
 ·simp only at aS RR ⊢;have bI:=Hg.in p2 he;rcases Classical.em ((g:Int)=f) with e | e
  ·rw [e] at he ⊢;obtain ⟨n,rfl,aN⟩:=yM aX bI.1 (by omega);rw [hold f Wn.1 (by omega) Wn.2.2];obtain ⟨p,bR,b4,eE⟩:=he;exact ⟨by rw [←eE];exact WH p bR b4,hle n aN⟩
  ·rcases uK (ix D (g:Int)) 0 with ad | ad
   ·rcases jO g aO ad with ck | ⟨_,_,dG⟩
    ·omega
    ·exact absurd dG RR
   ·have:=h.proc g aO ad (fun hm=>by
     rcases sk.1 hm with ck | ck
     ·exact e ck
     ·exact RR (List.mem_append_left _ ck)) aX he
    rw [cj g aO ad,hold aX bI.1 (by omega) this.1];exact this
theorem Z9 {b:p3} (p2:qu b) {wo to:Int} {k:List Int→Option (List Int)}:∀ (m:Nat) (Q D:List Int),I_ b wo to Q D→Q.length+Io D<m→∃ Jz,I_ b wo to [] Jz∧PJ b wo k m D Q=k Jz
 | 0,_,_,_,h=>absurd h (by omega)
 | m+1,Q,D,cm,hm=>by
   rw [PJ];have MW:=p2.f6;have ak:=p2.len;cases Q with
   | nil=>rw [if_neg (by simp)];exact ⟨D,cm,rfl⟩
   | cons f r =>
     have aQ:=cm.q f (by simp);obtain ⟨c,ao⟩:∃ c:Nat,f=(c:Int):=⟨f.toNat,by omega⟩;have aeA:=cm.small c (by omega) (by rw [←ao];omega);rw [←ao] at aeA;have ep:=cm.room;simp only [sH] at ep hm;obtain ⟨aF,e1,ck⟩:=V5 p2 ⟨aQ.1,aQ.2.1⟩ aQ.2.2 (by omega) (Qh:=f::r) rfl (by omega) (Q0:=r) (D0:=D) (wo:=wo) (places b f) [] (r,D) (fun p h=>h) ⟨cm.len,rfl,fun _ _ _=>rfl,fun _ _ _=>.inl rfl,⟨[],by simp,by simp⟩,by simp⟩;rw [tW] at ck;have hY:=ck.VG;obtain ⟨Jz,d1,d2⟩:=Z9 p2 m aF.1 aF.2 (I_.next p2 cm ck) (by omega);refine ⟨Jz,d1,?_⟩;rw [if_pos (decide_eq_true (by simp)),qe (by simp),qe ⟨by omega,by simp only [sH];omega⟩,show ix (f::r) (0:Int)=f from rfl,PM,r_,Kh,if_pos (by omega),r_];show ((HM (NY b wo (f::r)) (places b f) (r,D)).bind _)=_;rw [e1,r_];exact d2
structure MF (b:p3) (wo to:Int) (D:List Int):Prop where
 len:D.length=6
 walk:∀ g:Nat,g<6→0≤ix D (g:Int)→G9 b wo (ix D (g:Int)).toNat to (g:Int)
 least:∀ (n:Nat) (g:Int),G9 b wo n to g→0≤g∧g<6∧0≤ix D g∧ix D g≤n
 small:∀ g:Nat,g<6→ix D (g:Int)≤5
theorem I_.ac_ {b:p3} (p2:qu b) {wo to:Int} {D:List Int} (h:I_ b wo to [] D):MF b wo to D:=by
 have MW:=p2.f6;refine ⟨h.len,h.walk,fun n=>?_,fun g aO=>?_⟩
 ·induction n with
  | zero =>
    intro g aO;have aO:to=g:=aO;subst aO;have:=h.zero;exact ⟨this.1,this.2.1,by omega,by omega⟩
  | succ n a_ =>
    rintro g ⟨f,ad,af⟩;obtain ⟨i1,i2,i3,i4⟩:=a_ f ad;obtain ⟨c,rfl⟩:∃ c:Nat,f=(c:Int):=⟨f.toNat,by omega⟩;have aC:=h.proc c (by omega) i3 (by simp) g af;have hi:=Hg.in p2 af;exact ⟨hi.1,by omega,aC.1,by omega⟩
 ·rcases uK (ix D (g:Int)) 0 with ad | ad
  ·omega
  ·have:=h.small g aO ad;omega
theorem Z8 {k:List Int→Option (List Int)}:∀ (m i:Nat) (z:Int) (D:List Int),z=i→i≤6→6-i<m→D.length=6→(∀ j:Nat,j<i→ix D (j:Int)=-1)→PI k m z D=k (List.replicate 6 (-1))
 | 0,i,_,_,_,_,h,_,_=>absurd h (by omega)
 | m+1,i,_,D,rfl,hi,hm,ak,qM=>by
   rw [PI];by_cases h:i<6
   ·rw [if_pos (decide_eq_true (by omega)),qe ⟨by omega,by omega,ak.symm⟩,rH i (by omega),th];refine Z8 m (i+1) _ _ rfl (by omega) (by omega) (by simpa using ak) fun j aw=>?_;by_cases g0:j=i
    ·subst g0;exact KT (by omega)
    ·rw [JL g0];exact qM j (by omega)
   ·rw [if_neg (by simp;omega)];congr 1;refine List.ext_getElem (by simp [ak]) fun j ad af=>?_;have:=qM j (by omega);rw [qW ad] at this;rw [this,we]
theorem ake {b:p3} (p2:qu b) {wo to:Int} (ax:0≤to∧to<b.1):∃ D,Z7 b to wo=some D∧MF b wo to D:=by
 have MW:=p2.f6;obtain ⟨c,ao⟩:∃ c:Nat,to=(c:Int):=⟨to.toNat,by omega⟩;subst ao;have nx:ix ((List.replicate 6 (-1:Int)).set c 0) (c:Int)=0:=KT (by simp;omega);have OC:∀ g:Nat,g<6→g≠c→ix ((List.replicate 6 (-1:Int)).set c 0) (g:Int)=-1:=fun g aO bM=>by
  rw [JL bM,qW (by rw [List.length_replicate];omega),we]
 have RN:Io ((List.replicate 6 (-1:Int)).set c 0)=5:=by
  have:=Q9 (List.replicate 6 (-1:Int)) c 0 (by rw [List.length_replicate];omega) (by rw [we];omega) (by omega);have e:Io (List.replicate 6 (-1:Int))=6:=by decide
  omega
 have cm:I_ b wo (c:Int) [(c:Int)] ((List.replicate 6 (-1:Int)).set c 0):=by
  refine ⟨by simp,fun f aQ=>?_,by rw [RN];simp,fun g aO aS=>?_,fun g aO aS=>?_,by simp,fun f r he g aO=>?_,fun g aO aS aN h he=>?_,⟨by omega,by omega,nx⟩⟩
  ·simp only [sB] at aQ;subst aQ;exact ⟨ax.1,ax.2,by rw [nx];omega⟩
  ·by_cases e:g=c
   ·subst e;rw [nx,RN];omega
   ·rw [OC g aO e] at aS;omega
  ·by_cases e:g=c
   ·subst e;rw [nx];exact rfl
   ·rw [OC g aO e] at aS;omega
  ·simp only [List.cons.injEq] at he;obtain ⟨rfl,_⟩:=he;rw [nx];by_cases e:g=c
   ·subst e;rw [nx];omega
   ·rw [OC g aO e];omega
  ·by_cases e:g=c
   ·subst e;simp at aN
   ·rw [OC g aO e] at aS;omega
 obtain ⟨D,d1,d2⟩:=Z9 p2 (k:=fun om =>
         p6 (om.length=6) <|
         p6 (om.length=6∧(List.replicate 6 (0:Int)).length=6) <|
         p6 (om.length=6) <|
         some om) p8 _ _ cm (rC (by rw [RN];simp))
 refine ⟨D,?_,I_.ac_ p2 d1⟩;rw [Z7,Z8 p8 0 0 _ rfl (by omega) (rC (by omega)) (by simp) (fun j aw=>absurd aw (by omega)),qe ⟨by omega,by omega,by simp⟩,th,d2];have:=d1.len;rw [qe this,qe ⟨this,by simp⟩,qe this]
end Go.Proofs.YtfakoboiahbhaaaGreat.Ab


namespace Go.Proofs.YtfakoboiahbhaaaGreat.Ab
open Go
set_option maxRecDepth 20000
set_option maxHeartbeats 4000000
end Go.Proofs.YtfakoboiahbhaaaGreat.Ab


namespace Go.Proofs.YtfakoboiahbhaaaGreat.Ab
open Go
theorem Kb {b:p3} {f:Int} {p:Int×Int}:p∈places b f↔0≤p.1∧p.1<(b.2.length:Int)∧0≤p.2∧p.2≤1∧qp b p=f:=by
 refine ⟨Sd,fun ⟨ad,af,aG,a6,bL⟩=>?_⟩;have e:qY (2*p.1.toNat+p.2.toNat)=p:=by
  rw [O0 (n:=b.2.length) (by omega) (by omega)];exact Prod.ext (by simp only;omega) (by simp only;omega)
 refine ss.2 ⟨2*p.1.toNat+p.2.toNat,sM.2 ⟨sJ.2 (by omega),?_⟩,e⟩;rw [rv,e];exact decide_eq_true bL
def KG (p:Int×Int):Int×Int:=(p.1,1-p.2)
theorem acq {b:p3} {p:Int×Int} (h:0≤p.2∧p.2≤1):qp b (KG p)=fin b p:=by
 unfold qp fin KG;simp only;by_cases ad:0<p.2
 ·rw [if_neg (by omega),if_pos ad]
 ·rw [if_pos (by omega),if_neg ad]
theorem adj {b:p3} {p:Int×Int} (h:0≤p.2∧p.2≤1):fin b (KG p)=qp b p:=by
 unfold qp fin KG;simp only;by_cases ad:0<p.2
 ·rw [if_neg (by omega),if_pos ad]
 ·rw [if_pos (by omega),if_neg ad]
theorem Hg.symm {b:p3} {wo f g:Int} (h:Hg b wo f g):Hg b wo g f:=by
 obtain ⟨p,ad,af,aG⟩:=h;have aC:=Kb.1 ad;exact ⟨KG p,Kb.2 ⟨aC.1,aC.2.1,by simp only [KG];omega,by simp only [KG];omega,by rw [acq ⟨aC.2.2.1,aC.2.2.2.1⟩,aG]⟩,af,by rw [adj ⟨aC.2.2.1,aC.2.2.2.1⟩,aC.2.2.2.2]⟩
theorem G9.cons {b:p3} {wo:Int}:∀ {n:Nat} {a c g:Int},Hg b wo a c→G9 b wo n c g→G9 b wo (n+1) a g
 | 0,a,c,g,h,(k:c=g)=>⟨a,rfl,k ▸ h⟩
 | n+1,a,c,g,h,⟨f,aJ,aP⟩=>⟨f,G9.cons h aJ,aP⟩
theorem G9.symm {b:p3} {wo:Int}:∀ {n:Nat} {a g:Int},G9 b wo n a g→G9 b wo n g a
 | 0,_,_,(h:_=_)=>h.symm
 | _+1,_,_,⟨_,ad,af⟩=>G9.cons af.symm ad.symm
theorem G9.gN {b:p3} {wo:Int} {n:Nat} {a g:Int} (h:G9 b wo (n+1) a g):∃ c,Hg b wo a c∧G9 b wo n c g:=by
 obtain ⟨f,ad,af⟩:=h.symm;exact ⟨f,af.symm,ad.symm⟩
theorem af3 {b:p3} (p2:qu b) {wo to f:Int} {D:List Int} (qM:MF b wo to D) {n:Nat} (aQ:0≤f∧f<6) (aN:ix D f=((n+1:Nat):Int)):∃ p∈places b f,p.1≠wo∧ix D (fin b p)=(n:Int):=by
 obtain ⟨c,rfl⟩:∃ c:Nat,f=(c:Int):=⟨f.toNat,by omega⟩;have hw:=qM.walk c (by omega) (by omega);rw [aN] at hw;obtain ⟨e,he,hw⟩:=hw.symm.gN;have ak:=qM.least n e hw.symm;have pr:(n:Int)≤ix D e:=by
  refine Classical.byContradiction fun bI=>?_;have af:=qM.walk e.toNat (by omega) (by rw [uj ak.1];exact ak.2.2.1);rw [uj ak.1] at af;have:=(qM.least ((ix D e).toNat+1) (c:Int) ⟨e,af,he.symm⟩).2.2.2;omega
 obtain ⟨p,ad,af,aG⟩:=he;exact ⟨p,ad,af,by rw [aG];omega⟩
end Go.Proofs.YtfakoboiahbhaaaGreat.Ab


namespace Go.Proofs.YtfakoboiahbhaaaGreat.Ab
open Go
set_option maxRecDepth 20000
set_option maxHeartbeats 4000000

end Go.Proofs.YtfakoboiahbhaaaGreat.Ab


namespace Go.Proofs.YtfakoboiahbhaaaGreat.Ab
open Go
set_option maxRecDepth 20000
set_option maxHeartbeats 4000000

end Go.Proofs.YtfakoboiahbhaaaGreat.Ab


namespace Go.Proofs.YtfakoboiahbhaaaGreat.Ab
open Go
def alf (r:Row) (s:Int):Bool:=r.any fun q=>decide (q.1=s)
theorem VR {b:p3} (p2:qu b) {wo to:Int} {D:List Int} (qM:MF b wo to D):∀ (n:Nat) (f:Int),0≤f→f<b.1→ix D f=(n:Int)→∃ l:List Int,l.Nodup∧l.length=n+1∧∀ x∈l,0≤x∧x<b.1∧ix D x≤(n:Int)
 | 0,f,ad,af,h=>⟨[f],by simp,rfl,fun x al=>by simp only [sB] at al;subst al;exact ⟨ad,af,by omega⟩⟩
 | n+1,f,ad,af,h=>by
   have bV:=p2.f6;obtain ⟨p,bR,_,b4⟩:=af3 p2 qM ⟨ad,by omega⟩ h;have aQ:=Od p2 bR;obtain ⟨l,dL,kK,LS⟩:=VR p2 qM n _ aQ.1 aQ.2 b4;refine ⟨f::l,uh.2 ⟨fun hm=>?_,dL⟩,by simp [kK],fun x al=>?_⟩
   ·have:=(LS f hm).2.2;omega
   ·rcases sk.1 al with e | e
    ·subst e;exact ⟨ad,af,by omega⟩
    ·have:=LS x e;exact ⟨this.1,this.2.1,by omega⟩
theorem ada {b:p3} (p2:qu b) {wo to f:Int} {D:List Int} (qM:MF b wo to D) (ad:0≤f) (af:f<b.1):ix D f<b.1:=by
 rcases uK (ix D f) 0 with h | h
 ·omega
 ·obtain ⟨l,dL,kK,LS⟩:=VR p2 qM (ix D f).toNat f ad af (by omega);have:=Kc (n:=b.1.toNat) dL fun x al=>by have:=LS x al;omega
  omega
end Go.Proofs.YtfakoboiahbhaaaGreat.Ab


namespace Go.Proofs.YtfakoboiahbhaaaGreat.Ab
open Go
set_option maxRecDepth 20000
set_option maxHeartbeats 4000000
end Go.Proofs.YtfakoboiahbhaaaGreat.Ab


namespace Go.Proofs.YtfakoboiahbhaaaGreat.Ab
open Go
def G2 (b:p3) (wo f g:Int):Prop:=∃ n,G9 b wo n f g
theorem G9.trans {b:p3} {wo:Int}:∀ {n m:Nat} {a c g:Int},G9 b wo n a c→G9 b wo m c g→G9 b wo (n+m) a g
 | n,0,a,c,g,h,(k:c=g)=>k ▸ h
 | n,m+1,a,c,g,h,⟨f,aJ,aP⟩=>⟨f,G9.trans h aJ,aP⟩
theorem G2.refl {b:p3} {wo:Int} (f:Int):G2 b wo f f:=⟨0,rfl⟩
theorem G2.symm {b:p3} {wo f g:Int} (h:G2 b wo f g):G2 b wo g f:=h.elim fun n h=>⟨n,h.symm⟩
theorem G2.trans {b:p3} {wo f g h:Int} (ad:G2 b wo f g) (af:G2 b wo g h):G2 b wo f h:=by
 obtain ⟨n,ad⟩:=ad;obtain ⟨m,af⟩:=af;exact ⟨n+m,ad.trans af⟩
theorem Hg.MO {b:p3} {wo f g:Int} (h:Hg b wo f g):G2 b wo f g:=⟨1,f,rfl,h⟩
theorem Hg.of {b:p3} {wo:Int} {i:Nat} (hi:i<b.2.length) (hw:(i:Int)≠wo):Hg b wo (ix b.2 (i:Int)).1 (ix b.2 (i:Int)).2 :=
 ⟨((i:Int),0),Kb.2 ⟨by simp only;omega,by simp only;omega,by simp only;omega,by simp only;omega,rfl⟩,hw,rfl⟩
theorem Hg.Ia {b:p3} {wo f g:Int} (h:Hg b wo f g):∃ i:Nat,i<b.2.length∧(i:Int)≠wo∧(((ix b.2 (i:Int)).1=f∧(ix b.2 (i:Int)).2=g)∨((ix b.2 (i:Int)).2=f∧(ix b.2 (i:Int)).1=g)):=by
 obtain ⟨p,ad,af,aG⟩:=h;have aC:=Kb.1 ad;refine ⟨p.1.toNat,by omega,by omega,?_⟩;rw [uj aC.1];have a6:=aC.2.2.2.2;unfold qp at a6;unfold fin at aG;by_cases ao:0<p.2
 ·rw [if_pos ao] at a6 aG;exact .inr ⟨a6,aG⟩
 ·rw [if_neg ao] at a6 aG;exact .inl ⟨a6,aG⟩
theorem G2.short {b:p3} (p2:qu b) {wo f g:Int} (aO:0≤g∧g<b.1) (aQ:0≤f∧f<b.1) (h:G2 b wo f g):∃ n:Nat,(n:Int)<b.1∧G9 b wo n f g:=by
 obtain ⟨D,_,qM⟩:=ake p2 (wo:=wo) aO;obtain ⟨n,h⟩:=h;have ak:=qM.least n f h.symm;have bV:=p2.f6;have aU:=ada p2 qM aQ.1 aQ.2;have hw:=qM.walk f.toNat (by omega) (by rw [uj aQ.1];exact ak.2.2.1);rw [uj aQ.1] at hw;exact ⟨(ix D f).toNat,by omega,hw.symm⟩
theorem TI {b:p3} (p2:qu b) {i:Nat} (hi:i<b.2.length):0≤(ix b.2 (i:Int)).1∧(ix b.2 (i:Int)).1<b.1∧0≤(ix b.2 (i:Int)).2∧(ix b.2 (i:Int)).2<b.1:=by
 have hm:=OK (l:=b.2) (i:=(i:Int)) ⟨by omega,by omega⟩;have ad:=p2.left _ hm;have af:=p2.right _ hm;exact ⟨ad.1,ad.2,af.1,af.2⟩
def upto (n:Nat):List Int:=(List.range n).map fun (j:Nat)=>(j:Int)
theorem rN (n:Nat):(upto n).length=n:=by simp [upto]
theorem K1 (n:Nat):upto (n+1)=upto n++[(n:Int)]:=by simp [upto,List.range_succ]
structure Um (b:p3) (wo:Int) (S:List Int):Prop where
 len:S.length=b.1.toNat
 Ik:∀ f:Int,0≤f→f<b.1→G2 b wo f (ix S f)∧0≤ix S f∧ix S f<b.1
structure Qw (b:p3) (wo:Int) (S0:List Int) (i:Nat) (S:List Int):Prop extends Um b wo S where
 mono:∀ f:Int,0≤f→f<b.1→ix S f≤ix S0 f
 done:∀ j:Nat,j<i→(j:Int)≠wo→ix S (ix b.2 (j:Int)).1≤ix S0 (ix b.2 (j:Int)).2∧ix S (ix b.2 (j:Int)).2≤ix S0 (ix b.2 (j:Int)).1
theorem aeS {S:List Int} {x y f v:Int} (al:0≤x∧x<(S.length:Int)) (a0:0≤y∧y<(S.length:Int)) (aQ:0≤f∧f<(S.length:Int)):ix ((S.set x.toNat v).set y.toNat v) f=if f=x∨f=y then v else ix S f:=by
 obtain ⟨a,rfl⟩:∃ a:Nat,x=(a:Int):=⟨x.toNat,by omega⟩;obtain ⟨c,rfl⟩:∃ c:Nat,y=(c:Int):=⟨y.toNat,by omega⟩;obtain ⟨e,rfl⟩:∃ e:Nat,f=(e:Int):=⟨f.toNat,by omega⟩;rw [th,th];by_cases ad:e=c
 ·subst ad;rw [KT (by simp;omega),if_pos (.inr rfl)]
 ·rw [JL ad];by_cases af:e=a
  ·subst af;rw [KT (by omega),if_pos (.inl rfl)]
  ·rw [JL af,if_neg (by omega)]
theorem Qw.step {b:p3} (p2:qu b) {wo:Int} {S0 S:List Int} {i:Nat} (h:Qw b wo S0 i S) (hi:i<b.2.length) (hw:(i:Int)≠wo) :
  Qw b wo S0 (i+1) ((S.set (ix b.2 (i:Int)).1.toNat (min (ix S (ix b.2 (i:Int)).1) (ix S (ix b.2 (i:Int)).2))).set (ix b.2 (i:Int)).2.toNat (min (ix S (ix b.2 (i:Int)).1) (ix S (ix b.2 (i:Int)).2))):=by
 have ai:=TI p2 hi;have he:=Hg.of hi hw;obtain ⟨x,al⟩:∃ x,x=(ix b.2 (i:Int)).1:=⟨_,rfl⟩;obtain ⟨y,a0⟩:∃ y,y=(ix b.2 (i:Int)).2:=⟨_,rfl⟩;rw [←al,←a0] at ai he;rw [←al,←a0];have ak:=h.len;have Oz:∀ f:Int,0≤f→f<b.1→_:=fun f ad af=>aeS (S:=S) (x:=x) (y:=y) (f:=f) (v:=min (ix S x) (ix S y)) ⟨ai.1,by omega⟩ ⟨ai.2.2.1,by omega⟩ ⟨ad,by omega⟩;have RI:=h.Ik x ai.1 ai.2.1;have RJ:=h.Ik y ai.2.2.1 ai.2.2.2;have hle:∀ f:Int,0≤f→f<b.1→ix ((S.set x.toNat (min (ix S x) (ix S y))).set y.toNat (min (ix S x) (ix S y))) f≤ix S f:=fun f ad af=>by
  rw [Oz f ad af];split
  ·rename_i e;rcases e with rfl | rfl <;> omega
  ·exact Int.le_refl _
 refine ⟨⟨by simpa using ak,fun f ad af=>?_⟩,fun f ad af=>vn (hle f ad af) (h.mono f ad af),fun j aw aea=>?_⟩
 ·rw [Oz f ad af];split
  ·rename_i e;rcases Int.le_total (ix S x) (ix S y) with hm | hm
   ·rw [Int.min_eq_left hm];refine ⟨?_,RI.2⟩;rcases e with rfl | rfl
    ·exact RI.1
    ·exact he.symm.MO.trans RI.1
   ·rw [Int.min_eq_right hm];refine ⟨?_,RJ.2⟩;rcases e with rfl | rfl
    ·exact he.MO.trans RJ.1
    ·exact RJ.1
  ·exact h.Ik f ad af
 ·have ef:j<i∨j=i:=by omega
  rcases ef with ef | rfl
  ·have LN:=TI p2 (i:=j) (by omega);obtain ⟨d1,d2⟩:=h.done j ef aea;exact ⟨vn (hle _ LN.1 LN.2.1) d1,vn (hle _ LN.2.2.1 LN.2.2.2) d2⟩
  ·rw [←al,←a0,Oz x ai.1 ai.2.1,Oz y ai.2.2.1 ai.2.2.2,if_pos (.inl rfl),if_pos (.inr rfl)];have de:=h.mono x ai.1 ai.2.1;have df:=h.mono y ai.2.2.1 ai.2.2.2;omega
structure Qu (b:p3) (wo:Int) (N:List Int):Prop extends Um b wo N where
 least:∀ f g:Int,0≤f→f<b.1→0≤g→g<b.1→G2 b wo f g→ix N f≤g
theorem Qu.iff {b:p3} {wo:Int} {N:List Int} (h:Qu b wo N) {f g:Int} (aQ:0≤f∧f<b.1) (aO:0≤g∧g<b.1):ix N f=ix N g↔G2 b wo f g:=by
 have a:=h.Ik f aQ.1 aQ.2;have c:=h.Ik g aO.1 aO.2;refine ⟨fun e=>a.1.trans (by rw [e];exact c.1.symm),fun e=>?_⟩;have dL:=h.least f (ix N g) aQ.1 aQ.2 c.2.1 c.2.2 (e.trans c.1);have kK:=h.least g (ix N f) aO.1 aO.2 a.2.1 a.2.2 (e.symm.trans a.1);omega
end Go.Proofs.YtfakoboiahbhaaaGreat.Ab


namespace Go.Proofs.YtfakoboiahbhaaaGreat.Ab
open Go
theorem TB:∀ {a b:List Int},a.Pairwise (·<·)→b.Pairwise (·<·)→(∀ x,x∈a↔x∈b)→a=b
 | [],[],_,_,_=>rfl
 | [],y::b,_,_,h=>by have:=(h y).2 (by simp);simp at this
 | x::a,[],_,_,h=>by have:=(h x).1 (by simp);simp at this
 | x::a,y::b,cd,ag,h=>by
   obtain ⟨aB,aH⟩:=tg.1 cd;obtain ⟨bo,cI⟩:=tg.1 ag;have HS:x=y:=by
    rcases sk.1 ((h x).1 (by simp)) with e | e
    ·exact e
    ·rcases sk.1 ((h y).2 (by simp)) with ck | ck
     ·exact ck.symm
     ·have:=aB y ck;have:=bo x e;omega
   subst HS;rw [TB aH cI fun z=>?_];constructor
   ·intro bm;rcases sk.1 ((h z).1 (by simp [bm])) with e | e
    ·have:=aB z bm;omega
    ·exact e
   ·intro bm;rcases sk.1 ((h z).2 (by simp [bm])) with e | e
    ·have:=bo z bm;omega
    ·exact e
theorem ND {α:Type} [Inhabited α] {lt:α→α→Bool} (ai:Sort.SWO lt) (l:List α):((Sort.insertionSort lt l.toArray 0 l.length).toList).Perm l∧((Sort.insertionSort lt l.toArray 0 l.length).toList).Pairwise (fun x y=>lt y x=false):=by
 obtain ⟨⟨ad,_,aG⟩,a6⟩:=Sort.insertionSort_holds (lt:=lt) ai l.toArray 0 l.length (sr _) (by simp);generalize Sort.insertionSort lt l.toArray 0 l.length=d at ad aG a6;have ad:d.size=l.length:=by simpa using ad
 have e1:(d.extract 0 l.length).toList=d.toList:=by rw [←ad];simp
 have ck:(l.toArray.extract 0 l.length).toList=l:=by simp
 rw [e1,ck] at aG;refine ⟨aG,ti.2 fun i j hi aw gY=>?_⟩;have hi':i<d.size:=by simpa using hi
 have ef:j<d.size:=by simpa using aw
 have:=a6 i j (sr _) gY (by omega);rw [getElem!_pos d i hi',getElem!_pos d j ef] at this;simpa using this
theorem X8 (l:List Int):(GO l).Perm l:=(ND Sort.swo_ltInt l).1
theorem ahY {l:List Int} (h:l.Nodup):(GO l).Pairwise (·<·):=by
 have aQ:=ND Sort.swo_ltInt l;have aN:(GO l).Nodup:=aQ.1.nodup_iff.2 h;refine ti.2 fun i j hi aw gY=>?_;have ad:=ti.1 aQ.2 i j hi aw gY;have af:=ti.1 aN i j hi aw gY;simp only [Sort.ltInt,decide_eq_false_iff_not] at ad;have ad:¬ (GO l)[j]<(GO l)[i]:=ad;omega
theorem Yd:Sort.SWO Hx:=by
 constructor
 all_goals intros
 all_goals simp only [Hx,decide_eq_true_eq,decide_eq_false_iff_not] at *
 all_goals omega
theorem ah2 (l:List (List Int)):(Ic l).Perm l:=(ND Yd l).1
theorem ah3 {l:List (List Int)} (h:l.Pairwise fun x y=>ix x 0≠ix y 0):(Ic l).Pairwise fun x y=>ix x 0<ix y 0:=by
 have aQ:=ND Yd l;have aN:(Ic l).Pairwise fun x y=>ix x 0≠ix y 0:=aQ.1.symm.pairwise h fun {x y} HS=>Ne.symm HS;refine ti.2 fun i j hi aw gY=>?_;have ad:=ti.1 aQ.2 i j hi aw gY;have af:=ti.1 aN i j hi aw gY;simp only [Hx,decide_eq_false_iff_not] at ad;have ad:¬ ix (Ic l)[j] 0<ix (Ic l)[i] 0:=ad;omega
theorem XQ:∀ {P Q:List (List Int)},P.Pairwise (fun x y=>ix x 0<ix y 0)→Q.Pairwise (fun x y=>ix x 0<ix y 0)→(∀ r,r∈P↔r∈Q)→P=Q
 | [],[],_,_,_=>rfl
 | [],y::b,_,_,h=>by have:=(h y).2 (by simp);simp at this
 | x::a,[],_,_,h=>by have:=(h x).1 (by simp);simp at this
 | x::a,y::b,cd,ag,h=>by
   obtain ⟨aB,aH⟩:=tg.1 cd;obtain ⟨bo,cI⟩:=tg.1 ag;have HS:x=y:=by
    rcases sk.1 ((h x).1 (by simp)) with e | e
    ·exact e
    ·rcases sk.1 ((h y).2 (by simp)) with ck | ck
     ·exact ck.symm
     ·have:=aB y ck;have:=bo x e;omega
   subst HS;rw [XQ aH cI fun z=>?_];constructor
   ·intro bm;rcases sk.1 ((h z).1 (by simp [bm])) with e | e
    ·subst e;have:=aB z bm;omega
    ·exact e
   ·intro bm;rcases sk.1 ((h z).2 (by simp [bm])) with e | e
    ·subst e;have:=bo z bm;omega
    ·exact e
end Go.Proofs.YtfakoboiahbhaaaGreat.Ab


namespace Go.Proofs.YtfakoboiahbhaaaGreat.Ab
open Go
def qI (b:p3) (i f:Int):Prop:=(ix b.2 i).1=f∨(ix b.2 i).2=f
inductive rf (b:p3) (S:List Int) (f:Int):Int→Prop
 | refl:rf b S f f
 | step {g h:Int} (i:Int):rf b S f g→i∈S→qI b i g→qI b i h→rf b S f h
theorem rf.trans {b:p3} {S:List Int} {f g h:Int} (ad:rf b S f g) (af:rf b S g h):rf b S f h:=by
 induction af with
 | refl=>exact ad
 | step i _ hi aB aH a_=>exact .step i a_ hi aB aH
theorem rf.one {b:p3} {S:List Int} {f g i:Int} (hi:i∈S) (ad:qI b i f) (af:qI b i g):rf b S f g:=.step i .refl hi ad af
theorem rf.symm {b:p3} {S:List Int} {f g:Int} (h:rf b S f g):rf b S g f:=by
 induction h with
 | refl=>exact .refl
 | step i _ hi aB aH a_=>exact (rf.one hi aH aB).trans a_
theorem rf.mono {b:p3} {S S':List Int} {f g:Int} (cm:∀ x∈S,x∈S') (h:rf b S f g):rf b S' f g:=by
 induction h with
 | refl=>exact .refl
 | step i _ hi aB aH a_=>exact .step i a_ (cm i hi) aB aH
def Pu (b:p3) (i k:Int):Bool:=IM (ix b.2 i) (ix b.2 k)
theorem YI {b:p3} {i k:Int}:Pu b i k=true↔∃ f,qI b i f∧qI b k f:=by
 unfold Pu IM qI;simp only [tH,decide_eq_true_eq];constructor
 ·rintro (((h | h) | h) | h)
  ·exact ⟨_,.inl rfl,.inl h.symm⟩
  ·exact ⟨_,.inl rfl,.inr h.symm⟩
  ·exact ⟨_,.inr rfl,.inl h.symm⟩
  ·exact ⟨_,.inr rfl,.inr h.symm⟩
 ·rintro ⟨f,ad | ad,af | af⟩ <;> omega
def HN (b:p3) (s:Int) (r:List Int):Bool:=r.any (Pu b s)
structure q2 (b:p3) (S:List Int) (out:List (List Int)):Prop where
 ne:∀ r∈out,r≠[]
 so:∀ r∈out,r.Pairwise (·<·)
 mem:∀ x,x∈S↔∃ r∈out,x∈r
 rb:out.Pairwise fun r q=>∀ x∈r,x ∉ q
 Ik:∀ r∈out,∀ x∈r,∀ y∈r,∀ f g,qI b x f→qI b y g→rf b S f g
 sep:∀ r∈out,∀ q∈out,∀ x∈r,∀ y∈q,∀ f,qI b x f→qI b y f→r=q
def own (b:p3) (out:List (List Int)) (s:Int):List Int:=s::(out.filter (HN b s)).flatten
def zB (b:p3) (out:List (List Int)) (s:Int):List (List Int):=(out.filter fun r=>!HN b s r)++[GO (own b out s)]
section
variable {b:p3} {S:List Int} {out:List (List Int)} {s:Int}
theorem q2.uniq (h:q2 b S out) {r q:List Int} {x:Int} (aj:r∈out) (a3:q∈out) (ad:x∈r) (af:x∈q):r=q:=h.sep r aj q a3 x ad x af _ (.inl rfl) (.inl rfl)
theorem W3 {x:Int}:x∈own b out s↔x=s∨∃ r∈out,HN b s r=true∧x∈r:=by
 unfold own;simp only [sk,tT,sM,and_assoc]
theorem q2.Xh (h:q2 b S out) (ai:s ∉ S):(own b out s).Nodup:=by
 unfold own;refine uh.2 ⟨fun hm=>?_,?_⟩
 ·obtain ⟨r,aj,al⟩:=tT.1 hm;exact ai ((h.mem s).2 ⟨r,(sM.1 aj).1,al⟩)
 ·refine List.pairwise_flatten.2 ⟨fun r aj=>(h.so r (sM.1 aj).1).imp fun HS e=>by omega,(h.rb.filter _).imp fun KQ x al y a0 e=>KQ x al (by rw [e];exact a0)⟩
theorem q2.step (h:q2 b S out) (ai:s ∉ S):q2 b (S++[s]) (zB b out s):=by
 have jI:=h.Xh ai;have LM:∀ x,x∈GO (own b out s)↔x=s∨∃ r∈out,HN b s r=true∧x∈r:=fun x=>by rw [(X8 _).mem_iff];exact W3
 have Ji:∀ r,r∈zB b out s↔(r∈out∧HN b s r=false)∨r=GO (own b out s):=fun r=>by
  unfold zB;simp only [sS,sM,sB,Bool.not_eq_true']
 have Iu:∀ x∈S,x∈S++[s]:=fun x al=>by simp [al]
 have Wx:∀ x∈GO (own b out s),∀ f,qI b x f→rf b (S++[s]) (ix b.2 s).1 f:=fun x al f aQ=>by
  rcases (LM x).1 al with rfl | ⟨r,aj,bI,IY⟩
  ·exact .one (by simp) (.inl rfl) aQ
  ·obtain ⟨k,av,ax⟩:=uU.1 bI;obtain ⟨g,cb,b8⟩:=YI.1 ax;exact (rf.one (i:=s) (by simp) (.inl rfl) cb).trans ((h.Ik r aj k av x IY g f b8 aQ).mono Iu)
 have fX:∀ r∈out,HN b s r=false→∀ x∈r,∀ y∈GO (own b out s),∀ f,qI b x f→qI b y f→False:=fun r aj bI x al y a0 f f1 f2=>by
  rcases (LM y).1 a0 with rfl | ⟨q,a3,CU,aeI⟩
  ·have:HN b y r=true:=uU.2 ⟨x,al,YI.2 ⟨f,f2,f1⟩⟩
   rw [this] at bI;cases bI
  ·obtain rfl:=h.sep r aj q a3 x al y aeI f f1 f2;rw [CU] at bI;cases bI
 refine ⟨fun r aj=>?_,fun r aj=>?_,fun x=>?_,?_,fun r aj x al y a0 f g aQ aO=>?_,fun r aj q a3 x al y a0 f aQ aO=>?_⟩
 ·rcases (Ji r).1 aj with ⟨ad,_⟩ | rfl
  ·exact h.ne r ad
  ·intro e;have:=(LM s).2 (.inl rfl);rw [e] at this;cases this
 ·rcases (Ji r).1 aj with ⟨ad,_⟩ | rfl
  ·exact h.so r ad
  ·exact ahY jI
 ·constructor
  ·intro al;rcases sS.1 al with al | al
   ·obtain ⟨r,aj,IY⟩:=(h.mem x).1 al;cases bI:HN b s r with
    | true=>exact ⟨_,(Ji _).2 (.inr rfl),(LM x).2 (.inr ⟨r,aj,bI,IY⟩)⟩
    | false=>exact ⟨r,(Ji r).2 (.inl ⟨aj,bI⟩),IY⟩
   ·exact ⟨_,(Ji _).2 (.inr rfl),(LM x).2 (.inl (by simpa using al))⟩
  ·rintro ⟨r,aj,IY⟩;rcases (Ji r).1 aj with ⟨ad,_⟩ | rfl
   ·exact Iu x ((h.mem x).2 ⟨r,ad,IY⟩)
   ·rcases (LM x).1 IY with rfl | ⟨q,a3,_,LP⟩
    ·simp
    ·exact Iu x ((h.mem x).2 ⟨q,a3,LP⟩)
 ·unfold zB;refine u6.2 ⟨h.rb.filter _,by simp,fun r aj q a3 x al LP=>?_⟩;simp only [sB] at a3;subst a3;have aj:=sM.1 aj;exact fX r aj.1 (by simpa using aj.2) x al x LP _ (.inl rfl) (.inl rfl)
 ·rcases (Ji r).1 aj with ⟨ad,_⟩ | rfl
  ·exact (h.Ik r ad x al y a0 f g aQ aO).mono Iu
  ·exact (Wx x al f aQ).symm.trans (Wx y a0 g aO)
 ·rcases (Ji r).1 aj with ⟨ad,af⟩ | rfl
  ·rcases (Ji q).1 a3 with ⟨aG,_⟩ | rfl
   ·exact h.sep r ad q aG x al y a0 f aQ aO
   ·exact (fX r ad af x al y a0 f aQ aO).elim
  ·rcases (Ji q).1 a3 with ⟨aG,a6⟩ | rfl
   ·exact (fX q aG a6 y a0 x al f aO aQ).elim
   ·rfl
theorem q2.perm {GM:List (List Int)} (h:q2 b S out) (aC:GM.Perm out):q2 b S GM:=by
 refine ⟨fun r aj=>h.ne r (aC.mem_iff.1 aj),fun r aj=>h.so r (aC.mem_iff.1 aj),fun x=>?_,aC.symm.pairwise h.rb fun {r q} KQ x al iP=>KQ x iP al,fun r aj=>h.Ik r (aC.mem_iff.1 aj),fun r aj q a3=>h.sep r (aC.mem_iff.1 aj) q (aC.mem_iff.1 a3)⟩;rw [h.mem x];exact ⟨fun ⟨r,aj,al⟩=>⟨r,aC.mem_iff.2 aj,al⟩,fun ⟨r,aj,al⟩=>⟨r,aC.mem_iff.1 aj,al⟩⟩
theorem q2.closed (h:q2 b S out) {q:List Int} (a3:q∈out) {x:Int} (al:x∈q) {f g:Int} (aQ:qI b x f) (ao:rf b S f g):∀ z∈S,qI b z g→z∈q:=by
 induction ao with
 | refl =>
   intro z bm R0;obtain ⟨r,aj,fJ⟩:=(h.mem z).1 bm;rw [h.sep q a3 r aj x al z fJ f aQ R0];exact fJ
 | step i _ hi aB aH a_ =>
   intro z bm R0;have lV:=a_ i hi aB;obtain ⟨r,aj,fJ⟩:=(h.mem z).1 bm;rw [h.sep q a3 r aj i lV z fJ _ aH R0];exact fJ
theorem q2.same {P Q:List (List Int)} (B8:q2 b S P) (bl:q2 b S Q) (ad:P.Pairwise fun x y=>ix x 0<ix y 0) (af:Q.Pairwise fun x y=>ix x 0<ix y 0):P=Q:=by
 have key:∀ {P Q:List (List Int)},q2 b S P→q2 b S Q→∀ r∈P,r∈Q:=fun {P Q} B8 bl r aj=>by
  obtain ⟨x,al⟩:=List.exists_mem_of_ne_nil r (B8.ne r aj);have aeG:=(B8.mem x).2 ⟨r,aj,al⟩;obtain ⟨q,a3,LP⟩:=(bl.mem x).1 aeG;have e:r=q:=TB (B8.so r aj) (bl.so q a3) fun y=>by
   constructor
   ·intro a0;exact bl.closed a3 LP (.inl rfl) (B8.Ik r aj x al y a0 _ _ (.inl rfl) (.inl rfl)) y ((B8.mem y).2 ⟨r,aj,a0⟩) (.inl rfl)
   ·intro a0;exact B8.closed aj al (.inl rfl) (bl.Ik q a3 x LP y a0 _ _ (.inl rfl) (.inl rfl)) y ((bl.mem y).2 ⟨q,a3,a0⟩) (.inl rfl)
  rw [e];exact a3
 exact XQ ad af fun r=>⟨key B8 bl r,key bl B8 r⟩
end
end Go.Proofs.YtfakoboiahbhaaaGreat.Ab


namespace Go.Proofs.YtfakoboiahbhaaaGreat.Ab
open Go
def ri (b:p3) (l:List Int):Prop:=∀ x∈l,0≤x∧x<(b.2.length:Int)
section
variable {b:p3} {S:List Int} {out:List (List Int)} {s:Int}
theorem aag {r:List Int} (ag:b.2.length≤1000) (aj:ri b r) (ai:0≤s∧s<(b.2.length:Int)) (ak:r.length≤1000):Lr r b s=some (HN b s r):=by
 rw [Lr,Uf (p:=Pu b s) (fun k av=>by
  rw [PT,TW,qe ai,qe (aj k av)];rfl) (by omega),r_];rfl
theorem JN {l:List Int} (aN:l.Nodup) (ak:ri b l):l.length≤b.2.length:=Kc aN ak
theorem Rw (ag:b.2.length≤1000) (ai:0≤s∧s<(b.2.length:Int)):∀ (out:List (List Int)) (acc:List Int),(∀ r∈out,ri b r∧r.length≤1000)→(acc++(out.filter (HN b s)).flatten).length≤1000 →
  HM (Ou b s) out acc=some (acc++(out.filter (HN b s)).flatten)
 | [],acc,_,_=>by simp [HM]
 | r::out,acc,h,ak=>by
   have aj:=h r (by simp);rw [HM,Ou,aag ag aj.1 ai aj.2,r_];rw [tc] at ak ⊢;cases bI:HN b s r with
   | true =>
     rw [bI,if_pos rfl,tI,←sj] at ak;have fa:acc.length+r.length≤1000:=by
      rw [sm,sm] at ak;omega
     rw [if_pos rfl,qe (by omega),r_,Rw ag ai out _ (fun q a3=>h q (by simp [a3])) ak,if_pos rfl,tI,sj]
   | false =>
     rw [bI] at ak;rw [if_neg (by decide),r_,Rw ag ai out _ (fun q a3=>h q (by simp [a3])) (by simpa using ak),if_neg (by decide)]
theorem VH {f:List Int→Option Bool} {p:List Int→Bool}:∀ (l:List (List Int)),(∀ r∈l,f r=some (p r))→KE f l=some (l.filter fun r=>!p r)
 | [],_=>rfl
 | r::l,h=>by
   rw [KE,h r (by simp),r_,VH l fun q a3=>h q (by simp [a3]),r_,tc];cases p r <;> rfl
theorem Xl:∀ (l:List (List Int)),(∀ r∈l,r≠[])→l.length≤l.flatten.length
 | [],_=>Nat.le_refl _
 | r::l,h=>by
   have:=Xl l fun q a3=>h q (by simp [a3]);have:=List.length_pos_iff.2 (h r (by simp));simp only [tI,sm,sH];omega
theorem q2.V2 (h:q2 b S out):out.flatten.Nodup :=
 List.pairwise_flatten.2 ⟨fun r aj=>(h.so r aj).imp fun HS e=>by omega,h.rb.imp fun KQ x al y a0 e=>KQ x al (by rw [e];exact a0)⟩
theorem q2.KS (h:q2 b S out) (cm:ri b S):∀ r∈out,ri b r:=fun r aj x al=>cm x ((h.mem x).2 ⟨r,aj,al⟩)
theorem q2.few (h:q2 b S out) (cm:ri b S):out.length≤b.2.length:=by
 refine Nat.le_trans (Xl out h.ne) (JN h.V2 fun x al=>?_);obtain ⟨r,aj,al⟩:=tT.1 al;exact h.KS cm r aj x al
theorem agm (ag:b.2.length≤10) (cm:ri b S) (h:q2 b S out) (ai:s ∉ S) (dO:0≤s∧s<(b.2.length:Int)):Ng b out s=some (zB b out s):=by
 have gZ:=h.KS cm;have C1:∀ r∈out,r.length≤10:=fun r aj=>by
  have:=JN ((h.so r aj).imp fun HS e=>by omega:r.Nodup) (gZ r aj);omega
 have fH:(own b out s).length≤10:=by
  have aer:ri b (own b out s):=fun x al=>by
   rcases W3.1 al with e | ⟨r,aj,_,IY⟩
   ·rw [e];exact dO
   ·exact gZ r aj x IY
  have:=JN (h.Xh ai) aer;omega
 have aQ:=h.few cm;have Wm:=Rw (by omega) dO out [s] (fun r aj=>⟨gZ r aj,by have:=C1 r aj;omega⟩) (by have:[s]++(out.filter (HN b s)).flatten=own b out s:=rfl;rw [this];omega);rw [show [s]++(out.filter (HN b s)).flatten=own b out s from rfl] at Wm;rw [Ng,Wm,r_,qe ⟨by omega,by unfold own;simp,by omega⟩,VH (p:=HN b s) out (fun r aj=>aag (by omega) (gZ r aj) dO (by have:=C1 r aj;omega)),r_];rfl
theorem Xm (ag:b.2.length≤10):∀ (R S:List Int) (out:List (List Int)),(S++R).Nodup→ri b (S++R)→q2 b S out→∃ GM,HM (Ng b) R out=some GM∧q2 b (S++R) GM
 | [],S,out,_,_,h=>⟨out,rfl,by simpa using h⟩
 | s::R,S,out,aN,gZ,h=>by
   have ai:s ∉ S:=fun ai=>by
    have:=(ua.1 aN).2.2 s ai s (by simp);exact this rfl
   (have e:S++s::R=(S++[s])++R:=by simp);obtain ⟨GM,ad,af⟩:=Xm ag R (S++[s]) (zB b out s) (by rw [←e];exact aN) (by rw [←e];exact gZ) (h.step ai);refine ⟨GM,?_,by rw [e];exact af⟩;rw [HM,agm ag (fun x al=>gZ x (by simp [al])) h ai (gZ s (by simp)),r_,ad]
theorem q2.nil:q2 b [] []:=⟨fun r aj=>absurd aj (by simp),fun r aj=>absurd aj (by simp),fun x=>by simp,.nil,fun r aj=>absurd aj (by simp),fun r aj=>absurd aj (by simp)⟩
theorem head_mem {r:List Int} (h:r≠[]):ix r 0∈r:=by
 cases r with
 | nil=>exact absurd rfl h
 | cons a r=>simp [ix]
theorem Z6 (ag:b.2.length≤10) (aN:S.Nodup) (gZ:ri b S):∃ out,JV b S=some out∧q2 b S out∧out.Pairwise fun x y=>ix x 0<ix y 0:=by
 obtain ⟨out,ad,af⟩:=Xm ag S [] [] (by simpa using aN) (by simpa using gZ) q2.nil;rw [tW] at af;have aC:=af.perm (ah2 out);have ak:=JN aN gZ;refine ⟨Ic out,?_,aC,ah3 (af.rb.imp_of_mem fun {r q} aj a3 KQ e=>KQ _ (head_mem (af.ne r aj)) (by rw [e];exact head_mem (af.ne q a3)))⟩;have aQ:=af.few gZ;have c_:out.all L_=true:=List.all_eq_true.2 fun r aj=>by
  have hm:=head_mem (af.ne r aj);have hi:=af.KS gZ r aj _ hm;have he:(!r.isEmpty)=true:=by
   cases r with
   | nil=>exact absurd rfl (af.ne [] aj)
   | cons a r=>rfl
  rw [L_,he,decide_eq_true hi.1,decide_eq_true (by omega)];rfl
 rw [JV,qe (by omega),ad,r_,qe ⟨by omega,c_⟩]
end
end Go.Proofs.YtfakoboiahbhaaaGreat.Ab


namespace Go.Proofs.YtfakoboiahbhaaaGreat.Ab
open Go
set_option maxRecDepth 20000
set_option maxHeartbeats 4000000
noncomputable def N0:eA :=
 .loop (some (Ex false [3,1,6,2,8])) (Gx [gO 12 [.sl 11,.sl 10] (.bin .lss)] (.seq (.cond (.sl 12) .skip (.exit 0)) (.seq (.block 1 (Gx [Gl 13 11,Gm 4 13] (Gq [Gm 14 3,Gm 15 4,gO 16 [.hL 15] (.x_ 1 1 [.int .i64 0] [0]),gO 17 [.hI 14,.hI 16] (.app 1 8),Gm 3 17]))) (Gq [FX 18 11 1,Gm 11 18]))))
noncomputable def Uh:eA :=
 Gx [gO 2 [.iC (.ay [] 0 .full)] (.nil 1)] (Gx [gO 3 [.iC (.ay [] 0 .full)] (.nil 1)] (.seq (Gx [Gm 5 0,gO 6 [.hL 5] .zA,F4 7 6 0,F4 8 7 1,Gj 9 8,Gi 10 9,Gk 11 0] (.block 0 N0)) (Gx [Gm 19 3,Gm 2 19] .ret)))
theorem W0:ze Tryz.prog QJ 77=some (Uh,20,[.tmp 2]):=by kernel_rfl
def Lm (t:qb) (p9:qa→Option qa):Nat→qa→Int→Option qa
 | 0,_,_=>none
 | m+1,s1,s2 =>
   if (decide (s2<(t.2.length:Int)))=true then
    p6 ((s1.length+1)*8≤140737488355328) <|
    Lm t p9 m (s1++[s2]) (w (s2+(1:Int)))
   else
    p9 s1
def Mz (t:qb):Option qa :=
 Lm t (fun xY =>
   some xY) p8 ([]:List Int) (0:Int)
theorem akd {t:qb} {p9:qa→Option qa} {s1:qa} {s2:Int} {v:qa} {Q:rp}   (rm:∀ (xY:qa) (p5:List I),p9 xY=some v→q7 20 [(3,(qj xY (.uniq 1)))] p5→Q (.exit 0) p5 []) {T:List I} (bX:eT (Ex false [3,1,6,2,8]) T=GD 20 [(3,(qj s1 (.uniq 1))),(10,(hR (t.2.length:Int))),(11,(hR s2))]) (h:Lm t p9 p8 s1 s2=some v) :
  dD Tryz.prog QJ 77 0 none N0 T [] Q:=by
 unfold N0;refine wp_loop bX ?_;refine .intro (fun m T H=>∃ (s1:qa) (s2:Int),T=GD 20 [(3,(qj s1 (.uniq 1))),(10,(hR (t.2.length:Int))),(11,(hR s2))]∧H=[]∧Lm t p9 m s1 s2=some v) p8 ⟨s1,s2,rfl,rfl,h⟩ ?_;clear h bX;rintro m T H ⟨s1,s2,rfl,rfl,h⟩;cases m
 ·exact q9 h
 rename_i m;rw [Lm.eq_2] at h;conv=>whnf
 refine bs h (fun eW h=>?_) fun eW h=>?_
 ·rw [eW];conv=>whnf
  obtain ⟨fm,h⟩:=qJ h;refine ⟨by first | rfl | simp,by have:=fm;omega,rfl,fm,?_⟩
  erw [Ly hR s1 s2];conv=>whnf
  exact ⟨m,sv m,(s1++[s2]),(w (s2+(1:Int))),rfl,rfl,h⟩
 ·rw [eW];conv=>whnf
  exact rm _ _ h ⟨rfl,rfl⟩
theorem Uc {t:qb} {v:qa} (h:Mz t=some v):qg 77 [(.bU [(hR t.1),(.ay (t.2.flatMap p0) t.2.length .shared)])] (.ay (v.map hR) v.length .shared):=by
 refine qB dJ W0 rfl (ra (fun _=>rfl) _ _ _) fun Q bl=>?_;have jy:qn [.tmp 2] Q (fun v=>(qj v .shared)) v:=fun T H bI=>bl _ T H bI;unfold Mz at h;unfold Uh;obtain ⟨Hn,qC⟩:∃ c,N0=c:=⟨_,rfl⟩;rw [qC];conv=>whnf
 subst qC;refine akd ?_ (by exact rfl) h;intro xY p5 h qi;obtain ⟨qZ,rfl⟩:=qi.ex;conv=>whnf
 exact p4 h jy rfl rfl

noncomputable def aaI:eA :=
 Gx [gO 1 [.hI 0] .box,gO 2 [.iC (.ay [] 0 .full)] (.nil 1),Gk 3 0] (Gx [gO 7 [.hL 1] (.pV (.str 2)),gO 8 [.iC (.func 64 [] []),.sl 7] (.call 3),Gm 6 8,GH 9 6 0,gO 10 [.hL 6] (.ext 1),Gm 4 9,Gm 5 10] (.seq (Gx [Gl 11 5,FY 12 11 0 .neq] (.cond (.sl 12) (Gx [Gm 13 5,gO 2 [.iC (.ay [] 0 .full)] (.nil 1),Gm 3 13] .ret) .skip)) (Gx [Gl 14 4,Gm 15 4,gO 16 [.iC (.func 77 [] []),.sl 15] (.call 3),gO 17 [.iC (.func 79 [] []),.sl 14,.sl 16] (.call 3),Gm 2 17,Gk 3 0] .ret)))
theorem aft:ze Tryz.prog UX 29=some (aaI,18,[.tmp 2,.tmp 3]):=by kernel_rfl
def NP (b:qb):Option (GJ×Int) :=
 (IA b).bind fun r1 =>
 match r1 with
 | (none,q1) =>
   if (decide (q1≠(0:Int)))=true then
    some ([],q1)
   else
    none
 | (some bR,q1) =>
   if (decide (q1≠(0:Int)))=true then
    some ([],q1)
   else
    (Mz bR).bind fun r2 =>
    (JV bR r2).bind fun eF =>
    some (eF,(0:Int))
theorem ajS {b:qb} {v:(GJ×Int)} (h:NP b=some v):qg 29 [(.agg [(hR b.1),(.ay (b.2.flatMap p0) b.2.length .shared)])] (.tuple [(.ay (v.1.map jj) v.1.length .shared),(hR v.2)]):=by
 refine qB dJ aft rfl (H5 (pY (ra (fun _=>(ra (fun _=>rfl) _ _ _)) _ _ _) (pY rfl rfl))) fun Q bl=>?_;have jy:qn [.tmp 2,.tmp 3] Q (fun v=>(.tuple [(.ay (v.1.map jj) v.1.length .shared),(hR v.2)])) v:=fun T H bI=>bl _ T H bI;unfold NP at h;unfold aaI;conv=>whnf
 obtain ⟨r1,eW,h⟩:=p' h;rcases r1 with ⟨_ | bR,q1⟩
 ·refine ⟨qf.pl,_,IQ eW,?_⟩;conv=>whnf
  refine bs h (fun fm h=>?_) fun fm h=>?_
  ·rw [fm];(conv=>whnf);exact p4 h jy rfl rfl
  ·rw [fm];(conv=>whnf);exact q9 h
 ·refine ⟨qf.pl,_,IQ eW,?_⟩;conv=>whnf
  refine bs h (fun qd h=>?_) fun qd h=>?_
  ·rw [qd];(conv=>whnf);exact p4 h jy rfl rfl
  ·rw [qd];(conv=>whnf);obtain ⟨r2,qq,h⟩:=p' h;refine ⟨qf.pl,_,Uc qq,?_⟩;(conv=>whnf);obtain ⟨eF,qP,h⟩:=p' h;refine ⟨qf.pl,_,PG qP,?_⟩;(conv=>whnf);exact p4 h jy rfl rfl

end Go.Proofs.YtfakoboiahbhaaaGreat.Ab


namespace Go.Proofs.YtfakoboiahbhaaaGreat.Ab
open Go
set_option maxRecDepth 20000
set_option maxHeartbeats 4000000
end Go.Proofs.YtfakoboiahbhaaaGreat.Ab
