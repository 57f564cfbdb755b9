
import Derived.Test.YtfakoboiahbhaaaGreatJr5
import Derived.KernelRfl
import Derived.Test.YtfakoboiahbhaaaGreatJr6
import Derived.Test.YtfakoboiahbhaaaGreatJr7
import Derived.Test.YtfakoboiahbhaaaGreatJr4
set_option linter.unusedSimpArgs false
set_option linter.unusedVariables false
set_option linter.unusedSectionVars false

open Bool renaming false_or→vr,or_eq_true→tX,or_false→wC,true_or→vW
open Decidable renaming not_not→uY
open Int renaming le_trans→vG,lt_or_le→uZ,toNat_natCast→tI,toNat_of_nonneg→uH
open List renaming any_cons→uN,any_eq_false→uF,any_eq_true→vk,any_nil→wB,append_assoc→sD,drop_eq_getElem_cons→tf,drop_eq_nil_of_le→tz,drop_zero→tb,filter_cons→tr,flatten_cons→tG,getD_eq_getElem?_getD→sV,getElem?_append→su,getElem?_eq_getElem→sI,getElem?_set_ne→sG,getElem_mem→sL,getElem_replicate→wE,length_append→sA,length_cons→sP,length_pos_of_mem→wD,map_cons→sy,mem_append→te,mem_cons→sH,mem_filter→s_,mem_flatten→tZ,mem_map→sJ,mem_range→sX,mem_singleton→sQ,nil_append→ur,nodup_append→uz,nodup_cons→uA,pairwise_append→vt,pairwise_cons→tD,pairwise_iff_getElem→tB,take_zero→tu
open Nat renaming lt_succ_self→sv,zero_le→sK
open Option renaming bind_some→sq
namespace Go.Proofs.YtfakoboiahbhaaaGreat.Ab
open Go
def aJ:qR:=.pure 18 [.agg [.int .i64 4,.ay [.int .i64 0,.int .i64 1,.int .i64 1,.int .i64 2,.int .i64 2,.int .i64 0,.int .i64 2,.int .i64 3] 4 .shared],.ay [.int .i64 1,.int .i64 1,.int .i64 0,.int .i64 1,.int .i64 2,.int .i64 1,.int .i64 3,.int .i64 0] 4 .shared] (.tuple [.int .i64 2,.int .i64 3,.int .i64 0])
def aP:qR:=.pure 22 [.agg [.int .i64 4,.ay [.int .i64 0,.int .i64 1,.int .i64 1,.int .i64 2,.int .i64 2,.int .i64 0,.int .i64 2,.int .i64 3] 4 .shared],.ay [.int .i64 1,.int .i64 1,.int .i64 0,.int .i64 1,.int .i64 2,.int .i64 1,.int .i64 3,.int .i64 0] 4 .shared] (.int .i64 27)
def cl:qR:=.pure 27 [.agg [.int .i64 5,.ay [.int .i64 0,.int .i64 1,.int .i64 2,.int .i64 3,.int .i64 4,.int .i64 4] 3 .shared]] (.tuple [.ay [.int .i64 0,.int .i64 1,.int .i64 2,.int .i64 3] 4 .full,.int .i64 0])
def jW:qR:=.pure 29 [.agg [.int .i64 4,.ay [.int .i64 0,.int .i64 1,.int .i64 1,.int .i64 2,.int .i64 2,.int .i64 0,.int .i64 2,.int .i64 3] 4 .shared]] (.tuple [.ay [.ay [.int .i64 0,.int .i64 1,.int .i64 2,.int .i64 3] 4 .shared] 1 .shared,.int .i64 0])
def Dk:qR:=.pure 35 [.agg [.int .i64 4,.ay [.int .i64 0,.int .i64 1,.int .i64 1,.int .i64 2,.int .i64 2,.int .i64 0,.int .i64 2,.int .i64 3] 4 .shared]] (.tuple [.int .i64 1,.int .i64 0])
def L9:qR:=.pure 35 [.agg [.int .i64 2,.ay [.int .i64 0,.int .i64 1,.int .i64 1,.int .i64 0] 2 .shared]] (.tuple [.int .i64 1,.int .i64 0])
end Go.Proofs.YtfakoboiahbhaaaGreat.Ab


namespace Go.Proofs.YtfakoboiahbhaaaGreat.Ab
open Go
def aa6:List qR:=[bF,bV,GZ,JW,NH,aa0,aa1,aa2,aa3,aaM,aaN,aaO,aaP,aaQ,aaR,aaS,aaT,aaU,aaV,aaW,aaX,aaY,aaZ]
theorem alo:∀ e∈aa6,q4 Go.Proofs.Tryz.prog e:=by
 simp only [aa6,List.forall_mem_cons];exact ⟨ak_,ale,alf,alg,alh,ali,alj,alk,alm,ak0,ak1,ak2,ak3,ak4,ak5,ak6,ak7,ak8,ak9,ala,alb,alc,ald,by simp⟩
abbrev adi:Prop:=qD 17 [] (B true)
theorem alp:adi:=G5 alo (by kernel_rfl)
end Go.Proofs.YtfakoboiahbhaaaGreat.Ab


namespace Go.Proofs.YtfakoboiahbhaaaGreat.Ab
open Go
def Il:Option Bool:=some true
theorem JX {v:Bool} (h:Il=some v):qD 17 [] (B v):=by
 obtain rfl:=Option.some.inj h;exact alp
end Go.Proofs.YtfakoboiahbhaaaGreat.Ab


namespace Go.Proofs.YtfakoboiahbhaaaGreat.Ab
open Go
set_option maxRecDepth 20000
set_option maxHeartbeats 4000000
noncomputable def acw:eE :=
 GD [gV 1 [.hP 0] .box,gV 2 [.iK (.bool false)] .i_] (GD [F_ 3 1 1,Gq 4 3,Gp 5 4,F4 6 5 14 .gtr,Gt 2 6] .ret)
theorem ahp:zm Tryz.prog WA 16=some (acw,7,[.tmp 2]):=by kernel_rfl
def Pf (b:qk):Option Bool :=
 some (decide ((14:Int)<(b.2.length:Int)))
theorem alO {b:qk} {v:Bool} (h:Pf b=some v):qD 16 [(.agg [(hY b.1),(.ay (b.2.flatMap p4) b.2.length .shared)])] (B v):=by
 refine qZ dM ahp rfl rfl fun Q bo=>?_;have jG:qK [.tmp 2] Q (fun v=>(B v)) v:=fun T H bK=>bo _ T H bK;unfold Pf at h;unfold acw;conv=>whnf
 exact qc h jG rfl rfl

noncomputable def ac8:eE :=
 GD [gV 4 [.iK (.bool false)] .i_] (GD [Gs 5 0,Gq 6 1,F5 7 5 6 .lss,Gt 8 7,cS 9 [.hP 0] 8 false .i_,cS 10 [.hS 2] 8 false (.p2 .one),cS 11 [.hS 9,.hS 10] 8 false (.bin .gtr),gV 12 [.hS 8,.iK (.bool true),.hS 11] .pick,Gt 4 12] .ret)
theorem ah1:zm Tryz.prog W3 93=some (ac8,13,[.tmp 4]):=by kernel_rfl
def Pu (n c0 bc:Int):Option Bool :=
 if (decide (n<c0))=true then
  some true
 else
  some (decide (bc<n))
theorem amW {n:Int} {c0:Int} {bc:Int} {v:Bool} (h:Pu n c0 bc=some v):qD 93 [(hY n),(.bW [(hY c0)]),(.bW [(hY bc)])] (B v):=by
 refine qZ dM ah1 rfl rfl fun Q bo=>?_;have jG:qK [.tmp 4] Q (fun v=>(B v)) v:=fun T H bK=>bo _ T H bK;unfold Pu at h;unfold ac8;conv=>whnf
 refine bs h (fun e0 h=>?_) fun e0 h=>?_
 ·rw [e0];conv=>whnf
  exact qc h jG rfl rfl
 ·rw [e0];conv=>whnf
  exact qc h jG rfl rfl

noncomputable def acV:eE :=
 GD [gV 3 [.hP 0] .box,gV 4 [.hP 1] .box,gV 6 [.iK (.bool false)] .i_] (GD [Gt 7 2,gV 8 [.hS 3,.hS 4] (.zC 93 0 2),gV 9 [.iK (.func 92 [] []),.sl 7,.sl 8] (.call 6),gV 10 [.hS 9] (.un .not),Gt 6 10] .ret)
theorem ahO:zm Tryz.prog WT 66=some (acV,11,[.tmp 6]):=by kernel_rfl
def LC (lo hi:Int) (l:ql):Option Bool :=
 (K4 l (fun q1=>Pu q1 lo hi)).bind fun r1 =>
 some (!r1)
theorem Q7 {lo:Int} {hi:Int} {l:ql} {v:Bool} (h:LC lo hi l=some v):qD 66 [(hY lo),(hY hi),(.ay (l.map hY) l.length .shared)] (B v):=by
 refine qZ dM ahO rfl rfl fun Q bo=>?_;have jG:qK [.tmp 6] Q (fun v=>(B v)) v:=fun T H bK=>bo _ T H bK;unfold LC at h;unfold acV;conv=>whnf
 obtain ⟨r1,e0,h⟩:=qj h;refine ⟨_,_,IS (cs:=[(qG l .shared),(.func 93 [] [(.bW [(hY lo)]),(.bW [(hY hi)])])]) (bs:=[(qG l .shared),(.func 93 [] [(.bW [(hY lo)]),(.bW [(hY hi)])])]) (rB rfl (rB (Kt r6 (rB (I3 (cs:=[(hY lo)]) (by first | exact qz.h | rfl | (simp [su,I.settle];done)) rfl) (rB (I3 (cs:=[(hY hi)]) (by first | exact qz.h | rfl | (simp [su,I.settle];done)) rfl) r6))) r6)) (by rfl) (by exact (p5 (rO (fun _=>rfl) _ _ _) (p5 (JT rfl (p5 (rj (p5 rfl rfl)) (p5 (rj (p5 rfl rfl)) rfl))) rfl))) (Ri ⟨(p5 (rj (p5 rfl rfl)) (p5 (rj (p5 rfl rfl)) rfl)),by simp⟩ (fun _ _ a2=>amW a2) e0) rfl,?_⟩
 conv=>whnf
 exact qc h jG rfl rfl

noncomputable def ac1:eE :=
 GD [gV 2 [.hP 0] .box,gV 3 [.iK (.bool false)] .i_] (GD [F_ 4 1 0,Gq 5 4,F4 6 5 1 .sub,gV 7 [.sl 2] (.oY 0),Gq 8 7,F_ 9 2 1,Gq 10 9,gV 11 [.hS 8,.hS 10] (.yg 2 1 [.int .i64 0] [0,1]),gV 12 [.iK (.func 66 [] []),.iK (.int .i64 0),.sl 6,.sl 11] (.call 3),gV 13 [.hS 12] (.un .not),Gt 3 13] .ret)
theorem ahU:zm Tryz.prog WX 71=some (ac1,14,[.tmp 3]):=by kernel_rfl
def Q9 (s:(Int×Int)) (c0:qk):Option Bool :=
 (LC (0:Int) (w (c0.1-(1:Int))) [s.1,s.2]).bind fun r1 =>
 some (!r1)
theorem amB {s:(Int×Int)} {c0:qk} {v:Bool} (h:Q9 s c0=some v):qD 71 [(.agg [(hY s.1),(hY s.2)]),(.bW [(hY c0.1),(.ay (c0.2.flatMap p4) c0.2.length .shared)])] (B v):=by
 refine qZ dM ahU rfl rfl fun Q bo=>?_;have jG:qK [.tmp 3] Q (fun v=>(B v)) v:=fun T H bK=>bo _ T H bK;unfold Q9 at h;unfold ac1;conv=>whnf
 obtain ⟨r1,e0,h⟩:=qj h;refine ⟨(p5 rfl (p5 rfl (p5 rfl rfl))),_,Q7 e0,?_⟩;conv=>whnf
 exact qc h jG rfl rfl

noncomputable def RS:eE :=
 .loop (some (ED false [0,2,5,2,10])) (GD [gV 9 [.sl 8,.sl 7] (.bin .lss)] (.seq (.cond (.sl 9) .skip (.exit 0)) (.seq (.block 1 (GD [Gs 10 8,Gt 5 10] (GD [Gs 11 1,Gs 12 0,Gs 13 5,Gl 14 12 13 2,gV 15 [.hS 14] (.p2 (.str 2)),gV 16 [.sl 11,.sl 15] (.call 6)] (.cond (.sl 16) (GD [Gt 17 5,Gt 4 17] .ret) .skip)))) (Gw [F3 18 8 1,Gt 8 18]))))
noncomputable def ac_:eE :=
 GD [Gr 4 0] (.seq (GD [Gs 6 0,Gp 7 6,Gr 8 0] (.block 0 RS)) (GD [Gr 4 (-1)] .ret))
theorem ah3:zm Tryz.prog Si 95=some (ac_,19,[.tmp 4]):=by kernel_rfl
def MJ (s:p') (f:((Int×Int)→Option Bool)) (qi:Unit→Option Int):Nat→Int→Option Int
 | 0,_=>none
 | m+1,s1 =>
   if (decide (s1<(s.length:Int)))=true then
    qh (0≤s1∧s1<(s.length:Int)) <|
    (f (ix s s1)).bind fun r1 =>
    if r1=true then
     some s1
    else
     MJ s f qi m (w (s1+(1:Int)))
   else
    qi ()
def Rk (s:p') (f:((Int×Int)→Option Bool)):Option Int :=
 MJ s f (fun _ =>
   some (-1:Int)) qe (0:Int)
theorem amZ {s:p'} {f:((Int×Int)→Option Bool)} {qi:Unit→Option Int} {s1:Int} {r5:FuncId} {rp:List I} (sd:GN rp) (Ig:∀ (q1:(Int×Int)) (r:Bool),f q1=some r→qD r5 ((.agg [(hY q1.1),(hY q1.2)])::rp) (B r)) {v:Int} {Q:q8}   (jG:qK [.tmp 4] Q (fun v=>(hY v)) v) (rD:∀ (p8:List I),qi ()=some v→qO 19 [] p8→Q (.exit 0) p8 []) {T:List I} (bZ:eX (ED false [0,2,5,2,10]) T=GI 19 [(0,(p9 s .shared)),(1,(.func r5 [] rp)),(7,(hY (s.length:Int))),(8,(hY s1))]) (h:MJ s f qi qe s1=some v) :
  dG Tryz.prog Si 95 0 none RS T [] Q:=by
 unfold RS;refine wp_loop bZ ?_;refine .intro (fun m T H=>∃ (s1:Int),T=GI 19 [(0,(p9 s .shared)),(1,(.func r5 [] rp)),(7,(hY (s.length:Int))),(8,(hY s1))]∧H=[]∧MJ s f qi m s1=some v) qe ⟨s1,rfl,rfl,h⟩ ?_;clear h bZ;rintro m T H ⟨s1,rfl,rfl,h⟩;cases m
 ·exact q_ h
 rename_i m;rw [MJ.eq_2] at h;conv=>whnf
 refine bs h (fun e0 h=>?_) fun e0 h=>?_
 ·rw [e0];conv=>whnf
  refine qw h id fun fs h=>?_;rw [qY p4 2 qy s s1 fs];conv=>whnf
  obtain ⟨r1,qp,h⟩:=qj h;refine ⟨_,_,call6 (bs:=((.agg [(hY (ix s s1).1),(hY (ix s s1).2)])::rp)) (by simp only [sy,sd.iz,sd.cu];rfl) (by simp only [sy,sd.iz];exact (p5 (JD (p5 rfl (p5 rfl rfl))) sd.MS)) (Ig _ _ qp) rfl,?_⟩;conv=>whnf
  cases r1
  ·(conv=>whnf);replace h:=r0 rfl h;exact ⟨m,sv m,(w (s1+(1:Int))),rfl,rfl,h⟩
  ·(conv=>whnf);replace h:=rZ rfl h;exact qc h jG rfl rfl
 ·rw [e0];conv=>whnf
  exact rD  _ h ⟨rfl,rfl⟩
theorem am0 {s:p'} {f:((Int×Int)→Option Bool)} {r5:FuncId} {rp:List I} (sd:GN rp) (Ig:∀ (q1:(Int×Int)) (r:Bool),f q1=some r→qD r5 ((.agg [(hY q1.1),(hY q1.2)])::rp) (B r)) {v:Int} (h:Rk s f=some v):qD 95 [(.ay (s.flatMap p4) s.length .shared),(.func r5 [] rp)] (hY v):=by
 refine qZ dM ah3 rfl rfl fun Q bo=>?_;have jG:qK [.tmp 4] Q (fun v=>(hY v)) v:=fun T H bK=>bo _ T H bK;unfold Rk at h;unfold ac_;obtain ⟨HD,qS⟩:∃ c,RS=c:=⟨_,rfl⟩;rw [qS];conv=>whnf
 subst qS;refine amZ sd Ig ?_ ?_ (by exact rfl) h
 ·exact fun T H bK=>jG T H bK
 ·intro  p8 h qf;obtain ⟨qJ,rfl⟩:=qf.ex;conv=>whnf
  exact qc h jG rfl rfl

noncomputable def ac2:eE :=
 GD [gV 4 [.iK (.bool false)] .i_] (GD [Gt 5 0,Gt 6 1,gV 7 [.iK (.func 95 [] []),.sl 5,.sl 6] (.call 6),F4 8 7 0 .geq,Gt 4 8] .ret)
theorem ahV:zm Tryz.prog WY 72=some (ac2,9,[.tmp 4]):=by kernel_rfl
def Ps (s:p') (f:((Int×Int)→Option Bool)):Option Bool :=
 (Rk s f).bind fun r1 =>
 some (decide ((0:Int)≤r1))
theorem amD {s:p'} {f:((Int×Int)→Option Bool)} {r5:FuncId} {rp:List I} (sd:GN rp) (Ig:∀ (q1:(Int×Int)) (r:Bool),f q1=some r→qD r5 ((.agg [(hY q1.1),(hY q1.2)])::rp) (B r)) {v:Bool} (h:Ps s f=some v):qD 72 [(.ay (s.flatMap p4) s.length .shared),(.func r5 [] rp)] (B v):=by
 refine qZ dM ahV rfl rfl fun Q bo=>?_;have jG:qK [.tmp 4] Q (fun v=>(B v)) v:=fun T H bK=>bo _ T H bK;unfold Ps at h;unfold ac2;conv=>whnf
 obtain ⟨r1,e0,h⟩:=qj h;refine ⟨_,_,IS (cs:=[(p9 s .shared),(.func r5 [] rp)]) (bs:=[(p9 s .shared),(.func r5 [] rp)]) (rB rfl (rB (sd.fn _ _) r6)) (by rfl) (by exact (p5 (q7 (fun _=>(p5 rfl (p5 rfl rfl))) _ _ _) (p5 (sd.OQ _) rfl))) (am0 sd Ig e0) rfl,?_⟩;conv=>whnf
 exact qc h jG rfl rfl

noncomputable def acz:eE :=
 GD [gV 1 [.hP 0] .box,Gr 2 0] (GD [gV 4 [.sl 1] (.zC 71 0 1),Gt 3 4] (.seq (.block 0 (GD [gV 6 [.sl 1] (.oY 0),Gq 7 6,gV 8 [.hS 7] (.yg 1 1 [.int .i64 0] [0]),gV 9 [.iK (.func 66 [] []),.iK (.int .i64 1),.iK (.int .i64 6),.sl 8] (.call 3),gV 10 [.hS 9] (.un .not),Gt 11 10,cS 12 [.sl 1] 11 false (.oY 1),cS 13 [.hS 12] 11 false (.p2 .one),cS 14 [.hP 13] 11 false .xe,cS 15 [.hS 14,.iK (.int .i64 10)] 11 false (.bin .gtr),gV 16 [.hS 11,.iK (.bool true),.hS 15] .pick,Gt 5 16] (.cond (.sl 5) (GD [Gr 2 6] .ret) (GD [F_ 18 1 1,Gq 19 18,Gt 20 3,gV 21 [.iK (.func 72 [] []),.sl 19,.sl 20] (.call 6),Gt 17 21] (.cond (.sl 17) (GD [Gr 2 3] .ret) .skip))))) (GD [Gr 2 0] .ret)))
theorem ahs:zm Tryz.prog WB 20=some (acz,22,[.tmp 2]):=by kernel_rfl
def NN (b:qk):Option Int :=
 (LC (1:Int) (6:Int) [b.1]).bind fun r1 =>
 if r1=true then
  if (decide ((10:Int)<(b.2.length:Int)))=true then
   some (6:Int)
  else
   (Ps b.2 (fun q1=>Q9 q1 b)).bind fun r2 =>
   if r2=true then
    some (3:Int)
   else
    some (0:Int)
 else
  some (6:Int)
theorem abp {b:qk} {v:Int} (h:NN b=some v):qD 20 [(.agg [(hY b.1),(.ay (b.2.flatMap p4) b.2.length .shared)])] (hY v):=by
 refine qZ dM ahs rfl rfl fun Q bo=>?_;have jG:qK [.tmp 2] Q (fun v=>(hY v)) v:=fun T H bK=>bo _ T H bK;unfold NN at h;unfold acz;conv=>whnf
 obtain ⟨r1,e0,h⟩:=qj h;refine ⟨(p5 rfl (p5 rfl (p5 rfl rfl))),_,Q7 e0,?_⟩;conv=>whnf
 cases r1
 ·conv=>whnf
  replace h:=r0 rfl h;exact qc h jG rfl rfl
 ·conv=>whnf
  replace h:=rZ rfl h;refine bs h (fun fs h=>?_) fun fs h=>?_
  ·rw [fs];(conv=>whnf);exact qc h jG rfl rfl
  ·rw [fs];(conv=>whnf);obtain ⟨r2,qp,h⟩:=qj h;refine ⟨_,_,IS (cs:=[(p9 b.2 .shared),(.func 71 [] [(.bW [(hY b.1),(p9 b.2 .shared)])])]) (bs:=[(p9 b.2 .shared),(.func 71 [] [(.bW [(hY b.1),(p9 b.2 .shared)])])]) (rB rfl (rB (Kt r6 (rB (I3 (cs:=[(hY b.1),(p9 b.2 .shared)]) (by first | exact qz.h | rfl | (simp [su,I.settle];done)) rfl) r6)) r6)) (by rfl) (by exact (p5 (q7 (fun _=>(p5 rfl (p5 rfl rfl))) _ _ _) (p5 (JT rfl (p5 (rj (p5 rfl (p5 (q7 (fun _=>(p5 rfl (p5 rfl rfl))) _ _ _) rfl))) rfl)) rfl))) (amD ⟨(p5 (rj (p5 rfl (p5 (q7 (fun _=>(p5 rfl (p5 rfl rfl))) _ _ _) rfl))) rfl),by simp⟩ (fun _ _ a2=>amB a2) qp) rfl,?_⟩
   (conv=>whnf);cases r2
   ·(conv=>whnf);replace h:=r0 rfl h;exact qc h jG rfl rfl
   ·(conv=>whnf);replace h:=rZ rfl h;exact qc h jG rfl rfl

def RT (x:qk):List I:=[(hY x.1),(p9 x.2 .shared)]
instance {d:Nat} {x:qk}:qt (d+2) (RT x):=⟨(inferInstance:qt (d+2) [(hY x.1),(p9 x.2 .shared)]).pl⟩
noncomputable def acT:eE :=
 GD [gV 1 [.hP 0] .box,gV 2 [.iK .eH] .i_,Gr 3 0] (.seq (GD [gV 5 [.sl 1] (.p2 (.str 2)),gV 6 [.iK (.func 20 [] []),.sl 5] (.call 3),Gt 4 6] (GD [Gs 7 4,F4 8 7 0 .neq] (.cond (.sl 8) (GD [Gt 9 4,gV 2 [.iK .eH] .i_,Gt 3 9] .ret) .skip))) (GD [gV 10 [.hS 1] (.p2 (.str 2)),gV 11 [.hS 10] (.build [.int .i64 0,.ay [] 0 .full] [(0,2)]),gV 12 [.hP 11] .ye,Gt 2 12,Gr 3 0] .ret))
theorem ahM:zm Tryz.prog WR 64=some (acT,13,[.tmp 2,.tmp 3]):=by kernel_rfl
def Jo (b:qk):Option ((Option qk)×Int) :=
 (NN b).bind fun r1 =>
 if (decide (r1≠(0:Int)))=true then
  some (none,r1)
 else
  some ((some b),(0:Int))
theorem JG {b:qk} {v:((Option qk)×Int)} (h:Jo b=some v):qD 64 [(.agg [(hY b.1),(.ay (b.2.flatMap p4) b.2.length .shared)])] (.tuple [(Ql RT v.1),(hY v.2)]):=by
 refine qZ dM ahM rfl (IX (p5 (Za (fun _=>(p5 rfl (p5 (q7 (fun _=>(p5 rfl (p5 rfl rfl))) _ _ _) rfl))) _) (p5 rfl rfl))) fun Q bo=>?_;have jG:qK [.tmp 2,.tmp 3] Q (fun v=>(.tuple [(Ql RT v.1),(hY v.2)])) v:=fun T H bK=>bo _ T H bK;unfold Jo at h;unfold acT;conv=>whnf
 obtain ⟨r1,e0,h⟩:=qj h;refine ⟨qt.pl,_,abp e0,?_⟩;conv=>whnf
 refine bs h (fun fs h=>?_) fun fs h=>?_
 ·rw [fs];conv=>whnf
  exact qc h jG rfl rfl
 ·rw [fs];conv=>whnf
  refine ⟨rfl,?_⟩;conv=>whnf
  exact qc h jG rfl rfl

noncomputable def acU:eE :=
 GD [gV 2 [.hP 0] .box,gV 3 [.iK (.bool false)] .i_] (GD [F_ 4 1 1,Gq 5 4,Gp 6 5,F4 7 6 1 .sub,gV 8 [.sl 2] (.oY 0),Gq 9 8,gV 10 [.hS 9] (.yg 1 1 [.int .i64 0] [0]),gV 11 [.iK (.func 66 [] []),.iK (.int .i64 0),.sl 7,.sl 10] (.call 3),gV 12 [.hS 11] (.un .not),Gt 13 12,cS 14 [.hS 2] 13 false (.oY 1),cS 15 [.hS 14] 13 false (.p2 .one),⟨some 16,[.hS 15],some (13,false),none,.yg 1 1 [.int .i64 0] [0]⟩,⟨some 17,[.iK (.func 66 [] []),.iK (.int .i64 0),.iK (.int .i64 1),.sl 16],some (13,false),none,.call 3⟩,cS 18 [.hS 17] 13 false (.un .not),gV 19 [.hS 13,.iK (.bool true),.hS 18] .pick,Gt 3 19] .ret)
theorem ahN:zm Tryz.prog WS 65=some (acU,20,[.tmp 3]):=by kernel_rfl
def NU (p:(Int×Int)) (c0:qk):Option Bool :=
 (LC (0:Int) (w ((c0.2.length:Int)-(1:Int))) [p.1]).bind fun r1 =>
 if r1=true then
  (LC (0:Int) (1:Int) [p.2]).bind fun r2 =>
  some (!r2)
 else
  some true
theorem abV {p:(Int×Int)} {c0:qk} {v:Bool} (h:NU p c0=some v):qD 65 [(.agg [(hY p.1),(hY p.2)]),(.bW [(hY c0.1),(.ay (c0.2.flatMap p4) c0.2.length .shared)])] (B v):=by
 refine qZ dM ahN rfl rfl fun Q bo=>?_;have jG:qK [.tmp 3] Q (fun v=>(B v)) v:=fun T H bK=>bo _ T H bK;unfold NU at h;unfold acU;conv=>whnf
 obtain ⟨r1,e0,h⟩:=qj h;refine ⟨(p5 rfl (p5 rfl (p5 rfl rfl))),_,Q7 e0,?_⟩;conv=>whnf
 cases r1
 ·conv=>whnf
  replace h:=r0 rfl h;exact qc h jG rfl rfl
 ·conv=>whnf
  replace h:=rZ rfl h;obtain ⟨r2,fs,h⟩:=qj h;refine ⟨(p5 rfl (p5 rfl (p5 rfl rfl))),_,Q7 fs,?_⟩;conv=>whnf
  exact qc h jG rfl rfl

noncomputable def RR:eE :=
 .loop (some (ED false [0,2,5,2,10])) (GD [gV 9 [.sl 8,.sl 7] (.bin .lss)] (.seq (.cond (.sl 9) .skip (.exit 0)) (.seq (.block 1 (GD [Gs 10 8,Gt 5 10] (GD [Gs 11 1,Gs 12 0,Gs 13 5,Gl 14 12 13 2,gV 15 [.hS 14] (.p2 (.str 2)),gV 16 [.sl 11,.sl 15] (.call 6)] (.cond (.sl 16) (GD [Gt 17 5,Gt 4 17] .ret) .skip)))) (Gw [F3 18 8 1,Gt 8 18]))))
noncomputable def ac9:eE :=
 GD [Gr 4 0] (.seq (GD [Gs 6 0,Gp 7 6,Gr 8 0] (.block 0 RR)) (GD [Gr 4 (-1)] .ret))
theorem ah2:zm Tryz.prog Sh 94=some (ac9,19,[.tmp 4]):=by kernel_rfl
def MI (s:p') (f:((Int×Int)→Option Bool)) (qi:Unit→Option Int):Nat→Int→Option Int
 | 0,_=>none
 | m+1,s1 =>
   if (decide (s1<(s.length:Int)))=true then
    qh (0≤s1∧s1<(s.length:Int)) <|
    (f (ix s s1)).bind fun r1 =>
    if r1=true then
     some s1
    else
     MI s f qi m (w (s1+(1:Int)))
   else
    qi ()
def LJ (s:p') (f:((Int×Int)→Option Bool)):Option Int :=
 MI s f (fun _ =>
   some (-1:Int)) qe (0:Int)
theorem amY {s:p'} {f:((Int×Int)→Option Bool)} {qi:Unit→Option Int} {s1:Int} {r5:FuncId} {rp:List I} (sd:GN rp) (Ig:∀ (q1:(Int×Int)) (r:Bool),f q1=some r→qD r5 ((.agg [(hY q1.1),(hY q1.2)])::rp) (B r)) {v:Int} {Q:q8}   (jG:qK [.tmp 4] Q (fun v=>(hY v)) v) (rD:∀ (p8:List I),qi ()=some v→qO 19 [] p8→Q (.exit 0) p8 []) {T:List I} (bZ:eX (ED false [0,2,5,2,10]) T=GI 19 [(0,(p9 s .shared)),(1,(.func r5 [] rp)),(7,(hY (s.length:Int))),(8,(hY s1))]) (h:MI s f qi qe s1=some v) :
  dG Tryz.prog Sh 94 0 none RR T [] Q:=by
 unfold RR;refine wp_loop bZ ?_;refine .intro (fun m T H=>∃ (s1:Int),T=GI 19 [(0,(p9 s .shared)),(1,(.func r5 [] rp)),(7,(hY (s.length:Int))),(8,(hY s1))]∧H=[]∧MI s f qi m s1=some v) qe ⟨s1,rfl,rfl,h⟩ ?_;clear h bZ;rintro m T H ⟨s1,rfl,rfl,h⟩;cases m
 ·exact q_ h
 rename_i m;rw [MI.eq_2] at h;conv=>whnf
 refine bs h (fun e0 h=>?_) fun e0 h=>?_
 ·rw [e0];conv=>whnf
  refine qw h id fun fs h=>?_;rw [qY p4 2 qy s s1 fs];conv=>whnf
  obtain ⟨r1,qp,h⟩:=qj h;refine ⟨_,_,call6 (bs:=((.agg [(hY (ix s s1).1),(hY (ix s s1).2)])::rp)) (by simp only [sy,sd.iz,sd.cu];rfl) (by simp only [sy,sd.iz];exact (p5 (JD (p5 rfl (p5 rfl rfl))) sd.MS)) (Ig _ _ qp) rfl,?_⟩;conv=>whnf
  cases r1
  ·(conv=>whnf);replace h:=r0 rfl h;exact ⟨m,sv m,(w (s1+(1:Int))),rfl,rfl,h⟩
  ·(conv=>whnf);replace h:=rZ rfl h;exact qc h jG rfl rfl
 ·rw [e0];conv=>whnf
  exact rD  _ h ⟨rfl,rfl⟩
theorem Rj {s:p'} {f:((Int×Int)→Option Bool)} {r5:FuncId} {rp:List I} (sd:GN rp) (Ig:∀ (q1:(Int×Int)) (r:Bool),f q1=some r→qD r5 ((.agg [(hY q1.1),(hY q1.2)])::rp) (B r)) {v:Int} (h:LJ s f=some v):qD 94 [(.ay (s.flatMap p4) s.length .shared),(.func r5 [] rp)] (hY v):=by
 refine qZ dM ah2 rfl rfl fun Q bo=>?_;have jG:qK [.tmp 4] Q (fun v=>(hY v)) v:=fun T H bK=>bo _ T H bK;unfold LJ at h;unfold ac9;obtain ⟨HD,qS⟩:∃ c,RR=c:=⟨_,rfl⟩;rw [qS];conv=>whnf
 subst qS;refine amY sd Ig ?_ ?_ (by exact rfl) h
 ·exact fun T H bK=>jG T H bK
 ·intro  p8 h qf;obtain ⟨qJ,rfl⟩:=qf.ex;conv=>whnf
  exact qc h jG rfl rfl

noncomputable def acW:eE :=
 GD [gV 4 [.iK (.bool false)] .i_] (GD [Gt 5 0,Gt 6 1,gV 7 [.iK (.func 94 [] []),.sl 5,.sl 6] (.call 6),F4 8 7 0 .geq,Gt 4 8] .ret)
theorem ahP:zm Tryz.prog WU 67=some (acW,9,[.tmp 4]):=by kernel_rfl
def NV (s:p') (f:((Int×Int)→Option Bool)):Option Bool :=
 (LJ s f).bind fun r1 =>
 some (decide ((0:Int)≤r1))
theorem abW {s:p'} {f:((Int×Int)→Option Bool)} {r5:FuncId} {rp:List I} (sd:GN rp) (Ig:∀ (q1:(Int×Int)) (r:Bool),f q1=some r→qD r5 ((.agg [(hY q1.1),(hY q1.2)])::rp) (B r)) {v:Bool} (h:NV s f=some v):qD 67 [(.ay (s.flatMap p4) s.length .shared),(.func r5 [] rp)] (B v):=by
 refine qZ dM ahP rfl rfl fun Q bo=>?_;have jG:qK [.tmp 4] Q (fun v=>(B v)) v:=fun T H bK=>bo _ T H bK;unfold NV at h;unfold acW;conv=>whnf
 obtain ⟨r1,e0,h⟩:=qj h;refine ⟨_,_,IS (cs:=[(p9 s .shared),(.func r5 [] rp)]) (bs:=[(p9 s .shared),(.func r5 [] rp)]) (rB rfl (rB (sd.fn _ _) r6)) (by rfl) (by exact (p5 (q7 (fun _=>(p5 rfl (p5 rfl rfl))) _ _ _) (p5 (sd.OQ _) rfl))) (Rj sd Ig e0) rfl,?_⟩;conv=>whnf
 exact qc h jG rfl rfl

noncomputable def NZ:eE :=
 .loop (some (ED false [1,1,5,1,2,1,28,3,40])) (GD [gV 42 [.sl 41,.sl 40] (.bin .lss)] (.seq (.cond (.sl 42) .skip (.exit 1)) (.seq (.block 2 (GD [gV 43 [.sl 39,.sl 41] (.pV 2),gV 44 [.hS 43] (.p2 (.str 2)),gV 12 [] (.alloc [.int .i64 0,.int .i64 0]),⟨none,[.sl 12,.hP 44],none,none,.st 2⟩] (.seq (GD [gV 45 [.sl 12] (.oY 0),Gq 46 45,gV 47 [.sl 10,.hS 46] (.y_ 10 1),Gq 48 47,F4 49 48 0 .gtr] (.cond (.sl 49) (GD [Gr 4 0,Gr 5 0,Gr 6 11] .ret) .skip)) (Gw [F_ 50 12 0,Gq 51 50,gV 52 [.sl 10,.hS 51] (.y_ 10 1),⟨none,[.hP 52,.iK (.int .i64 1)],none,none,.st 1⟩])))) (Gw [F3 53 41 1,Gt 41 53]))))
noncomputable def Rs:eE :=
 .loop (some (ED false [7,1,5,1,1,1,47,3,16])) (GD [gV 66 [.sl 65,.sl 64] (.bin .lss)] (.seq (.cond (.sl 66) .skip (.exit 3)) (.seq (.block 4 (GD [gV 67 [.sl 63,.sl 65] (.pV 2),gV 68 [.hS 67] (.p2 (.str 2)),gV 17 [] (.alloc [.int .i64 0,.int .i64 0]),⟨none,[.sl 17,.hP 68],none,none,.st 2⟩] (GD [Gs 70 7,gV 71 [.hS 17] (.p2 (.str 2)),gV 72 [.iK (.func 68 [] []),.sl 70,.sl 71] (.call 3),Gt 69 72,GL 73 69 0,gV 74 [.hS 69] (.ext 1),Gt 18 73,Gt 19 74] (.seq (GD [Gt 75 18,Gt 76 15,F5 77 75 76 .neq] (.cond (.sl 77) (GD [Gr 4 0,Gr 5 0,Gr 6 27] .ret) .skip)) (Gw [Gt 78 19,Gt 15 78]))))) (Gw [F3 79 65 1,Gt 65 79]))))
noncomputable def acx:eE :=
 GD [gV 2 [.hP 0] .box, Gr 4 0, Gr 5 0, Gr 6 0] (GD [gV 21 [.sl 2] (.p2 (.str 2)), gV 22 [.iK (.func 64 [] []), .sl 21] (.call 3), Gt 20 22, GL 23 20 0, gV 24 [.hS 20] (.ext 1), Gt 7 23, Gt 8 24] (GD [gV 25 [.hS 2] (.zC 65 0 1), Gt 9 25] (.seq (.block 0 (GD [Gs 27 8, F4 28 27 0 .neq, Gt 26 28] (.cond (.sl 26) (GD [Gt 29 8, Gr 4 0, Gr 5 0, Gt 6 29] .ret) (GD [Gs 31 1, Gp 32 31, F4 33 32 0 .eql, Gt 30 33] (.cond (.sl 30) (GD [Gr 4 0, Gr 5 0, Gr 6 6] .ret) (GD [Gs 35 1, Gt 36 9, gV 37 [.iK (.func 67 [] []), .sl 35, .sl 36] (.call 6), Gt 34 37] (.cond (.sl 34) (GD [Gr 4 0, Gr 5 0, Gr 6 3] .ret) .skip))))))) (GD [gV 10 [] (.alloc [.int .i64 0, .int .i64 0, .int .i64 0, .int .i64 0, .int .i64 0, .int .i64 0, .int .i64 0, .int .i64 0, .int .i64 0, .int .i64 0])] (GD [gV 38 [.sl 10] (.other (Oper.mk (some 38) (Op.slice 89 (Operand.tmp 10) none none none) 38 "match.go:50" (Array.mk []) none) 0), ⟨none, [.hP 38], none, none, .other (Oper.mk none (Op.call (Call.mk (Callee.builtin Builtin.clear) (Array.mk [Operand.tmp 38]) (Array.mk [38]))) 0 "match.go:50" (Array.mk [Edge.mk 0 Ground.data]) none) 0⟩] (.seq (GD [Gs 39 1, gV 40 [.sl 39] .xe, Gr 41 0] (.block 1 NZ)) (GD [Gs 55 7, Gs 56 1, gV 57 [.hS 56, .iK (.int .i64 0)] (.pV 2), gV 58 [.hS 57] (.p2 (.str 2)), gV 59 [.iK (.func 68 [] []), .sl 55, .sl 58] (.call 3), Gt 54 59, GL 60 54 0, gV 61 [.hS 54] (.ext 1), Gt 13 60, Gt 14 61] (GD [Gs 62 13, Gt 15 62] (.seq (GD [Gt 63 1, gV 64 [.sl 63] .xe, Gr 65 0] (.block 3 Rs)) (GD [Gt 80 13, Gt 81 15, Gt 4 80, Gt 5 81, Gr 6 0] .ret))))))))))
theorem ahq:zm Tryz.prog N6 18=some (acx,82,[.tmp 4,.tmp 5,.tmp 6]):=by kernel_rfl
def Pg (row:p') (qi:Unit→Option (Int×Int×Int)):Nat→Int→ql→Option (Int×Int×Int)
 | 0,_,_=>none
 | m+1,s1,s2 =>
   if (decide (s1<(row.length:Int)))=true then
    qh (0≤s1∧s1<(row.length:Int)) <|
    qh (0≤(ix row s1).1∧(ix row s1).1<(10:Int)∧10=s2.length) <|
    if (decide ((0:Int)<(ix s2 ((ix row s1).1))))=true then
     some ((0:Int),(0:Int),(11:Int))
    else
     qh (0≤(ix row s1).1∧(ix row s1).1<(10:Int)∧10=s2.length) <|
     Pg row qi m (w (s1+(1:Int))) (s2.set ((ix row s1).1).toNat (1:Int))
   else
    qi ()
def Ml (row:p') (qT:Unit→Option (Int×Int×Int)):Nat→Int→ql→Option (Int×Int×Int)
 | 0,_,_=>none
 | m+1,dj,GC =>
   if (decide (dj<(row.length:Int)))=true then
    qh (0≤dj∧dj<(row.length:Int)) <|
    qh (0≤(ix row dj).1∧(ix row dj).1<(10:Int)∧10=GC.length) <|
    if (decide ((0:Int)<(ix GC ((ix row dj).1))))=true then
     some ((0:Int),(0:Int),(11:Int))
    else
     qh (0≤(ix row dj).1∧(ix row dj).1<(10:Int)∧10=GC.length) <|
     Ml row qT m (w (dj+(1:Int))) (GC.set ((ix row dj).1).toNat (1:Int))
   else
    qT ()
def Mm (row:p') (bT:qk) (ru:Int→Option (Int×Int×Int)):Nat→Int→Int→Option (Int×Int×Int)
 | 0,_,_=>none
 | m+1,qn,qa =>
   if (decide (qa<(row.length:Int)))=true then
    qh (0≤qa∧qa<(row.length:Int)) <|
    (LD bT (ix row qa)).bind fun qE =>
    if (decide (qE.1≠qn))=true then
     some ((0:Int),(0:Int),(27:Int))
    else
     Mm row bT ru m qE.2 (w (qa+(1:Int)))
   else
    ru qn
def Mk (b:qk) (row:p'):Option (Int×Int×Int) :=
 (Jo b).bind fun r1 =>
 match r1 with
 | (none,aV) =>
   if (decide (aV≠(0:Int)))=true then
    some ((0:Int),(0:Int),aV)
   else
    if (decide ((row.length:Int)=(0:Int)))=true then
     some ((0:Int),(0:Int),(6:Int))
    else
     (NV row (fun q1=>NU q1 b)).bind fun r2 =>
     if r2=true then
      some ((0:Int),(0:Int),(3:Int))
     else
      qh ((List.replicate 10 (0:Int)).length=10) <|
      Pg row (fun _ =>
        qh (0≤(0:Int)∧(0:Int)<(row.length:Int)) <|
        none) qe (0:Int) (List.replicate 10 (0:Int))
 | (some bT,aV) =>
   if (decide (aV≠(0:Int)))=true then
    some ((0:Int),(0:Int),aV)
   else
    if (decide ((row.length:Int)=(0:Int)))=true then
     some ((0:Int),(0:Int),(6:Int))
    else
     (NV row (fun q1=>NU q1 b)).bind fun eJ =>
     if eJ=true then
      some ((0:Int),(0:Int),(3:Int))
     else
      qh ((List.replicate 10 (0:Int)).length=10) <|
      Ml row (fun _ =>
        qh (0≤(0:Int)∧(0:Int)<(row.length:Int)) <|
        (LD bT (ix row (0:Int))).bind fun qA =>
        Mm row bT (fun x6 =>
          some (qA.1,x6,(0:Int))) qe qA.1 (0:Int)) qe (0:Int) (List.replicate 10 (0:Int))
theorem alP {row:p'} {qi:Unit→Option (Int×Int×Int)} {s1:Int} {s2:ql} {v:(Int×Int×Int)} {Q:q8} {bD:au}  (jG:qK [.tmp 4,.tmp 5,.tmp 6] Q (fun v=>(.tuple [(hY v.1),(hY v.2.1),(hY v.2.2)])) v) (rD:∀ (bS:au) (qu:List au) (p8:List I),qi ()=some v→qO 82 [(1,(p9 row .shared)),(7,.eH)] p8→Q (.exit 1) p8 (bD::bS::qu)) {T:List I} (bZ:eX (ED false [1,1,5,1,2,1,28,3,40]) T=GI 82 [(1,(p9 row .shared)),(7,.eH),(10,(.ptr 1 0)),(39,(p9 row .shared)),(40,(hY (row.length:Int))),(41,(hY s1))]) (h:Pg row qi qe s1 s2=some v) :
  dG Tryz.prog N6 18 0 none NZ T [bD,au.cells (s2.map hY)] Q:=by
 unfold NZ;refine wp_loop bZ ?_;refine .intro (fun m T H=>∃ (s1:Int) (s2:ql) (N4:List au),T=GI 82 [(1,(p9 row .shared)),(7,.eH),(10,(.ptr 1 0)),(39,(p9 row .shared)),(40,(hY (row.length:Int))),(41,(hY s1))]∧H=(bD::au.cells (s2.map hY)::N4)∧Pg row qi m s1 s2=some v) qe ⟨s1,s2,[],rfl,rfl,h⟩ ?_;clear h bZ;rintro m T H ⟨s1,s2,N4,rfl,rfl,h⟩;cases m
 ·exact q_ h
 rename_i m;rw [Pg.eq_2] at h;conv=>whnf
 refine bs h (fun qW h=>?_) fun qW h=>?_
 ·rw [qW];conv=>whnf
  refine qw h id fun qU h=>?_;rw [qY p4 2 qy row s1 qU];conv=>whnf
  refine D1 (x:=au.cells [(hY (0:Int)),(hY (0:Int))]) (by first | exact qz.h | rfl | (simp [su,I.settle];done)) ?_
  conv=>whnf
  rw [rE];refine D1 (x:=au.cells [(hY (ix row s1).1),(hY (ix row s1).2)]) (by first | exact qz.h | rfl | (simp [su,I.settle];done)) ?_
  conv=>whnf
  obtain ⟨qX,h⟩:=qF h;refine ⟨⟨qX.1,qX.2.1⟩,?_⟩;replace qX:0≤(ix row s1).1∧(ix row s1).1<(s2.length:Int):=⟨qX.1,by have:=qX.2;omega⟩;conv=>whnf
  refine O8 hY s2 ((ix row s1).1) qX ?_;conv=>whnf
  refine bs h (fun ra h=>?_) fun ra h=>?_
  ·rw [ra];(conv=>whnf);exact qc h jG rfl rfl
  ·rw [ra];(conv=>whnf);refine D1 (x:=au.cells [(hY (ix row s1).1),(hY (ix row s1).2)]) (by first | exact qz.h | rfl | (simp [su,I.settle];done)) ?_
   (conv=>whnf);obtain ⟨qL,h⟩:=qF h;refine ⟨⟨qL.1,qL.2.1⟩,?_⟩;replace qL:0≤(ix row s1).1∧(ix row s1).1<(s2.length:Int):=⟨qL.1,by have:=qL.2;omega⟩;(conv=>whnf);refine Pa hY s2 ((ix row s1).1) (1:Int) qL ?_;(conv=>whnf);exact ⟨m,sv m,(w (s1+(1:Int))),(s2.set ((ix row s1).1).toNat (1:Int)),_,rfl,rfl,h⟩
 ·rw [qW];conv=>whnf
  exact rD _ _ _ h ⟨rfl,rfl⟩
theorem alQ {row:p'} {qT:Unit→Option (Int×Int×Int)} {dj:Int} {GC:ql} {bT:qk} {v:(Int×Int×Int)} {Q:q8} {bD:au}  (jG:qK [.tmp 4,.tmp 5,.tmp 6] Q (fun v=>(.tuple [(hY v.1),(hY v.2.1),(hY v.2.2)])) v) (HX:∀ (ik:au) (qu:List au) (p8:List I),qT ()=some v→qO 82 [(1,(p9 row .shared)),(7,(.bW [(hY bT.1),(p9 bT.2 .shared)]))] p8→Q (.exit 1) p8 (bD::ik::qu)) {T:List I} (bZ:eX (ED false [1,1,5,1,2,1,28,3,40]) T=GI 82 [(1,(p9 row .shared)),(7,(.bW [(hY bT.1),(p9 bT.2 .shared)])),(10,(.ptr 1 0)),(39,(p9 row .shared)),(40,(hY (row.length:Int))),(41,(hY dj))]) (h:Ml row qT qe dj GC=some v) :
  dG Tryz.prog N6 18 0 none NZ T [bD,au.cells (GC.map hY)] Q:=by
 unfold NZ;refine wp_loop bZ ?_;refine .intro (fun m T H=>∃ (dj:Int) (GC:ql) (N4:List au),T=GI 82 [(1,(p9 row .shared)),(7,(.bW [(hY bT.1),(p9 bT.2 .shared)])),(10,(.ptr 1 0)),(39,(p9 row .shared)),(40,(hY (row.length:Int))),(41,(hY dj))]∧H=(bD::au.cells (GC.map hY)::N4)∧Ml row qT m dj GC=some v) qe ⟨dj,GC,[],rfl,rfl,h⟩ ?_;clear h bZ;rintro m T H ⟨dj,GC,N4,rfl,rfl,h⟩;cases m
 ·exact q_ h
 rename_i m;rw [Ml.eq_2] at h;conv=>whnf
 refine bs h (fun sa h=>?_) fun sa h=>?_
 ·rw [sa];conv=>whnf
  refine qw h id fun G_ h=>?_;rw [qY p4 2 qy row dj G_];conv=>whnf
  refine D1 (x:=au.cells [(hY (0:Int)),(hY (0:Int))]) (by first | exact qz.h | rfl | (simp [su,I.settle];done)) ?_
  conv=>whnf
  rw [rE];refine D1 (x:=au.cells [(hY (ix row dj).1),(hY (ix row dj).2)]) (by first | exact qz.h | rfl | (simp [su,I.settle];done)) ?_
  conv=>whnf
  obtain ⟨rT,h⟩:=qF h;refine ⟨⟨rT.1,rT.2.1⟩,?_⟩;replace rT:0≤(ix row dj).1∧(ix row dj).1<(GC.length:Int):=⟨rT.1,by have:=rT.2;omega⟩;conv=>whnf
  refine O8 hY GC ((ix row dj).1) rT ?_;conv=>whnf
  refine bs h (fun Hn h=>?_) fun Hn h=>?_
  ·rw [Hn];(conv=>whnf);exact qc h jG rfl rfl
  ·rw [Hn];(conv=>whnf);refine D1 (x:=au.cells [(hY (ix row dj).1),(hY (ix row dj).2)]) (by first | exact qz.h | rfl | (simp [su,I.settle];done)) ?_
   (conv=>whnf);obtain ⟨rX,h⟩:=qF h;refine ⟨⟨rX.1,rX.2.1⟩,?_⟩;replace rX:0≤(ix row dj).1∧(ix row dj).1<(GC.length:Int):=⟨rX.1,by have:=rX.2;omega⟩;(conv=>whnf);refine Pa hY GC ((ix row dj).1) (1:Int) rX ?_;(conv=>whnf);exact ⟨m,sv m,(w (dj+(1:Int))),(GC.set ((ix row dj).1).toNat (1:Int)),_,rfl,rfl,h⟩
 ·rw [sa];conv=>whnf
  exact HX _ _ _ h ⟨rfl,rfl⟩
theorem alR {row:p'} {bT:qk} {ru:Int→Option (Int×Int×Int)} {qn:Int} {qa:Int} {qA:(Int×Int)} {v:(Int×Int×Int)} {Q:q8} {bD:au} {ik:au} {qu:List au} (jG:qK [.tmp 4,.tmp 5,.tmp 6] Q (fun v=>(.tuple [(hY v.1),(hY v.2.1),(hY v.2.2)])) v) (IG:∀ (x6:Int) (qu:List au) (p8:List I),ru x6=some v→qO 82 [(13,(hY qA.1)),(15,(hY x6))] p8→Q (.exit 3) p8 (bD::ik::qu)) {T:List I} (bZ:eX (ED false [7,1,5,1,1,1,47,3,16]) T=GI 82 [(7,(.bW [(hY bT.1),(p9 bT.2 .shared)])),(13,(hY qA.1)),(15,(hY qn)),(63,(p9 row .shared)),(64,(hY (row.length:Int))),(65,(hY qa))]) (h:Mm row bT ru qe qn qa=some v) :
  dG Tryz.prog N6 18 0 none Rs T (bD::ik::qu) Q:=by
 unfold Rs;refine wp_loop bZ ?_;refine .intro (fun m T H=>∃ (qn qa:Int) (Wd:List au),T=GI 82 [(7,(.bW [(hY bT.1),(p9 bT.2 .shared)])),(13,(hY qA.1)),(15,(hY qn)),(63,(p9 row .shared)),(64,(hY (row.length:Int))),(65,(hY qa))]∧H=(bD::ik::Wd)∧Mm row bT ru m qn qa=some v) qe ⟨qn,qa,qu,rfl,rfl,h⟩ ?_;clear h bZ;rintro m T H ⟨qn,qa,Wd,rfl,rfl,h⟩;cases m
 ·exact q_ h
 rename_i m;rw [Mm.eq_2] at h;conv=>whnf
 refine bs h (fun HV h=>?_) fun HV h=>?_
 ·rw [HV];conv=>whnf
  refine qw h id fun HW h=>?_;rw [qY p4 2 qy row qa HW];conv=>whnf
  refine D1 (x:=au.cells [(hY (0:Int)),(hY (0:Int))]) (by first | exact qz.h | rfl | (simp [su,I.settle];done)) ?_
  conv=>whnf
  rw [rE];refine D1 (x:=au.cells [(hY (ix row qa).1),(hY (ix row qa).2)]) (by first | exact qz.h | rfl | (simp [su,I.settle];done)) ?_
  conv=>whnf
  obtain ⟨qE,Is,h⟩:=qj h;refine ⟨qt.pl,_,Kw Is,?_⟩;conv=>whnf
  refine bs h (fun HO h=>?_) fun HO h=>?_
  ·rw [HO];(conv=>whnf);exact qc h jG rfl rfl
  ·rw [HO];(conv=>whnf);exact ⟨m,sv m,qE.2,(w (qa+(1:Int))),_,rfl,rfl,h⟩
 ·rw [HV];conv=>whnf
  exact IG _ _ _ h ⟨rfl,rfl⟩
theorem VH {b:qk} {row:p'} {v:(Int×Int×Int)} (h:Mk b row=some v):qD 18 [(.agg [(hY b.1),(.ay (b.2.flatMap p4) b.2.length .shared)]),(.ay (row.flatMap p4) row.length .shared)] (.tuple [(hY v.1),(hY v.2.1),(hY v.2.2)]):=by
 refine qZ dM ahq rfl (IX (p5 rfl (p5 rfl (p5 rfl rfl)))) fun Q bo=>?_;have jG:qK [.tmp 4,.tmp 5,.tmp 6] Q (fun v=>(.tuple [(hY v.1),(hY v.2.1),(hY v.2.2)])) v:=fun T H bK=>bo _ T H bK;unfold Mk at h;unfold acx;obtain ⟨HD,qS⟩:∃ c,NZ=c:=⟨_,rfl⟩;rw [qS];obtain ⟨Lc,sk⟩:∃ c,Rs=c:=⟨_,rfl⟩;rw [sk];conv=>whnf
 obtain ⟨r1,e0,h⟩:=qj h;rcases r1 with ⟨_ | bT,aV⟩
 ·refine ⟨qt.pl,_,JG e0,?_⟩;conv=>whnf
  refine bs h (fun fs h=>?_) fun fs h=>?_
  ·rw [fs];(conv=>whnf);exact qc h jG rfl rfl
  ·rw [fs];(conv=>whnf);refine bs h (fun qp h=>?_) fun qp h=>?_
   ·rw [qp];(conv=>whnf);exact qc h jG rfl rfl
   ·rw [qp];(conv=>whnf);obtain ⟨r2,qC,h⟩:=qj h;refine ⟨_,_,IS (cs:=[(p9 row .shared),(.func 65 [] [(.bW [(hY b.1),(p9 b.2 .shared)])])]) (bs:=[(p9 row .shared),(.func 65 [] [(.bW [(hY b.1),(p9 b.2 .shared)])])]) (rB rfl (rB (Kt r6 (rB (I3 (cs:=[(hY b.1),(p9 b.2 .shared)]) (by first | exact qz.h | rfl | (simp [su,I.settle];done)) rfl) r6)) r6)) (by rfl) (by exact (p5 (q7 (fun _=>(p5 rfl (p5 rfl rfl))) _ _ _) (p5 (JT rfl (p5 (rj (p5 rfl (p5 (q7 (fun _=>(p5 rfl (p5 rfl rfl))) _ _ _) rfl))) rfl)) rfl))) (abW ⟨(p5 (rj (p5 rfl (p5 (q7 (fun _=>(p5 rfl (p5 rfl rfl))) _ _ _) rfl))) rfl),by simp⟩ (fun _ _ a2=>abV a2) qC) rfl,?_⟩
    (conv=>whnf);cases r2
    ·(conv=>whnf);replace h:=r0 rfl h;refine ⟨_,_,fun C=>Y0 rfl (e:=3) (len:=10) (by kernel_rfl) (by kernel_rfl) (by decide),?_⟩;(conv=>whnf);obtain ⟨qH,h⟩:=qF h;refine ⟨_,_,fun C=>(ON rfl).trans (Xj (e:=3) (l:=(List.replicate 10 (0:Int))) (by kernel_rfl) (by kernel_rfl) (by kernel_rfl) (sK _) (by first | exact qz.h | rfl | (simp [su,I.settle];done)) qH),?_⟩
     (conv=>whnf);subst qS;refine alP ?_ ?_ (by exact rfl) h
     ·exact fun T H bK=>jG T H bK
     ·intro bS qu p8 h qf;obtain ⟨qJ,rfl⟩:=qf.ex;(conv=>whnf);refine qw h id fun q9 h=>?_;rw [qY p4 2 qy row (0:Int) q9];(conv=>whnf);exact q_ h
    ·(conv=>whnf);replace h:=rZ rfl h;exact qc h jG rfl rfl
 ·refine ⟨qt.pl,_,JG e0,?_⟩;conv=>whnf
  refine bs h (fun rn h=>?_) fun rn h=>?_
  ·rw [rn];(conv=>whnf);exact qc h jG rfl rfl
  ·rw [rn];(conv=>whnf);refine bs h (fun rb h=>?_) fun rb h=>?_
   ·rw [rb];(conv=>whnf);exact qc h jG rfl rfl
   ·rw [rb];(conv=>whnf);obtain ⟨eJ,rY,h⟩:=qj h;refine ⟨_,_,IS (cs:=[(p9 row .shared),(.func 65 [] [(.bW [(hY b.1),(p9 b.2 .shared)])])]) (bs:=[(p9 row .shared),(.func 65 [] [(.bW [(hY b.1),(p9 b.2 .shared)])])]) (rB rfl (rB (Kt r6 (rB (I3 (cs:=[(hY b.1),(p9 b.2 .shared)]) (by first | exact qz.h | rfl | (simp [su,I.settle];done)) rfl) r6)) r6)) (by rfl) (by exact (p5 (q7 (fun _=>(p5 rfl (p5 rfl rfl))) _ _ _) (p5 (JT rfl (p5 (rj (p5 rfl (p5 (q7 (fun _=>(p5 rfl (p5 rfl rfl))) _ _ _) rfl))) rfl)) rfl))) (abW ⟨(p5 (rj (p5 rfl (p5 (q7 (fun _=>(p5 rfl (p5 rfl rfl))) _ _ _) rfl))) rfl),by simp⟩ (fun _ _ a2=>abV a2) rY) rfl,?_⟩
    (conv=>whnf);cases eJ
    ·(conv=>whnf);replace h:=r0 rfl h;refine ⟨_,_,fun C=>Y0 rfl (e:=3) (len:=10) (by kernel_rfl) (by kernel_rfl) (by decide),?_⟩;(conv=>whnf);obtain ⟨GY,h⟩:=qF h;refine ⟨_,_,fun C=>(ON rfl).trans (Xj (e:=3) (l:=(List.replicate 10 (0:Int))) (by kernel_rfl) (by kernel_rfl) (by kernel_rfl) (sK _) (by first | exact qz.h | rfl | (simp [su,I.settle];done)) GY),?_⟩
     (conv=>whnf);subst qS;refine alQ ?_ ?_ (by exact rfl) h
     ·exact fun T H bK=>jG T H bK
     ·intro ik qu p8 h qf;obtain ⟨qJ,rfl⟩:=qf.ex;(conv=>whnf);refine qw h id fun Hd h=>?_;rw [qY p4 2 qy row (0:Int) Hd];(conv=>whnf);obtain ⟨qA,sf,h⟩:=qj h;refine ⟨qt.pl,_,Kw sf,?_⟩;(conv=>whnf);subst sk;refine alR ?_ ?_ (by exact rfl) h
      ·exact fun T H bK=>jG T H bK
      ·intro x6 qu p8 h qf;obtain ⟨qJ,rfl⟩:=qf.ex;(conv=>whnf);exact qc h jG rfl rfl
    ·(conv=>whnf);replace h:=rZ rfl h;exact qc h jG rfl rfl

noncomputable def Rw:eE :=
 .loop (some (ED false [1,1,1,1,49])) (.seq (GD [Gs 19 3,gV 20 [.sl 1] (.oY 1),Gq 21 20,Gp 22 21,F5 23 19 22 .lss] (.cond (.sl 23) .skip (.exit 0))) (.seq (.block 1 (GD [gV 26 [.sl 1] (.oY 1),Gq 27 26,Gs 28 3,Gl 29 27 28 2,gV 30 [.hS 29] (.p2 (.str 2)),gV 4 [] (.alloc [.int .i64 0,.int .i64 0]),⟨none,[.sl 4,.hP 30],none,none,.st 2⟩] (GD [gV 31 [.sl 4] (.oY 0),Gq 32 31,F4 33 32 0 .lss,Gt 34 33,cS 35 [.sl 4] 34 false (.oY 0),cS 36 [.hS 35] 34 false (.p2 .one),cS 37 [.sl 1] 34 false (.oY 0),cS 38 [.hS 37] 34 false (.p2 .one),cS 39 [.hS 36,.hS 38] 34 false (.bin .geq),gV 40 [.hS 34,.iK (.bool true),.hS 39] .pick,Gt 41 40,cS 42 [.sl 4] 41 false (.oY 1),cS 43 [.hS 42] 41 false (.p2 .one),cS 44 [.hS 43,.iK (.int .i64 0)] 41 false (.bin .lss),gV 45 [.hS 41,.iK (.bool true),.hS 44] .pick,Gt 46 45,cS 47 [.hS 4] 46 false (.oY 1),cS 48 [.hS 47] 46 false (.p2 .one),cS 49 [.sl 1] 46 false (.oY 0),cS 50 [.hS 49] 46 false (.p2 .one),cS 51 [.hS 48,.hS 50] 46 false (.bin .geq),gV 52 [.hS 46,.iK (.bool true),.hS 51] .pick] (.cond (.sl 52) (GD [Gr 2 3] .ret) .skip)))) (Gw [Gt 24 3,F3 25 24 1,Gt 3 25])))
noncomputable def acA:eE :=
 GD [gV 1 [.hP 0] .box,Gr 2 0] (.seq (GD [gV 5 [.sl 1] (.oY 0),Gq 6 5,F4 7 6 1 .lss,Gt 8 7,cS 9 [.sl 1] 8 false (.oY 0),cS 10 [.hS 9] 8 false (.p2 .one),cS 11 [.hS 10,.iK (.int .i64 6)] 8 false (.bin .gtr),gV 12 [.hS 8,.iK (.bool true),.hS 11] .pick,Gt 13 12,cS 14 [.sl 1] 13 false (.oY 1),cS 15 [.hS 14] 13 false (.p2 .one),cS 16 [.hP 15] 13 false .xe,cS 17 [.hS 16,.iK (.int .i64 10)] 13 false (.bin .gtr),gV 18 [.hS 13,.iK (.bool true),.hS 17] .pick] (.cond (.sl 18) (GD [Gr 2 6] .ret) .skip)) (.seq (GD [Gr 3 0] (.block 0 Rw)) (GD [Gr 2 0] .ret)))
theorem aht:zm Tryz.prog R_ 21=some (acA,53,[.tmp 2]):=by kernel_rfl
def Mr (b:qk) (qi:Unit→Option Int):Nat→Int→Option Int
 | 0,_=>none
 | m+1,s1 =>
   if (decide (s1<(b.2.length:Int)))=true then
    qh (0≤s1∧s1<(b.2.length:Int)) <|
    if (decide ((ix b.2 s1).1<(0:Int)))=true then
     some (3:Int)
    else
     if (decide (b.1≤(ix b.2 s1).1))=true then
      some (3:Int)
     else
      if (decide ((ix b.2 s1).2<(0:Int)))=true then
       some (3:Int)
      else
       if (decide (b.1≤(ix b.2 s1).2))=true then
        some (3:Int)
       else
        Mr b qi m (w (s1+(1:Int)))
   else
    qi ()
def Ku (b:qk):Option Int :=
 if (decide (b.1<(1:Int)))=true then
  some (6:Int)
 else
  if (decide ((6:Int)<b.1))=true then
   some (6:Int)
  else
   if (decide ((10:Int)<(b.2.length:Int)))=true then
    some (6:Int)
   else
    Mr b (fun _ =>
      some (0:Int)) qe (0:Int)
theorem alV {b:qk} {qi:Unit→Option Int} {s1:Int} {v:Int} {Q:q8}   (jG:qK [.tmp 2] Q (fun v=>(hY v)) v) (rD:∀ (bD:au) (qu:List au) (p8:List I),qi ()=some v→qO 53 [] p8→Q (.exit 0) p8 (bD::qu)) {T:List I} (bZ:eX (ED false [1,1,1,1,49]) T=GI 53 [(1,(.ptr 0 0)),(3,(hY s1))]) (h:Mr b qi qe s1=some v) :
  dG Tryz.prog R_ 21 0 none Rw T [qI b] Q:=by
 unfold Rw;refine wp_loop bZ ?_;refine .intro (fun m T H=>∃ (s1:Int) (We:List au),T=GI 53 [(1,(.ptr 0 0)),(3,(hY s1))]∧H=(qI b::We)∧Mr b qi m s1=some v) qe ⟨s1,[],rfl,rfl,h⟩ ?_;clear h bZ;rintro m T H ⟨s1,We,rfl,rfl,h⟩;cases m
 ·exact q_ h
 rename_i m;rw [Mr.eq_2] at h;conv=>whnf
 refine bs h (fun qC h=>?_) fun qC h=>?_
 ·rw [qC];conv=>whnf
  refine qw h id fun qH h=>?_;rw [qY p4 2 qy b.2 s1 qH];conv=>whnf
  refine D1 (x:=au.cells [(hY (0:Int)),(hY (0:Int))]) (by first | exact qz.h | rfl | (simp [su,I.settle];done)) ?_
  conv=>whnf
  rw [rE];refine D1 (x:=au.cells [(hY (ix b.2 s1).1),(hY (ix b.2 s1).2)]) (by first | exact qz.h | rfl | (simp [su,I.settle];done)) ?_
  conv=>whnf
  refine bs h (fun qW h=>?_) fun qW h=>?_
  ·rw [qW];(conv=>whnf);exact qc h jG rfl rfl
  ·rw [qW];(conv=>whnf);refine D1 (x:=au.cells [(hY (ix b.2 s1).1),(hY (ix b.2 s1).2)]) (by first | exact qz.h | rfl | (simp [su,I.settle];done)) ?_
   (conv=>whnf);refine bs h (fun qU h=>?_) fun qU h=>?_
   ·rw [qU];(conv=>whnf);exact qc h jG rfl rfl
   ·rw [qU];(conv=>whnf);refine D1 (x:=au.cells [(hY (ix b.2 s1).1),(hY (ix b.2 s1).2)]) (by first | exact qz.h | rfl | (simp [su,I.settle];done)) ?_
    (conv=>whnf);refine bs h (fun qX h=>?_) fun qX h=>?_
    ·rw [qX];(conv=>whnf);exact qc h jG rfl rfl
    ·rw [qX];(conv=>whnf);refine D1 (x:=au.cells [(hY (ix b.2 s1).1),(hY (ix b.2 s1).2)]) (by first | exact qz.h | rfl | (simp [su,I.settle];done)) ?_
     (conv=>whnf);refine bs h (fun ra h=>?_) fun ra h=>?_
     ·rw [ra];(conv=>whnf);exact qc h jG rfl rfl
     ·rw [ra];(conv=>whnf);exact ⟨m,sv m,(w (s1+(1:Int))),_,rfl,rfl,h⟩
 ·rw [qC];conv=>whnf
  exact rD _ _ _ h ⟨rfl,rfl⟩
theorem Ph {b:qk} {v:Int} (h:Ku b=some v):qD 21 [(.agg [(hY b.1),(.ay (b.2.flatMap p4) b.2.length .shared)])] (hY v):=by
 refine qZ dM aht rfl rfl fun Q bo=>?_;have jG:qK [.tmp 2] Q (fun v=>(hY v)) v:=fun T H bK=>bo _ T H bK;unfold Ku at h;unfold acA;obtain ⟨HD,qS⟩:∃ c,Rw=c:=⟨_,rfl⟩;rw [qS];conv=>whnf
 refine bs h (fun e0 h=>?_) fun e0 h=>?_
 ·rw [e0];conv=>whnf
  exact qc h jG rfl rfl
 ·rw [e0];conv=>whnf
  refine bs h (fun fs h=>?_) fun fs h=>?_
  ·rw [fs];(conv=>whnf);exact qc h jG rfl rfl
  ·rw [fs];(conv=>whnf);refine bs h (fun qp h=>?_) fun qp h=>?_
   ·rw [qp];(conv=>whnf);exact qc h jG rfl rfl
   ·rw [qp];(conv=>whnf);subst qS;refine alV ?_ ?_ (by exact rfl) h
    ·exact fun T H bK=>jG T H bK
    ·intro bD qu p8 h qf;obtain ⟨qJ,rfl⟩:=qf.ex;(conv=>whnf);exact qc h jG rfl rfl

noncomputable def acS:eE :=
 GD [gV 2 [.hP 0] .box,gV 3 [.hP 1] .box,Gr 4 0] (.seq (GD [gV 5 [.sl 3] (.oY 1),Gq 6 5,F4 7 6 1 .eql] (.cond (.sl 7) (GD [F_ 8 2 1,Gq 9 8,F_ 10 3 0,Gq 11 10,Gl 12 9 11 2,F_ 13 12 1,Gq 14 13,Gt 4 14] .ret) .skip)) (GD [F_ 15 2 1,Gq 16 15,F_ 17 3 0,Gq 18 17,Gl 19 16 18 2,F_ 20 19 0,Gq 21 20,Gt 4 21] .ret))
theorem ahL:zm Tryz.prog WQ 57=some (acS,22,[.tmp 4]):=by kernel_rfl
def MA (b:qk) (p:(Int×Int)):Option Int :=
 if (decide (p.2=(1:Int)))=true then
  qh (0≤p.1∧p.1<(b.2.length:Int)) <|
  some ((ix b.2 p.1).2)
 else
  qh (0≤p.1∧p.1<(b.2.length:Int)) <|
  some ((ix b.2 p.1).1)
theorem Kv {b:qk} {p:(Int×Int)} {v:Int} (h:MA b p=some v):qD 57 [(.agg [(hY b.1),(.ay (b.2.flatMap p4) b.2.length .shared)]),(.agg [(hY p.1),(hY p.2)])] (hY v):=by
 refine qZ dM ahL rfl rfl fun Q bo=>?_;have jG:qK [.tmp 4] Q (fun v=>(hY v)) v:=fun T H bK=>bo _ T H bK;unfold MA at h;unfold acS;conv=>whnf
 refine bs h (fun e0 h=>?_) fun e0 h=>?_
 ·rw [e0];conv=>whnf
  refine qw h id fun fs h=>?_;rw [qY p4 2 qy b.2 p.1 fs];conv=>whnf
  exact qc h jG rfl rfl
 ·rw [e0];conv=>whnf
  refine qw h id fun qp h=>?_;rw [qY p4 2 qy b.2 p.1 qp];conv=>whnf
  exact qc h jG rfl rfl

noncomputable def RG:eE :=
 .loop (some (ED false [0,2,3,1,13])) (.seq (GD [Gs 6 5,Gs 7 0,Gp 8 7,F5 9 6 8 .lss] (.cond (.sl 9) .skip (.exit 0))) (.seq (.block 1 (GD [Gs 12 0,Gs 13 5,Gl 14 12 13 2,F_ 15 14 0,Gq 16 15,Gs 17 1,F5 18 16 17 .eql] (.cond (.sl 18) (GD [gV 4 [.iK (.bool true)] .i_] .ret) .skip))) (Gw [Gt 10 5,F3 11 10 1,Gt 5 11])))
noncomputable def acY:eE :=
 GD [gV 4 [.iK (.bool false)] .i_] (.seq (GD [Gr 5 0] (.block 0 RG)) (GD [gV 4 [.iK (.bool false)] .i_] .ret))
theorem ahR:zm Tryz.prog Sc 69=some (acY,19,[.tmp 4]):=by kernel_rfl
def MC (row:p') (I2:Int) (qi:Unit→Option Bool):Nat→Int→Option Bool
 | 0,_=>none
 | m+1,s1 =>
   if (decide (s1<(row.length:Int)))=true then
    qh (0≤s1∧s1<(row.length:Int)) <|
    if (decide ((ix row s1).1=I2))=true then
     some true
    else
     MC row I2 qi m (w (s1+(1:Int)))
   else
    qi ()
def MB (row:p') (I2:Int):Option Bool :=
 MC row I2 (fun _ =>
   some false) qe (0:Int)
theorem amA {row:p'} {I2:Int} {qi:Unit→Option Bool} {s1:Int} {v:Bool} {Q:q8}   (jG:qK [.tmp 4] Q (fun v=>(B v)) v) (rD:∀ (p8:List I),qi ()=some v→qO 19 [] p8→Q (.exit 0) p8 []) {T:List I} (bZ:eX (ED false [0,2,3,1,13]) T=GI 19 [(0,(p9 row .shared)),(1,(hY I2)),(5,(hY s1))]) (h:MC row I2 qi qe s1=some v) :
  dG Tryz.prog Sc 69 0 none RG T [] Q:=by
 unfold RG;refine wp_loop bZ ?_;refine .intro (fun m T H=>∃ (s1:Int),T=GI 19 [(0,(p9 row .shared)),(1,(hY I2)),(5,(hY s1))]∧H=[]∧MC row I2 qi m s1=some v) qe ⟨s1,rfl,rfl,h⟩ ?_;clear h bZ;rintro m T H ⟨s1,rfl,rfl,h⟩;cases m
 ·exact q_ h
 rename_i m;rw [MC.eq_2] at h;conv=>whnf
 refine bs h (fun e0 h=>?_) fun e0 h=>?_
 ·rw [e0];conv=>whnf
  refine qw h id fun fs h=>?_;rw [qY p4 2 qy row s1 fs];conv=>whnf
  refine bs h (fun qp h=>?_) fun qp h=>?_
  ·rw [qp];(conv=>whnf);exact qc h jG rfl rfl
  ·rw [qp];(conv=>whnf);exact ⟨m,sv m,(w (s1+(1:Int))),rfl,rfl,h⟩
 ·rw [e0];conv=>whnf
  exact rD  _ h ⟨rfl,rfl⟩
theorem J1 {row:p'} {I2:Int} {v:Bool} (h:MB row I2=some v):qD 69 [(.ay (row.flatMap p4) row.length .shared),(hY I2)] (B v):=by
 refine qZ dM ahR rfl rfl fun Q bo=>?_;have jG:qK [.tmp 4] Q (fun v=>(B v)) v:=fun T H bK=>bo _ T H bK;unfold MB at h;unfold acY;obtain ⟨HD,qS⟩:∃ c,RG=c:=⟨_,rfl⟩;rw [qS];conv=>whnf
 subst qS;refine amA ?_ ?_ (by exact rfl) h
 ·exact fun T H bK=>jG T H bK
 ·intro  p8 h qf;obtain ⟨qJ,rfl⟩:=qf.ex;conv=>whnf
  exact qc h jG rfl rfl

noncomputable def ac0:eE :=
 GD [gV 2 [.hP 0] .box,gV 3 [.hP 1] .box,Gr 4 0] (.seq (GD [gV 5 [.sl 3] (.oY 1),Gq 6 5,F4 7 6 1 .eql] (.cond (.sl 7) (GD [F_ 8 2 1,Gq 9 8,F_ 10 3 0,Gq 11 10,Gl 12 9 11 2,F_ 13 12 0,Gq 14 13,Gt 4 14] .ret) .skip)) (GD [F_ 15 2 1,Gq 16 15,F_ 17 3 0,Gq 18 17,Gl 19 16 18 2,F_ 20 19 1,Gq 21 20,Gt 4 21] .ret))
theorem ahT:zm Tryz.prog WW 70=some (ac0,22,[.tmp 4]):=by kernel_rfl
def MD (b:qk) (p:(Int×Int)):Option Int :=
 if (decide (p.2=(1:Int)))=true then
  qh (0≤p.1∧p.1<(b.2.length:Int)) <|
  some ((ix b.2 p.1).1)
 else
  qh (0≤p.1∧p.1<(b.2.length:Int)) <|
  some ((ix b.2 p.1).2)
theorem Kx {b:qk} {p:(Int×Int)} {v:Int} (h:MD b p=some v):qD 70 [(.agg [(hY b.1),(.ay (b.2.flatMap p4) b.2.length .shared)]),(.agg [(hY p.1),(hY p.2)])] (hY v):=by
 refine qZ dM ahT rfl rfl fun Q bo=>?_;have jG:qK [.tmp 4] Q (fun v=>(hY v)) v:=fun T H bK=>bo _ T H bK;unfold MD at h;unfold ac0;conv=>whnf
 refine bs h (fun e0 h=>?_) fun e0 h=>?_
 ·rw [e0];conv=>whnf
  refine qw h id fun fs h=>?_;rw [qY p4 2 qy b.2 p.1 fs];conv=>whnf
  exact qc h jG rfl rfl
 ·rw [e0];conv=>whnf
  refine qw h id fun qp h=>?_;rw [qY p4 2 qy b.2 p.1 qp];conv=>whnf
  exact qc h jG rfl rfl

noncomputable def Rt:eE :=
 .loop (some (ED false [1,2,4,2,94])) (.seq (GD [Gs 20 8,Gs 21 7,F5 22 20 21 .lss] (.cond (.sl 22) .skip (.exit 0))) (.seq (.block 1 (.seq (Gx [Gs 25 1,Gs 26 8,Gl 27 25 26 2,F_ 28 27 0,Gq 29 28,F4 30 29 0 .lss,Gt 31 30,cS 32 [.sl 1] 31 false .i_,cS 33 [.sl 8] 31 false .i_,cS 34 [.hS 32,.hS 33] 31 false (.pV 2),cS 35 [.hS 34] 31 false (.oY 0),cS 36 [.hS 35] 31 false (.p2 .one),cS 37 [.sl 2] 31 false (.oY 1),cS 38 [.hS 37] 31 false (.p2 .one),cS 39 [.hP 38] 31 false .xe,cS 40 [.hS 36,.hS 39] 31 false (.bin .geq),gV 41 [.sl 31,.iK (.bool true),.hS 40] .pick,Gt 42 41,cS 43 [.sl 1] 42 false .i_,cS 44 [.sl 8] 42 false .i_,cS 45 [.hS 43,.hS 44] 42 false (.pV 2),cS 46 [.hS 45] 42 false (.oY 1),cS 47 [.hS 46] 42 false (.p2 .one),cS 48 [.hS 47,.iK (.int .i64 0)] 42 false (.bin .lss),gV 49 [.sl 42,.iK (.bool true),.hS 48] .pick,Gt 50 49,cS 51 [.sl 1] 50 false .i_,cS 52 [.sl 8] 50 false .i_,cS 53 [.hS 51,.hS 52] 50 false (.pV 2),cS 54 [.hS 53] 50 false (.oY 1),cS 55 [.hS 54] 50 false (.p2 .one),cS 56 [.hS 55,.iK (.int .i64 1)] 50 false (.bin .gtr),gV 57 [.sl 50,.iK (.bool true),.hS 56] .pick]) (.cond (.sl 57) (GD [Gr 4 0,Gr 5 0,Gr 6 3] .ret) .skip))) (Gw [Gt 23 8,F3 24 23 1,Gt 8 24])))
noncomputable def Ru:eE :=
 .loop (some (ED false [1,2,4,1,1,1,93])) (.seq (GD [Gs 58 9,Gs 59 7,F5 60 58 59 .lss] (.cond (.sl 60) .skip (.exit 2))) (.seq (.block 3 (.seq (Gx [Gs 63 1,Gs 64 9,gV 65 [.hP 63,.hP 64] (.A2 2 false true false),Gs 66 1,Gs 67 9,Gl 68 66 67 2,F_ 69 68 0,Gq 70 69,gV 71 [.iK (.func 69 [] []),.sl 65,.sl 70] (.call 3)]) (.cond (.sl 71) (GD [Gr 4 0,Gr 5 0,Gr 6 11] .ret) .skip))) (Gw [Gt 61 9,F3 62 61 1,Gt 9 62])))
noncomputable def Rv:eE :=
 .loop (some (ED false [1,2,4,1,2,1,92])) (.seq (GD [Gs 72 10,Gs 73 7,F5 74 72 73 .lss] (.cond (.sl 74) .skip (.exit 4))) (.seq (.block 5 (.seq (Gx [gV 77 [.sl 2] (.p2 (.str 2)),Gs 78 1,Gs 79 10,F4 80 79 1 .sub,Gl 81 78 80 2,gV 82 [.hS 81] (.p2 (.str 2)),gV 83 [.iK (.func 70 [] []),.sl 77,.sl 82] (.call 3),gV 84 [.sl 2] (.p2 (.str 2)),Gs 85 1,Gs 86 10,Gl 87 85 86 2,gV 88 [.hS 87] (.p2 (.str 2)),gV 89 [.iK (.func 57 [] []),.sl 84,.sl 88] (.call 3),F5 90 83 89 .neq]) (.cond (.sl 90) (GD [Gr 4 0,Gr 5 0,Gr 6 27] .ret) .skip))) (Gw [Gt 75 10,F3 76 75 1,Gt 10 76])))
noncomputable def acy:eE :=
 GD [gV 2 [.hP 0] .box,Gr 4 0,Gr 5 0,Gr 6 0] (.seq (GD [gV 11 [.sl 2] (.p2 (.str 2)),gV 12 [.iK (.func 21 [] []),.sl 11] (.call 3),F4 13 12 0 .neq] (.cond (.sl 13) (GD [gV 14 [.hS 2] (.p2 (.str 2)),gV 15 [.iK (.func 21 [] []),.sl 14] (.call 3),Gr 4 0,Gr 5 0,Gt 6 15] .ret) .skip)) (GD [Gs 16 1,Gp 17 16,Gt 7 17] (.seq (GD [Gs 18 7,F4 19 18 0 .eql] (.cond (.sl 19) (GD [Gr 4 0,Gr 5 0,Gr 6 6] .ret) .skip)) (.seq (GD [Gr 8 0] (.block 0 Rt)) (.seq (GD [Gr 9 0] (.block 2 Ru)) (.seq (GD [Gr 10 1] (.block 4 Rv)) (.seq (Gx [gV 91 [.sl 2] (.p2 (.str 2)),Gs 92 1,gV 93 [.hS 92,.iK (.int .i64 0)] (.pV 2),gV 94 [.hS 93] (.p2 (.str 2)),gV 95 [.iK (.func 57 [] []),.sl 91,.sl 94] (.call 3),gV 96 [.sl 2] (.p2 (.str 2)),Gs 97 1,Gt 98 7,F4 99 98 1 .sub,Gl 100 97 99 2,gV 101 [.hS 100] (.p2 (.str 2)),gV 102 [.iK (.func 70 [] []),.sl 96,.sl 101] (.call 3),Gt 4 95,Gt 5 102,Gr 6 0]) .ret)))))))
theorem ahr:zm Tryz.prog N7 19=some (acy,103,[.tmp 4,.tmp 5,.tmp 6]):=by kernel_rfl
def Mo (b:qk) (row:p') (qi:Unit→Option (Int×Int×Int)):Nat→Int→Option (Int×Int×Int)
 | 0,_=>none
 | m+1,s1 =>
   if (decide (s1<(row.length:Int)))=true then
    qh (0≤s1∧s1<(row.length:Int)) <|
    if (decide ((ix row s1).1<(0:Int)))=true then
     some ((0:Int),(0:Int),(3:Int))
    else
     qh (0≤s1∧s1<(row.length:Int)) <|
     if (decide ((b.2.length:Int)≤(ix row s1).1))=true then
      some ((0:Int),(0:Int),(3:Int))
     else
      qh (0≤s1∧s1<(row.length:Int)) <|
      if (decide ((ix row s1).2<(0:Int)))=true then
       some ((0:Int),(0:Int),(3:Int))
      else
       qh (0≤s1∧s1<(row.length:Int)) <|
       if (decide ((1:Int)<(ix row s1).2))=true then
        some ((0:Int),(0:Int),(3:Int))
       else
        Mo b row qi m (w (s1+(1:Int)))
   else
    qi ()
def Mp (row:p') (qT:Unit→Option (Int×Int×Int)):Nat→Int→Option (Int×Int×Int)
 | 0,_=>none
 | m+1,s2 =>
   if (decide (s2<(row.length:Int)))=true then
    qh (0≤s2∧s2≤(row.length:Int)) <|
    qh (0≤s2∧s2<(row.length:Int)) <|
    (MB (row.take s2.toNat) ((ix row s2).1)).bind fun eJ =>
    if eJ=true then
     some ((0:Int),(0:Int),(11:Int))
    else
     Mp row qT m (w (s2+(1:Int)))
   else
    qT ()
def Mq (b:qk) (row:p') (ru:Unit→Option (Int×Int×Int)):Nat→Int→Option (Int×Int×Int)
 | 0,_=>none
 | m+1,dj =>
   if (decide (dj<(row.length:Int)))=true then
    qh (0≤(w (dj-(1:Int)))∧(w (dj-(1:Int)))<(row.length:Int)) <|
    (MD b (ix row (w (dj-(1:Int))))).bind fun qA =>
    qh (0≤dj∧dj<(row.length:Int)) <|
    (MA b (ix row dj)).bind fun qE =>
    if (decide (qA≠qE))=true then
     some ((0:Int),(0:Int),(27:Int))
    else
     Mq b row ru m (w (dj+(1:Int)))
   else
    ru ()
def Mn (b:qk) (row:p'):Option (Int×Int×Int) :=
 (Ku b).bind fun r1 =>
 if (decide (r1≠(0:Int)))=true then
  (Ku b).bind fun r2 =>
  some ((0:Int),(0:Int),r2)
 else
  if (decide ((row.length:Int)=(0:Int)))=true then
   some ((0:Int),(0:Int),(6:Int))
  else
   Mo b row (fun _ =>
     Mp row (fun _ =>
       Mq b row (fun _ =>
         qh (0≤(0:Int)∧(0:Int)<(row.length:Int)) <|
         (MA b (ix row (0:Int))).bind fun sb =>
         qh (0≤(w ((row.length:Int)-(1:Int)))∧(w ((row.length:Int)-(1:Int)))<(row.length:Int)) <|
         (MD b (ix row (w ((row.length:Int)-(1:Int))))).bind fun HR =>
         some (sb,HR,(0:Int))) qe (1:Int)) qe (0:Int)) qe (0:Int)
theorem alS {b:qk} {row:p'} {qi:Unit→Option (Int×Int×Int)} {s1:Int} {v:(Int×Int×Int)} {Q:q8}   (jG:qK [.tmp 4,.tmp 5,.tmp 6] Q (fun v=>(.tuple [(hY v.1),(hY v.2.1),(hY v.2.2)])) v) (rD:∀ (p8:List I),qi ()=some v→qO 103 [(1,(p9 row .shared)),(2,(.ptr 0 0)),(7,(hY (row.length:Int)))] p8→Q (.exit 0) p8 [qI b]) {T:List I} (bZ:eX (ED false [1,2,4,2,94]) T=GI 103 [(1,(p9 row .shared)),(2,(.ptr 0 0)),(7,(hY (row.length:Int))),(8,(hY s1))]) (h:Mo b row qi qe s1=some v) :
  dG Tryz.prog N7 19 0 none Rt T [qI b] Q:=by
 unfold Rt;refine wp_loop bZ ?_;refine .intro (fun m T H=>∃ (s1:Int),T=GI 103 [(1,(p9 row .shared)),(2,(.ptr 0 0)),(7,(hY (row.length:Int))),(8,(hY s1))]∧H=[qI b]∧Mo b row qi m s1=some v) qe ⟨s1,rfl,rfl,h⟩ ?_;clear h bZ;rintro m T H ⟨s1,rfl,rfl,h⟩;cases m
 ·exact q_ h
 rename_i m;rw [Mo.eq_2] at h;conv=>whnf
 refine bs h (fun qH h=>?_) fun qH h=>?_
 ·rw [qH];conv=>whnf
  refine qw h id fun qW h=>?_;rw [qY p4 2 qy row s1 qW];conv=>whnf
  refine bs h (fun qU h=>?_) fun qU h=>?_
  ·rw [qU];(conv=>whnf);exact qc h jG rfl rfl
  ·rw [qU];(conv=>whnf);refine qw h id fun qX h=>?_;rw [qY p4 2 qy row s1 qX];(conv=>whnf);refine bs h (fun ra h=>?_) fun ra h=>?_
   ·rw [ra];(conv=>whnf);exact qc h jG rfl rfl
   ·rw [ra];(conv=>whnf);refine qw h id fun qL h=>?_;rw [qY p4 2 qy row s1 qL];(conv=>whnf);refine bs h (fun q9 h=>?_) fun q9 h=>?_
    ·rw [q9];(conv=>whnf);exact qc h jG rfl rfl
    ·rw [q9];(conv=>whnf);refine qw h id fun rn h=>?_;rw [qY p4 2 qy row s1 rn];(conv=>whnf);refine bs h (fun rb h=>?_) fun rb h=>?_
     ·rw [rb];(conv=>whnf);exact qc h jG rfl rfl
     ·rw [rb];(conv=>whnf);exact ⟨m,sv m,(w (s1+(1:Int))),rfl,rfl,h⟩
 ·rw [qH];conv=>whnf
  exact rD  _ h ⟨rfl,rfl⟩
theorem alT {row:p'} {qT:Unit→Option (Int×Int×Int)} {s2:Int} {b:qk} {v:(Int×Int×Int)} {Q:q8}   (jG:qK [.tmp 4,.tmp 5,.tmp 6] Q (fun v=>(.tuple [(hY v.1),(hY v.2.1),(hY v.2.2)])) v) (HX:∀ (p8:List I),qT ()=some v→qO 103 [(1,(p9 row .shared)),(2,(.ptr 0 0)),(7,(hY (row.length:Int)))] p8→Q (.exit 2) p8 [qI b]) {T:List I} (bZ:eX (ED false [1,2,4,1,1,1,93]) T=GI 103 [(1,(p9 row .shared)),(2,(.ptr 0 0)),(7,(hY (row.length:Int))),(9,(hY s2))]) (h:Mp row qT qe s2=some v) :
  dG Tryz.prog N7 19 0 none Ru T [qI b] Q:=by
 unfold Ru;refine wp_loop bZ ?_;refine .intro (fun m T H=>∃ (s2:Int),T=GI 103 [(1,(p9 row .shared)),(2,(.ptr 0 0)),(7,(hY (row.length:Int))),(9,(hY s2))]∧H=[qI b]∧Mp row qT m s2=some v) qe ⟨s2,rfl,rfl,h⟩ ?_;clear h bZ;rintro m T H ⟨s2,rfl,rfl,h⟩;cases m
 ·exact q_ h
 rename_i m;rw [Mp.eq_2] at h;conv=>whnf
 refine bs h (fun rY h=>?_) fun rY h=>?_
 ·rw [rY];conv=>whnf
  refine qw h id fun GY h=>?_;erw [Nz p4 2 qy row s2 GY];conv=>whnf
  refine qw h id fun sa h=>?_;rw [qY p4 2 qy row s2 sa];conv=>whnf
  obtain ⟨eJ,G_,h⟩:=qj h;refine ⟨qt.pl,_,J1 G_,Hu,?_⟩;conv=>whnf
  cases eJ
  ·(conv=>whnf);replace h:=r0 rfl h;exact ⟨m,sv m,(w (s2+(1:Int))),rfl,rfl,h⟩
  ·(conv=>whnf);replace h:=rZ rfl h;exact qc h jG rfl rfl
 ·rw [rY];conv=>whnf
  exact HX  _ h ⟨rfl,rfl⟩
theorem alU {b:qk} {row:p'} {ru:Unit→Option (Int×Int×Int)} {dj:Int} {v:(Int×Int×Int)} {Q:q8}   (jG:qK [.tmp 4,.tmp 5,.tmp 6] Q (fun v=>(.tuple [(hY v.1),(hY v.2.1),(hY v.2.2)])) v) (IG:∀ (p8:List I),ru ()=some v→qO 103 [(1,(p9 row .shared)),(2,(.ptr 0 0)),(7,(hY (row.length:Int)))] p8→Q (.exit 4) p8 [qI b]) {T:List I} (bZ:eX (ED false [1,2,4,1,2,1,92]) T=GI 103 [(1,(p9 row .shared)),(2,(.ptr 0 0)),(7,(hY (row.length:Int))),(10,(hY dj))]) (h:Mq b row ru qe dj=some v) :
  dG Tryz.prog N7 19 0 none Rv T [qI b] Q:=by
 unfold Rv;refine wp_loop bZ ?_;refine .intro (fun m T H=>∃ (dj:Int),T=GI 103 [(1,(p9 row .shared)),(2,(.ptr 0 0)),(7,(hY (row.length:Int))),(10,(hY dj))]∧H=[qI b]∧Mq b row ru m dj=some v) qe ⟨dj,rfl,rfl,h⟩ ?_;clear h bZ;rintro m T H ⟨dj,rfl,rfl,h⟩;cases m
 ·exact q_ h
 rename_i m;rw [Mq.eq_2] at h;conv=>whnf
 refine bs h (fun rT h=>?_) fun rT h=>?_
 ·rw [rT];conv=>whnf
  refine qw h id fun Hn h=>?_;rw [qY p4 2 qy row (w (dj-(1:Int))) Hn];conv=>whnf
  obtain ⟨qA,rX,h⟩:=qj h;refine ⟨qt.pl,_,Kx rX,Hu,?_⟩;conv=>whnf
  refine qw h id fun Hd h=>?_;rw [qY p4 2 qy row dj Hd];conv=>whnf
  obtain ⟨qE,sf,h⟩:=qj h;refine ⟨qt.pl,_,Kv sf,HB rfl,?_⟩;conv=>whnf
  refine bs h (fun HV h=>?_) fun HV h=>?_
  ·rw [HV];(conv=>whnf);exact qc h jG rfl rfl
  ·rw [HV];(conv=>whnf);exact ⟨m,sv m,(w (dj+(1:Int))),rfl,rfl,h⟩
 ·rw [rT];conv=>whnf
  exact IG  _ h ⟨rfl,rfl⟩
theorem abo {b:qk} {row:p'} {v:(Int×Int×Int)} (h:Mn b row=some v):qD 19 [(.agg [(hY b.1),(.ay (b.2.flatMap p4) b.2.length .shared)]),(.ay (row.flatMap p4) row.length .shared)] (.tuple [(hY v.1),(hY v.2.1),(hY v.2.2)]):=by
 refine qZ dM ahr rfl (IX (p5 rfl (p5 rfl (p5 rfl rfl)))) fun Q bo=>?_;have jG:qK [.tmp 4,.tmp 5,.tmp 6] Q (fun v=>(.tuple [(hY v.1),(hY v.2.1),(hY v.2.2)])) v:=fun T H bK=>bo _ T H bK;unfold Mn at h;unfold acy;obtain ⟨HD,qS⟩:∃ c,Rt=c:=⟨_,rfl⟩;rw [qS];obtain ⟨Lc,sk⟩:∃ c,Ru=c:=⟨_,rfl⟩;rw [sk];obtain ⟨Ss,IT⟩:∃ c,Rv=c:=⟨_,rfl⟩;rw [IT];conv=>whnf
 obtain ⟨r1,e0,h⟩:=qj h;refine ⟨qt.pl,_,Ph e0,?_⟩;conv=>whnf
 refine bs h (fun fs h=>?_) fun fs h=>?_
 ·rw [fs];conv=>whnf
  obtain ⟨r2,qp,h⟩:=qj h;refine ⟨qt.pl,_,Ph qp,?_⟩;conv=>whnf
  exact qc h jG rfl rfl
 ·rw [fs];conv=>whnf
  refine bs h (fun qC h=>?_) fun qC h=>?_
  ·rw [qC];(conv=>whnf);exact qc h jG rfl rfl
  ·rw [qC];(conv=>whnf);subst qS;refine alS ?_ ?_ (by exact rfl) h
   ·exact fun T H bK=>jG T H bK
   ·intro  p8 h qf;obtain ⟨qJ,rfl⟩:=qf.ex;(conv=>whnf);subst sk;refine alT ?_ ?_ (by exact rfl) h
    ·exact fun T H bK=>jG T H bK
    ·intro  p8 h qf;obtain ⟨qJ,rfl⟩:=qf.ex;(conv=>whnf);subst IT;refine alU ?_ ?_ (by exact rfl) h
     ·exact fun T H bK=>jG T H bK
     ·intro  p8 h qf;obtain ⟨qJ,rfl⟩:=qf.ex;(conv=>whnf);refine qw h id fun HW h=>?_;rw [qY p4 2 qy row (0:Int) HW];(conv=>whnf);obtain ⟨sb,Is,h⟩:=qj h;refine ⟨qt.pl,_,Kv Is,Hu,?_⟩;(conv=>whnf);refine qw h id fun HO h=>?_;rw [qY p4 2 qy row (w ((row.length:Int)-(1:Int))) HO];(conv=>whnf);obtain ⟨HR,It,h⟩:=qj h;refine ⟨qt.pl,_,Kx It,HB rfl,?_⟩;(conv=>whnf);exact qc h jG rfl rfl

noncomputable def acB:eE :=
 GD [gV 2 [.hP 0] .box,Gr 4 0] (GD [gV 9 [.sl 2] (.p2 (.str 2)),Gs 10 1,gV 11 [.iK (.func 18 [] []),.sl 9,.sl 10] (.call 3),Gt 8 11,GL 12 8 0,GL 13 8 1,gV 14 [.hS 8] (.ext 2),Gt 5 12,Gt 6 13,Gt 7 14] (.seq (.block 0 (GD [Gs 16 7,F4 17 16 0 .neq,Gt 15 17] (.cond (.sl 15) (GD [Gt 18 7,Gt 4 18] .ret) (GD [Gt 20 1,Gp 21 20,F_ 22 2 1,Gq 23 22,Gp 24 23,F5 25 21 24 .lss,Gt 19 25] (.cond (.sl 19) (GD [Gr 4 15] .ret) (GD [Gt 27 5,Gt 28 6,F5 29 27 28 .neq,Gt 26 29] (.cond (.sl 26) (GD [Gr 4 27] .ret) .skip))))))) (GD [Gr 4 0] .ret)))
theorem ahu:zm Tryz.prog WC 22=some (acB,30,[.tmp 4]):=by kernel_rfl
def Ms (b:qk) (row:p'):Option Int :=
 (Mk b row).bind fun r1 =>
 if (decide (r1.2.2≠(0:Int)))=true then
  some r1.2.2
 else
  if (decide ((row.length:Int)<(b.2.length:Int)))=true then
   some (15:Int)
  else
   if (decide (r1.1≠r1.2.1))=true then
    some (27:Int)
   else
    some (0:Int)
theorem abt {b:qk} {row:p'} {v:Int} (h:Ms b row=some v):qD 22 [(.agg [(hY b.1),(.ay (b.2.flatMap p4) b.2.length .shared)]),(.ay (row.flatMap p4) row.length .shared)] (hY v):=by
 refine qZ dM ahu rfl rfl fun Q bo=>?_;have jG:qK [.tmp 4] Q (fun v=>(hY v)) v:=fun T H bK=>bo _ T H bK;unfold Ms at h;unfold acB;conv=>whnf
 obtain ⟨r1,e0,h⟩:=qj h;refine ⟨qt.pl,_,VH e0,?_⟩;conv=>whnf
 refine bs h (fun fs h=>?_) fun fs h=>?_
 ·rw [fs];conv=>whnf
  exact qc h jG rfl rfl
 ·rw [fs];conv=>whnf
  refine bs h (fun qp h=>?_) fun qp h=>?_
  ·rw [qp];(conv=>whnf);exact qc h jG rfl rfl
  ·rw [qp];(conv=>whnf);refine bs h (fun qC h=>?_) fun qC h=>?_
   ·rw [qC];(conv=>whnf);exact qc h jG rfl rfl
   ·rw [qC];(conv=>whnf);exact qc h jG rfl rfl

noncomputable def acC:eE :=
 GD [gV 2 [.hP 0] .box,Gr 4 0] (GD [gV 9 [.sl 2] (.p2 (.str 2)),Gs 10 1,gV 11 [.iK (.func 19 [] []),.sl 9,.sl 10] (.call 3),Gt 8 11,GL 12 8 0,GL 13 8 1,gV 14 [.hS 8] (.ext 2),Gt 5 12,Gt 6 13,Gt 7 14] (.seq (GD [Gs 15 7,F4 16 15 0 .neq] (.cond (.sl 16) (GD [Gt 17 7,Gt 4 17] .ret) .skip)) (.seq (GD [Gt 18 1,Gp 19 18,F_ 20 2 1,Gq 21 20,Gp 22 21,F5 23 19 22 .neq] (.cond (.sl 23) (GD [Gr 4 15] .ret) .skip)) (.seq (GD [Gt 24 5,Gt 25 6,F5 26 24 25 .neq] (.cond (.sl 26) (GD [Gr 4 27] .ret) .skip)) (GD [Gr 4 0] .ret)))))
theorem ahv:zm Tryz.prog WD 23=some (acC,27,[.tmp 4]):=by kernel_rfl
def NO (b:qk) (row:p'):Option Int :=
 (Mn b row).bind fun r1 =>
 if (decide (r1.2.2≠(0:Int)))=true then
  some r1.2.2
 else
  if (decide ((row.length:Int)≠(b.2.length:Int)))=true then
   some (15:Int)
  else
   if (decide (r1.1≠r1.2.1))=true then
    some (27:Int)
   else
    some (0:Int)
theorem alX {b:qk} {row:p'} {v:Int} (h:NO b row=some v):qD 23 [(.agg [(hY b.1),(.ay (b.2.flatMap p4) b.2.length .shared)]),(.ay (row.flatMap p4) row.length .shared)] (hY v):=by
 refine qZ dM ahv rfl rfl fun Q bo=>?_;have jG:qK [.tmp 4] Q (fun v=>(hY v)) v:=fun T H bK=>bo _ T H bK;unfold NO at h;unfold acC;conv=>whnf
 obtain ⟨r1,e0,h⟩:=qj h;refine ⟨qt.pl,_,abo e0,?_⟩;conv=>whnf
 refine bs h (fun fs h=>?_) fun fs h=>?_
 ·rw [fs];conv=>whnf
  exact qc h jG rfl rfl
 ·rw [fs];conv=>whnf
  refine bs h (fun qp h=>?_) fun qp h=>?_
  ·rw [qp];(conv=>whnf);exact qc h jG rfl rfl
  ·rw [qp];(conv=>whnf);refine bs h (fun qC h=>?_) fun qC h=>?_
   ·rw [qC];(conv=>whnf);exact qc h jG rfl rfl
   ·rw [qC];(conv=>whnf);exact qc h jG rfl rfl

def FZ (b:qk) (l:p'):Option Bool :=
 (Pf b).bind fun r1 =>
 if r1=true then
  (Il).bind fun r2 =>
  some r2
 else
  if (decide ((14:Int)<(l.length:Int)))=true then
   (Il).bind fun eJ =>
   some eJ
  else
   (Mk b l).bind fun qA =>
   (Mn b l).bind fun qE =>
   (NN b).bind fun sb =>
   (Ku b).bind fun HR =>
   if (decide (sb=HR))=true then
    if (decide (qA.1=qE.1))=true then
     if (decide (qA.2.1=qE.2.1))=true then
      if (decide (qA.2.2=qE.2.2))=true then
       (Ms b l).bind fun Jl =>
       (NO b l).bind fun Hy =>
       if (decide (Jl=Hy))=true then
        (Il).bind fun Hf =>
        some Hf
       else
        some false
      else
       some false
     else
      some false
    else
     some false
   else
    some false
end Go.Proofs.YtfakoboiahbhaaaGreat.Ab


namespace Go.Proofs.YtfakoboiahbhaaaGreat.Ab
open Go
def Iu (lo hi x:Int):Bool:=decide (x<lo) || decide (hi<x)
theorem Mb {lo hi x:Int}:Iu lo hi x=false↔lo≤x∧x≤hi:=by
 simp only [Iu,Bool.or_eq_false_iff,decide_eq_false_iff_not];omega
theorem Ng {lo hi x:Int}:Iu lo hi x=true↔x<lo∨hi<x:=by
 simp only [Iu,tX,decide_eq_true_eq]
def posOf {α:Type} (p:α→Bool):List α→Nat→Int
 | [],_ => -1
 | x::l,i=>if p x=true then (i:Int) else posOf p l (i+1)
theorem OR {α:Type} (p:α→Bool):∀ (l:List α) (i:Nat),decide (0≤posOf p l i)=l.any p
 | [],_=>rfl
 | x::l,i=>by
   rw [posOf,uN];by_cases h:p x=true
   ·rw [if_pos h,h];simp
   ·rw [if_neg h,OR p l (i+1)];simp [h]
theorem amV (n lo hi:Int):Pu n lo hi=some (Iu lo hi n):=by
 unfold Pu Iu;by_cases h:n<lo <;> simp [h]
theorem VD {s:List Int} {f:Int→Option Bool} {p:Int→Bool} (aQ:∀ x∈s,f x=some (p x)) (ai:s.length≤140737488355328):∀ (m i:Nat) (z:Int),z=i→i≤s.length→s.length-i<m→Mi s f (fun _=>some (-1:Int)) m z=some (posOf p (s.drop i) i)
 | 0,i,_,_,_,h=>absurd h (by omega)
 | m+1,i,_,rfl,hi,hm=>by
   rw [Mi];by_cases h:i<s.length
   ·rw [JC h,HH h,rm h,aQ _ (sL h),sq,tf h,posOf];by_cases aC:p s[i]=true
    ·rw [if_pos aC,if_pos aC]
    ·rw [if_neg aC,if_neg aC,r4 i (by omega),VD aQ ai m (i+1) _ rfl (by omega) (by omega)]
   ·rw [JB h,tz (by omega)];rfl
theorem VX {s:List (Int×Int)} {f:Int×Int→Option Bool} {p:Int×Int→Bool} (aQ:∀ x∈s,f x=some (p x)) (ai:s.length≤140737488355328):∀ (m i:Nat) (z:Int),z=i→i≤s.length→s.length-i<m→MI s f (fun _=>some (-1:Int)) m z=some (posOf p (s.drop i) i)
 | 0,i,_,_,_,h=>absurd h (by omega)
 | m+1,i,_,rfl,hi,hm=>by
   rw [MI];by_cases h:i<s.length
   ·rw [JC h,HH h,rm h,aQ _ (sL h),sq,tf h,posOf];by_cases aC:p s[i]=true
    ·rw [if_pos aC,if_pos aC]
    ·rw [if_neg aC,if_neg aC,r4 i (by omega),VX aQ ai m (i+1) _ rfl (by omega) (by omega)]
   ·rw [JB h,tz (by omega)];rfl
theorem aca {s:List (Int×Int)} {f:Int×Int→Option Bool} {p:Int×Int→Bool} (aQ:∀ x∈s,f x=some (p x)) (ai:s.length≤140737488355328):∀ (m i:Nat) (z:Int),z=i→i≤s.length→s.length-i<m→MJ s f (fun _=>some (-1:Int)) m z=some (posOf p (s.drop i) i)
 | 0,i,_,_,_,h=>absurd h (by omega)
 | m+1,i,_,rfl,hi,hm=>by
   rw [MJ];by_cases h:i<s.length
   ·rw [JC h,HH h,rm h,aQ _ (sL h),sq,tf h,posOf];by_cases aC:p s[i]=true
    ·rw [if_pos aC,if_pos aC]
    ·rw [if_neg aC,if_neg aC,r4 i (by omega),aca aQ ai m (i+1) _ rfl (by omega) (by omega)]
   ·rw [JB h,tz (by omega)];rfl
theorem VW {s:List Int} {f:Int→Option Bool} {p:Int→Bool} (aQ:∀ x∈s,f x=some (p x)) (ai:s.length≤140737488355328):K4 s f=some (s.any p):=by
 have:=VD aQ ai qe 0 0 rfl (sK _) (rR (by omega));rw [tb] at this;rw [K4,NL,this,sq,OR]
theorem amz {s:List (Int×Int)} {f:Int×Int→Option Bool} {p:Int×Int→Bool} (aQ:∀ x∈s,f x=some (p x)) (ai:s.length≤140737488355328):NV s f=some (s.any p):=by
 have:=VX aQ ai qe 0 0 rfl (sK _) (rR (by omega));rw [tb] at this;rw [NV,LJ,this,sq,OR]
theorem amC {s:List (Int×Int)} {f:Int×Int→Option Bool} {p:Int×Int→Bool} (aQ:∀ x∈s,f x=some (p x)) (ai:s.length≤140737488355328):Ps s f=some (s.any p):=by
 have:=aca aQ ai qe 0 0 rfl (sK _) (rR (by omega));rw [tb] at this;rw [Ps,Rk,this,sq,OR]
theorem Q6 (lo hi:Int) (l:List Int) (ak:l.length≤140737488355328):LC lo hi l=some (!(l.any (Iu lo hi))):=by
 rw [LC,VW (p:=Iu lo hi) (fun x _=>amV x lo hi) ak,sq]
def I5 (f:Int) (s:Int×Int):Bool:=Iu 0 (f-1) s.1 || Iu 0 (f-1) s.2
def ri (b:qb):Int:=if b.1<1∨6<b.1∨(10:Int)<(b.2.length:Int) then 6 else if b.2.any (I5 b.1)=true then 3 else 0
structure qM (b:qb):Prop where
 f1:1≤b.1
 f6:b.1≤6
 len:b.2.length≤10
 left:∀ s∈b.2,0≤s.1∧s.1<b.1
 right:∀ s∈b.2,0≤s.2∧s.2<b.1
theorem Hi {b:qb}:ri b=0↔qM b:=by
 unfold ri;constructor
 ·intro h;split at h
  ·omega
  ·rename_i ad;split at h
   ·omega
   ·rename_i af;(have af:b.2.any (I5 b.1)=false:=by simpa using af);rw [uF] at af;have aG:∀ s∈b.2,Iu 0 (b.1-1) s.1=false∧Iu 0 (b.1-1) s.2=false:=fun s ai=>by
     have:=af s ai;unfold I5 at this;simpa using this
    exact ⟨by omega,by omega,by omega,fun s ai=>by have:=Mb.1 (aG s ai).1;omega,fun s ai=>by have:=Mb.1 (aG s ai).2;omega⟩
 ·intro h;obtain ⟨ad,af,aG,a8,bN⟩:=h;rw [if_neg (by omega),if_neg];rw [Bool.not_eq_true,uF];intro s ai;have a:=a8 s ai;have c:=bN s ai;unfold I5;rw [Mb.2 (by omega),Mb.2 (by omega)];decide
theorem Q2 (b:qb) (ag:b.2.length≤1000):NN b=some (ri b):=by
 rw [NN,Q6 _ _ _ (by simp),sq];unfold ri;simp only [uN,wB,wC];by_cases h:1≤b.1∧b.1≤6
 ·rw [Mb.2 h,if_pos (by decide)];by_cases af:(10:Int)<(b.2.length:Int)
  ·rw [if_pos (decide_eq_true af),if_pos (by omega)]
  ·rw [if_neg (by simpa using af),if_neg (by omega),amC (p:=I5 b.1) (fun s _=>by
    rw [Q9,HF (by omega),Q6 _ _ _ (by simp),sq]
    simp [I5]) (by omega),sq]
   cases b.2.any (I5 b.1) <;> rfl
 ·have:Iu 1 6 b.1=true:=by rw [Ng];omega
  rw [this,if_neg (by decide),if_pos (by omega)]
theorem abq {b:qb} (ag:b.2.length≤1000) (aQ:1≤b.1):∀ (m i:Nat) (z:Int),z=i→i≤b.2.length→b.2.length-i<m→Mr b (fun _=>some (0:Int)) m z=some (if (b.2.drop i).any (I5 b.1)=true then 3 else 0)
 | 0,i,_,_,_,h=>absurd h (by omega)
 | m+1,i,_,rfl,hi,hm=>by
   rw [Mr];by_cases h:i<b.2.length
   ·rw [JC h,HH h,rm h,tf h,uN];have e:I5 b.1 b.2[i]=true↔b.2[i].1<0∨b.1≤b.2[i].1∨b.2[i].2<0∨b.1≤b.2[i].2:=by
     unfold I5;rw [tX,Ng,Ng];omega
    by_cases ai:I5 b.1 b.2[i]=true
    ·have aY:=e.1 ai;rw [ai,vW,if_pos rfl];by_cases aB:b.2[i].1<0
     ·rw [if_pos (decide_eq_true aB)]
     rw [if_neg (by simpa using aB)];by_cases aH:b.1≤b.2[i].1
     ·rw [if_pos (decide_eq_true aH)]
     rw [if_neg (by simpa using aH)];by_cases aR:b.2[i].2<0
     ·rw [if_pos (decide_eq_true aR)]
     rw [if_neg (by simpa using aR),if_pos (decide_eq_true (by omega))]
    ·have aY:=(not_congr e).1 ai;(have g8:I5 b.1 b.2[i]=false:=by simpa using ai);rw [g8,vr,if_neg (by simp;omega),if_neg (by simp;omega),if_neg (by simp;omega),if_neg (by simp;omega),r4 i (by omega),abq ag aQ m (i+1) _ rfl (by omega) (by omega)]
   ·rw [JB h,tz (by omega)];rfl
theorem VI (b:qb) (ag:b.2.length≤1000):Ku b=some (ri b):=by
 rw [Ku];unfold ri;by_cases ad:b.1<1
 ·rw [if_pos (decide_eq_true ad),if_pos (.inl ad)]
 rw [if_neg (by simpa using ad)];by_cases af:6<b.1
 ·rw [if_pos (decide_eq_true af),if_pos (.inr (.inl af))]
 rw [if_neg (by simpa using af)];by_cases aG:(10:Int)<(b.2.length:Int)
 ·rw [if_pos (decide_eq_true aG),if_pos (.inr (.inr aG))]
 rw [if_neg (by simpa using aG),if_neg (by omega),abq ag (by omega) qe 0 0 rfl (sK _) (rR (by omega)),tb]
abbrev Row:=List (Int×Int)
def G7 (b:qb) (p:Int×Int):Bool:=Iu 0 ((b.2.length:Int)-1) p.1 || Iu 0 1 p.2
theorem Lw {b:qb} {p:Int×Int}:G7 b p=false↔0≤p.1∧p.1<(b.2.length:Int)∧0≤p.2∧p.2≤1:=by
 unfold G7;rw [Bool.or_eq_false_iff,Mb,Mb];omega
def Hw:Row→Row→Bool
 | _,[]=>false
 | pre,p::r=>if (pre.any fun q=>decide (q.1=p.1))=true then true else Hw (pre++[p]) r
def qV (b:qb):Int→Row→Option Int
 | a,[]=>some a
 | a,p::r=>if qP b p=a then qV b (fin b p) r else none
def rU (b:qb) (row:Row):Int×Int×Int :=
 if ri b≠0 then (0,0,ri b) else match row with
 | []=>(0,0,6)
 | p::r=>if (p::r).any (G7 b)=true then (0,0,3) else if Hw [] (p::r)=true then (0,0,11) else match qV b (qP b p) (p::r) with
   | none=>(0,0,27)
   | some a=>(qP b p,a,0)
theorem amy {b:qb} (ag:b.2.length≤1000) (p:Int×Int):NU p b=some (G7 b p):=by
 rw [NU,HF (by omega),Q6 _ _ _ (by simp),sq];unfold G7;simp only [uN,wB,wC];cases Iu 0 ((b.2.length:Int)-1) p.1 with
 | true=>rfl
 | false=>rw [if_pos (by decide),Q6 _ _ _ (by simp),sq];simp
theorem aei {α:Type} (f:α→Bool) (l:List α) (x:α):(l++[x]).any f=(l.any f || f x):=by simp
theorem KY {α:Type} {l:List α} {i:Nat} (h:i<l.length):l.take (i+1)=l.take i++[l[i]]:=by
 rw [List.take_add_one,sI h];rfl
theorem L8 {t:List Int} {c:Nat} {x:Int} (h:c<t.length):ix (t.set c x) (c:Int)=x:=by unfold ix;simp [sV,h]
theorem KQ {t:List Int} {c j:Nat} {x:Int} (h:j≠c):ix (t.set c x) (j:Int)=ix t (j:Int):=by unfold ix;simp [sV,sG (Ne.symm h)]
theorem TG {n:Nat} (j:Int):ix (List.replicate n (0:Int)) j=0:=by
 unfold ix;rw [sV,List.getElem?_replicate];split <;> rfl
theorem abi {row:Row} {k:Unit→Option (Int×Int×Int)} (aj:row.length≤1000) (g6:∀ p∈row,0≤p.1∧p.1<10):∀ (m i:Nat) (z:Int) (t:List Int),z=i→i≤row.length→row.length-i<m→t.length=10 →
  (∀ j:Nat,j<10→(0<ix t (j:Int)↔((row.take i).any fun q=>decide (q.1=(j:Int)))=true))→Ml row k m z t=if Hw (row.take i) (row.drop i)=true then some (0,0,11) else k ()
 | 0,i,_,_,_,_,h,_,_=>absurd h (by omega)
 | m+1,i,_,t,rfl,hi,hm,ax,bZ=>by
   rw [Ml];by_cases h:i<row.length
   ·have aC:=g6 _ (sL h);obtain ⟨c,ao⟩:∃ c:Nat,row[i].1=(c:Int):=⟨row[i].1.toNat,by omega⟩;rw [JC h,HH h,rm h,qx ⟨aC.1,aC.2,ax.symm⟩,tf h,Hw,ao];by_cases al:0<ix t (c:Int)
    ·rw [if_pos (decide_eq_true al),if_pos ((bZ c (by omega)).1 al),if_pos rfl]
    ·rw [if_neg (by simpa using al),if_neg (fun e=>al ((bZ c (by omega)).2 e)),qx ⟨by omega,by omega,ax.symm⟩,r4 i (by omega),
      abi aj g6 m (i+1) _ _ rfl (by omega) (by omega) (by simpa using ax) (fun j aw=>?_),KY h]
     rw [KY h,aei,ao];by_cases pw:j=c
     ·subst pw;rw [tI,L8 (by omega)];simp
     ·rw [tI,KQ pw,bZ j aw];simp [show ¬ (c:Int)=(j:Int) by omega]
   ·rw [JB h,tz (by omega)];simp [Hw]
theorem abj {b:qb} {row:Row} {k:Int→Option (Int×Int×Int)} (aj:row.length≤1000) (g6:∀ p∈row,0≤p.1∧p.1<(b.2.length:Int)):∀ (m i:Nat) (z a:Int),z=i→i≤row.length→row.length-i<m →
  Mm row b k m a z=match qV b a (row.drop i) with | none=>some (0,0,27) | some aM=>k aM
 | 0,i,_,_,_,_,h=>absurd h (by omega)
 | m+1,i,_,a,rfl,hi,hm=>by
   rw [Mm];by_cases h:i<row.length
   ·rw [JC h,HH h,rm h,J0 (g6 _ (sL h)),sq,tf h,qV];by_cases ag:qP b row[i]=a
    ·rw [if_pos ag,if_neg (by simp [ag]),r4 i (by omega),abj aj g6 m (i+1) _ _ rfl (by omega) (by omega)]
    ·rw [if_neg ag,if_pos (decide_eq_true ag)]
   ·rw [JB h,tz (by omega)];rfl
theorem VG (b:qb) (row:Row) (ag:b.2.length≤1000) (aj:row.length≤1000):Mk b row=some (rU b row):=by
 rw [Mk,Jo,Q2 b ag,sq];unfold rU;by_cases aS:ri b≠0
 ·rw [if_pos (decide_eq_true aS),sq];dsimp only;rw [if_pos (decide_eq_true aS),if_pos aS]
 have p7:=Hi.1 (uY.1 aS);rw [if_neg (by simpa using aS),sq,if_neg aS];dsimp only;rw [if_neg (by decide)];cases row with
 | nil=>rfl
 | cons p r =>
   rw [if_neg (by simp;omega),amz (p:=G7 b) (fun q _=>amy ag q) (by omega),sq];dsimp only;by_cases ad:(p::r).any (G7 b)=true
   ·rw [if_pos ad,if_pos ad]
   rw [if_neg ad,if_neg ad,qx (by simp)];(have iN:(p::r).any (G7 b)=false:=by simpa using ad);rw [uF] at iN;have g6:∀ q∈p::r,0≤q.1∧q.1<(b.2.length:Int):=fun q a5=>by
    have:=Lw.1 (by simpa using iN q a5);exact ⟨this.1,this.2.1⟩
   have hlen:=p7.len;rw [abi aj (fun q a5=>by have:=g6 q a5;omega) qe 0 0 _ rfl (sK _) (rR (by omega)) (by simp) (fun j aw=>by rw [TG];simp),tu,tb];by_cases af:Hw [] (p::r)=true
   ·rw [if_pos af,if_pos af]
   rw [if_neg af,if_neg af,qx (by simp),show ix (p::r) (0:Int)=p from rfl,J0 (g6 p (by simp)),sq,abj aj g6 qe 0 0 _ rfl (sK _) (rR (by omega)),tb];cases qV b (qP b p) (p::r) <;> rfl
theorem abX {row:Row} {s:Int} (aj:row.length≤1000):∀ (m i:Nat) (z:Int),z=i→i≤row.length→row.length-i<m→MC row s (fun _=>some false) m z=some ((row.drop i).any fun q=>decide (q.1=s))
 | 0,i,_,_,_,h=>absurd h (by omega)
 | m+1,i,_,rfl,hi,hm=>by
   rw [MC];by_cases h:i<row.length
   ·rw [JC h,HH h,rm h,tf h,uN];by_cases aC:row[i].1=s
    ·rw [if_pos (decide_eq_true aC)];simp [aC]
    ·rw [if_neg (by simpa using aC),r4 i (by omega),abX aj m (i+1) _ rfl (by omega) (by omega)];simp [aC]
   ·rw [JB h,tz (by omega)];rfl
theorem VO (row:Row) (s:Int) (aj:row.length≤1000):MB row s=some (row.any fun q=>decide (q.1=s)):=by
 rw [MB,abX aj qe 0 0 rfl (sK _) (rR (by omega)),tb]
theorem VN {b:qb} {p:Int×Int} (h:G7 b p=false):MA b p=some (qP b p):=by
 have h:=Lw.1 h;rw [MA];unfold qP;by_cases ad:p.2=1
 ·rw [if_pos (decide_eq_true ad),if_pos (by omega),qx ⟨by omega,by omega⟩]
 ·rw [if_neg (by simpa using ad),if_neg (by omega),qx ⟨by omega,by omega⟩]
theorem VP {b:qb} {p:Int×Int} (h:G7 b p=false):MD b p=some (fin b p):=by
 have h:=Lw.1 h;rw [MD];unfold fin;by_cases ad:p.2=1
 ·rw [if_pos (decide_eq_true ad),if_pos (by omega),qx ⟨by omega,by omega⟩]
 ·rw [if_neg (by simpa using ad),if_neg (by omega),qx ⟨by omega,by omega⟩]
theorem abl {b:qb} {row:Row} {k:Unit→Option (Int×Int×Int)} (aj:row.length≤1000):∀ (m i:Nat) (z:Int),z=i→i≤row.length→row.length-i<m →
  Mo b row k m z=if (row.drop i).any (G7 b)=true then some (0,0,3) else k ()
 | 0,i,_,_,_,h=>absurd h (by omega)
 | m+1,i,_,rfl,hi,hm=>by
   rw [Mo];by_cases h:i<row.length
   ·rw [JC h,HH h,rm h,tf h,uN];have e:G7 b row[i]=true↔row[i].1<0∨(b.2.length:Int)≤row[i].1∨row[i].2<0∨1<row[i].2:=by
     unfold G7;rw [tX,Ng,Ng];omega
    by_cases ai:G7 b row[i]=true
    ·have aY:=e.1 ai;rw [ai,vW,if_pos rfl];by_cases aB:row[i].1<0
     ·rw [if_pos (decide_eq_true aB)]
     rw [if_neg (by simpa using aB),HH h];by_cases aH:(b.2.length:Int)≤row[i].1
     ·rw [if_pos (decide_eq_true aH)]
     rw [if_neg (by simpa using aH),HH h];by_cases aR:row[i].2<0
     ·rw [if_pos (decide_eq_true aR)]
     rw [if_neg (by simpa using aR),HH h,if_pos (decide_eq_true (by omega))]
    ·have aY:=(not_congr e).1 ai;(have g8:G7 b row[i]=false:=by simpa using ai);rw [g8,vr,if_neg (by simp;omega),HH h,if_neg (by simp;omega),HH h,if_neg (by simp;omega),HH h,if_neg (by simp;omega),r4 i (by omega),abl aj m (i+1) _ rfl (by omega) (by omega)]
   ·rw [JB h,tz (by omega)];rfl
theorem abm {row:Row} {k:Unit→Option (Int×Int×Int)} (aj:row.length≤1000):∀ (m i:Nat) (z:Int),z=i→i≤row.length→row.length-i<m →
  Mp row k m z=if Hw (row.take i) (row.drop i)=true then some (0,0,11) else k ()
 | 0,i,_,_,_,h=>absurd h (by omega)
 | m+1,i,_,rfl,hi,hm=>by
   rw [Mp];by_cases h:i<row.length
   ·rw [JC h,qx ⟨by omega,by omega⟩,HH h,rm h,tI,VO _ _ (by simp;omega),sq,tf h,Hw];by_cases al:((row.take i).any fun q=>decide (q.1=row[i].1))=true
    ·rw [if_pos al,if_pos al,if_pos rfl]
    ·rw [if_neg al,if_neg al,r4 i (by omega),abm aj m (i+1) _ rfl (by omega) (by omega),KY h]
   ·rw [JB h,tz (by omega)];simp [Hw]
theorem abn {b:qb} {row:Row} {k:Unit→Option (Int×Int×Int)} (aj:row.length≤1000) (g6:∀ p∈row,G7 b p=false):∀ (m i:Nat) (z:Int),z=((i+1:Nat):Int)→(hi:i<row.length)→row.length-i<m →
  Mq b row k m z=match qV b (fin b row[i]) (row.drop (i+1)) with | none=>some (0,0,27) | some _=>k ()
 | 0,i,_,_,_,h=>absurd h (by omega)
 | m+1,i,_,rfl,hi,hm=>by
   rw [Mq];by_cases h:i+1<row.length
   ·rw [JC h,show w (((i+1:Nat):Int)-1)=((i:Nat):Int) by rw [HF (by omega)];omega,HH hi,rm hi,VP (g6 _ (sL hi)),sq,HH h,rm h,VN (g6 _ (sL h)),sq,tf h,qV];by_cases ag:qP b row[i+1]=fin b row[i]
    ·rw [if_pos ag,if_neg (by simp [ag]),r4 (i+1) (by omega),abn aj g6 m (i+1) _ rfl h (by omega)]
    ·rw [if_neg ag,if_pos (decide_eq_true (Ne.symm ag))]
   ·rw [JB h,tz (by omega)];rfl
theorem ZG {b:qb}:∀ (l:Row) (a aM:Int) (h:l≠[]),qV b a l=some aM→aM=fin b (l.getLast h)
 | [],_,_,h,_=>absurd rfl h
 | [p],a,aM,_,h=>by
   rw [qV] at h;split at h
   ·rw [qV] at h;cases h;rfl
   ·cases h
 | p::q::r,a,aM,_,h=>by
   rw [qV] at h;split at h
   ·rw [List.getLast_cons (by simp)];exact ZG (q::r) _ aM (by simp) h
   ·cases h
theorem abk (b:qb) (row:Row) (ag:b.2.length≤1000) (aj:row.length≤1000):Mn b row=some (rU b row):=by
 rw [Mn,VI b ag,sq];unfold rU;by_cases aS:ri b≠0
 ·rw [if_pos (decide_eq_true aS),sq,if_pos aS]
 rw [if_neg (by simpa using aS),if_neg aS];cases row with
 | nil=>rfl
 | cons p r =>
   rw [if_neg (by simp;omega),abl aj qe 0 0 rfl (sK _) (rR (by omega)),tb];dsimp only;by_cases ad:(p::r).any (G7 b)=true
   ·rw [if_pos ad,if_pos ad]
   rw [if_neg ad,if_neg ad];(have iN:(p::r).any (G7 b)=false:=by simpa using ad);rw [uF] at iN;(have g6:∀ q∈p::r,G7 b q=false:=fun q a5=>by simpa using iN q a5);rw [abm aj qe 0 0 rfl (sK _) (rR (by omega)),tu,tb];by_cases af:Hw [] (p::r)=true
   ·rw [if_pos af,if_pos af]
   rw [if_neg af,if_neg af,abn aj g6 qe 0 1 rfl (by simp) (rR (by omega))];rw [show qV b (qP b p) (p::r)=qV b (fin b p) r by rw [qV,if_pos rfl]];show (match qV b (fin b p) r with | none=>_ | some _=>_)=_;cases aO:qV b (fin b p) r with
   | none=>rfl
   | some a =>
     have ak:(r.length+1:Nat)=(p::r).length:=rfl;dsimp only
     rw [qx (by simp),show ix (p::r) (0:Int)=p from rfl,VN (g6 p (by simp)),sq,
      show w (((p::r).length:Int)-1)=((r.length:Nat):Int) by rw [HF (by omega)];omega,HH (by simp),rm (by simp),VP (g6 _ (sL _)),sq]
     have:=ZG (p::r) (qP b p) a (by simp) (by rw [qV,if_pos rfl];exact aO);rw [this,List.getLast_eq_getElem];rfl
def Kq (b:qb) (row:Row):Int:=let r:=rU b row;if r.2.2≠0 then r.2.2 else if row.length<b.2.length then 15 else if r.1≠r.2.1 then 27 else 0
theorem SB:∀ (r pre:Row),Hw pre r=false→(pre.map (·.1)).Nodup→((pre++r).map (·.1)).Nodup
 | [],pre,_,h=>by simpa using h
 | p::r,pre,h,aN=>by
   rw [Hw] at h;split at h
   ·cases h
   ·rename_i al
    have:=SB r (pre++[p]) h (by
     rw [List.map_append,uz];refine ⟨aN,by simp,fun a cg c ao=>?_⟩;simp only [sy,List.map_nil,sQ] at ao;subst ao;intro e;apply al;rw [vk];obtain ⟨q,a5,rfl⟩:=sJ.1 cg
     exact ⟨q,a5,by simp [e]⟩)
    simpa using this
theorem ZW:∀ (a b:List Nat),a.Nodup→(∀ x∈a,x∈b)→a.length≤b.length
 | [],_,_,_=>sK _
 | x::a,b,aN,h=>by
   obtain ⟨ad,af⟩:=uA.1 aN;have al:=h x (by simp);have:=ZW a (b.erase x) af fun y a2=>by
    have bO:y≠x:=fun e=>ad (e ▸ a2);exact (List.mem_erase_of_ne bO).2 (h y (by simp [a2]))
   rw [List.length_erase_of_mem al] at this;have:=wD al;simp only [sP];omega
theorem Lq {l:List Int} {n:Nat} (h:l.Nodup) (ag:∀ x∈l,0≤x∧x<(n:Int)):l.length≤n:=by
 have ad:(l.map Int.toNat).Nodup:=by
  rw [List.Nodup,List.pairwise_map];refine h.imp_of_mem fun {a c} cg ao bO e=>bO ?_;have:=ag a cg;have:=ag c ao;omega
 have af:∀ x∈l.map Int.toNat,x∈List.range n:=fun x al=>by
  obtain ⟨y,a2,rfl⟩:=sJ.1 al;have:=ag y a2;exact sX.2 (by omega)
 have:=ZW _ _ ad af;simpa using this
theorem Xi {b:qb} {row:Row} (h:(rU b row).2.2=0):qM b∧row≠[]∧(∀ p∈row,G7 b p=false)∧(row.map (·.1)).Nodup∧qV b (rU b row).1 row=some (rU b row).2.1:=by
 unfold rU at h ⊢;by_cases aS:ri b≠0
 ·rw [if_pos aS] at h;exact absurd h aS
 have p7:=Hi.1 (uY.1 aS);rw [if_neg aS] at h ⊢;cases row with
 | nil=>simp at h
 | cons p r =>
   dsimp only at h ⊢;by_cases ad:(p::r).any (G7 b)=true
   ·rw [if_pos ad] at h;simp at h
   rw [if_neg ad] at h ⊢;(have iN:(p::r).any (G7 b)=false:=by simpa using ad);rw [uF] at iN;(have g6:∀ q∈p::r,G7 b q=false:=fun q a5=>by simpa using iN q a5);by_cases af:Hw [] (p::r)=true
   ·rw [if_pos af] at h;simp at h
   rw [if_neg af] at h ⊢;(have Gc:Hw [] (p::r)=false:=by simpa using af);have a1:=SB (p::r) [] Gc (by simp);rw [ur] at a1;cases aO:qV b (qP b p) (p::r) with
   | none=>rw [aO] at h;simp at h
   | some a=>exact ⟨p7,by simp,g6,a1,aO⟩
theorem abr (b:qb) (row:Row) (ag:b.2.length≤1000) (aj:row.length≤1000):Ms b row=some (Kq b row):=by
 rw [Ms,VG b row ag aj,sq];unfold Kq;dsimp only;by_cases h:(rU b row).2.2=0
 ·rw [if_neg (c:=decide ((rU b row).2.2≠0)=true) (by simp [h]),if_neg (c:=(rU b row).2.2≠0) (by simp [h])];by_cases ad:row.length<b.2.length
  ·rw [if_pos (decide_eq_true (by omega)),if_pos ad]
  ·rw [if_neg (by simp;omega),if_neg ad];by_cases af:(rU b row).1≠(rU b row).2.1
   ·rw [if_pos (decide_eq_true af),if_pos af]
   ·rw [if_neg (by simpa using af),if_neg af]
 ·rw [if_pos (decide_eq_true h),if_pos h]
theorem alW (b:qb) (row:Row) (ag:b.2.length≤1000) (aj:row.length≤1000):NO b row=some (Kq b row):=by
 rw [NO,abk b row ag aj,sq];unfold Kq;dsimp only;by_cases h:(rU b row).2.2=0
 ·rw [if_neg (c:=decide ((rU b row).2.2≠0)=true) (by simp [h]),if_neg (c:=(rU b row).2.2≠0) (by simp [h])];obtain ⟨_,_,aG,a8,_⟩:=Xi h;have bN:row.length≤b.2.length:=by
   have:=Lq (n:=b.2.length) a8 (fun x al=>by
    obtain ⟨p,aC,rfl⟩:=sJ.1 al
    have:=Lw.1 (aG p aC);omega)
   simpa using this
  by_cases ad:row.length<b.2.length
  ·rw [if_pos (decide_eq_true (by omega)),if_pos ad]
  ·rw [if_neg (by simp;omega),if_neg ad];by_cases af:(rU b row).1≠(rU b row).2.1
   ·rw [if_pos (decide_eq_true af),if_pos af]
   ·rw [if_neg (by simpa using af),if_neg af]
 ·rw [if_pos (decide_eq_true h),if_pos h]
end Go.Proofs.YtfakoboiahbhaaaGreat.Ab


namespace Go.Proofs.YtfakoboiahbhaaaGreat.Ab
open Go
set_option maxRecDepth 20000
set_option maxHeartbeats 4000000
noncomputable def ac6:eE :=
 GD [gV 2 [.hP 0] .box,gV 3 [.hP 1] .box,gV 4 [.iK .junk] .i_] (GD [gV 5 [.hS 2,.hS 3] (.zC 113 0 2),Gt 4 5] .ret)
theorem ahZ:zm Tryz.prog W1 89=some (ac6,6,[.tmp 4]):=by kernel_rfl
def Rf (t:qk) (figure:Int):Option Unit :=
 some ()
theorem amS {t:qk} {figure:Int} {v:Unit} (h:Rf t figure=some v):qD 89 [(.bW [(hY t.1),(.ay (t.2.flatMap p4) t.2.length .shared)]),(hY figure)] (.func 113 [] [(.bW [(.bW [(hY t.1),(.ay (t.2.flatMap p4) t.2.length .shared)])]),(.bW [(hY figure)])]):=by
 refine qZ dM ahZ rfl (JT rfl (p5 (rj (p5 (rj (p5 rfl (p5 (q7 (fun _=>(p5 rfl (p5 rfl rfl))) _ _ _) rfl))) rfl)) (p5 (rj (p5 rfl rfl)) rfl))) fun Q bo=>?_;have jG:∀ T H,IP [.tmp 4] (.func 113 [] [(.bW [(.bW [(hY t.1),(p9 t.2 .shared)])]),(.bW [(hY figure)])]) .ret T H→Q .ret T H:=fun T H bK=>bo _ T H bK;unfold Rf at h;unfold ac6;conv=>whnf
 exact jG _ _ ⟨.inr rfl,_,rfl,_,(afr TM (Qe (XN (l:=[(.bW [(hY t.1),(p9 t.2 .shared)])]) (by first | exact qz.h | rfl | (simp [su,I.settle];done)) (p5 (rj (p5 rfl (p5 (q7 (fun _=>(p5 rfl (p5 rfl rfl))) _ _ _) rfl))) rfl)) (Qe (XN (l:=[(hY figure)]) (by first | exact qz.h | rfl | (simp [su,I.settle];done)) (p5 rfl rfl)) TM))),rfl⟩

def Rb (qi:ql→Option ql):Nat→Int→ql→Option ql
 | 0,_,_=>none
 | m+1,s1,s2 =>
   if (decide (s1<(6:Int)))=true then
    qh (0≤s1∧s1<(6:Int)∧6=s2.length) <|
    Rb qi m (w (s1+(1:Int))) (s2.set s1.toNat (-1:Int))
   else
    qi s2
def Pt (t:qk) (NI:Int) (GC:ql) (akh:ql×ql) (e1:(Int×Int)):Option (ql×ql) :=
 match akh with
 | (t1,t2) =>
   (LD t e1).bind fun r2 =>
   if (decide (e1.1≠NI))=true then
    qh (0≤r2.2∧r2.2<(6:Int)∧6=t2.length) <|
    if (decide ((ix t2 r2.2)<(0:Int)))=true then
     qh (0≤(ix GC (0:Int))∧(ix GC (0:Int))<(6:Int)∧6=t2.length) <|
     qh (0≤r2.2∧r2.2<(6:Int)∧6=t2.length) <|
     qh ((t1.length+1)*8≤140737488355328) <|
     some ((t1++[r2.2]),(t2.set r2.2.toNat (w ((ix t2 (ix GC (0:Int)))+(1:Int)))))
    else
     some (t1,t2)
   else
    some (t1,t2)
def Rc (t:qk) (NI:Int) (qT:ql→Option ql):Nat→ql→ql→Option ql
 | 0,_,_=>none
 | m+1,dj,GC =>
   if (decide ((0:Int)<(GC.length:Int)))=true then
    qh (0≤(0:Int)∧(0:Int)<(GC.length:Int)) <|
    qh (0≤(1:Int)∧(1:Int)≤(GC.length:Int)) <|
    (Rf t (ix GC (0:Int))).bind fun r1 =>
    (Lu t (ix GC (0:Int))).bind fun dO =>
    (IC (Pt t NI GC) dO ((GC.drop (1:Int).toNat),dj)).bind fun eJ =>
    Rc t NI qT m eJ.2 eJ.1
   else
    qT dj
def ab2 (t:qk) (to NI:Int):Option ql :=
 Rb (fun x6 =>
   qh (0≤to∧to<(6:Int)∧6=x6.length) <|
   Rc t NI (fun ox =>
     qh (ox.length=6) <|
     qh (ox.length=6∧(List.replicate 6 (0:Int)).length=6) <|
     qh (ox.length=6) <|
     some ox) qe (x6.set to.toNat (0:Int)) [to]) qe (0:Int) (List.replicate 6 (0:Int))
end Go.Proofs.YtfakoboiahbhaaaGreat.Ab


namespace Go.Proofs.YtfakoboiahbhaaaGreat.Ab
open Go
def HG (b:qb) (wo f g:Int):Prop:=∃ p∈G3 b f,p.1≠wo∧fin b p=g
def Ht (b:qb) (wo:Int):Nat→Int→Int→Prop
 | 0,a,g=>a=g
 | n+1,a,g=>∃ f,Ht b wo n a f∧HG b wo f g
def QT (b:qb) (wo f:Int) (s:List Int×List Int) (p:Int×Int):List Int×List Int :=
 if p.1≠wo∧ix s.2 (fin b p)<0 then (s.1++[fin b p],s.2.set (fin b p).toNat (ix s.2 f+1)) else s
theorem aiI {n r:Nat} (h:r<2*n):0≤(rF r).1∧(rF r).1<(n:Int)∧0≤(rF r).2∧(rF r).2≤1:=by
 unfold rF;simp only;omega
theorem TU {b:qb} {f:Int} {p:Int×Int} (h:p∈G3 b f):0≤p.1∧p.1<(b.2.length:Int)∧0≤p.2∧p.2≤1∧qP b p=f:=by
 unfold G3 at h;obtain ⟨r,aj,rfl⟩:=sJ.1 h;obtain ⟨ad,af⟩:=s_.1 aj;have:=aiI (sX.1 ad);exact ⟨this.1,this.2.1,this.2.2.1,this.2.2.2,by simpa [r_] using af⟩
theorem OK {l:List (Int×Int)} {i:Int} (h:0≤i∧i<(l.length:Int)):ix l i∈l:=by
 obtain ⟨k,rfl⟩:∃ k:Nat,i=(k:Int):=⟨i.toNat,by omega⟩;rw [rm (by omega)];exact sL _
theorem PK {b:qb} (p7:qM b) {f:Int} {p:Int×Int} (h:p∈G3 b f):0≤fin b p∧fin b p<b.1:=by
 have h:=TU h;have hm:=OK (l:=b.2) ⟨h.1,h.2.1⟩;unfold fin;split
 ·exact p7.left _ hm
 ·exact p7.right _ hm
def Je (D:List Int):Nat:=D.countP fun x=>decide (x<0)
theorem SM:∀ (D:List Int) (j:Nat) (x:Int) (h:j<D.length),D[j]<0→0≤x→Je (D.set j x)+1=Je D
 | a::D,0,x,_,ad,af=>by
   have ad:a<0:=ad;simp [Je,List.countP_cons,ad,show ¬ x<0 by omega]
 | a::D,j+1,x,h,ad,af=>by
   have:=SM D j x (by simpa using h) ad af;simp only [Je,List.set_cons_succ,List.countP_cons] at this ⊢;omega
theorem amL {b:qb} (p7:qM b) {wo f:Int} {Q0:List Int} (aQ:ix Q0 (0:Int)=f∧0≤f∧f<b.1) {s:List Int×List Int} {p:Int×Int} (aC:p∈G3 b f) (ak:s.2.length=6) (aj:s.1.length+Je s.2≤1000) (a1:-1≤ix s.2 f∧ix s.2 f≤100) :
  Pt b wo Q0 s p=some (QT b wo f s p):=by
 obtain ⟨t1,t2⟩:=s;have ib:=TU aC;have Cs:=PK p7 aC;have bX:=p7.f6;simp only at ak aj a1;rw [Pt];simp only [J0 ⟨ib.1,ib.2.1⟩,sq,aQ.1];unfold QT;by_cases ad:p.1≠wo
 ·rw [if_pos (decide_eq_true ad),qx ⟨by omega,by omega,ak.symm⟩];by_cases af:ix t2 (fin b p)<0
  ·rw [if_pos (decide_eq_true af),qx ⟨by omega,by omega,ak.symm⟩,qx ⟨by omega,by omega,ak.symm⟩,qx (by omega),HF (by omega),if_pos ⟨ad,af⟩]
  ·rw [if_neg (by simpa using af),if_neg (by simp [af])]
 ·rw [if_neg (by simpa using ad),if_neg (by simp [ad])]
structure MP (b:qb) (wo f:Int) (Q0 D0:List Int) (HK:List (Int×Int)) (s:List Int×List Int):Prop where
 len:s.2.length=6
 Xn:s.1.length+Je s.2=Q0.length+Je D0
 fQ:∀ g:Nat,g<6→0≤ix D0 (g:Int)→ix s.2 (g:Int)=ix D0 (g:Int)
 new:∀ g:Nat,g<6→ix D0 (g:Int)<0→ix s.2 (g:Int)=ix D0 (g:Int)∨(ix s.2 (g:Int)=ix D0 f+1∧HG b wo f (g:Int)∧(g:Int)∈s.1)
 anP:∃ N,s.1=Q0++N∧∀ g∈N,0≤g∧g<b.1∧ix s.2 g=ix D0 f+1
 HK:∀ p∈HK,p.1≠wo→0≤ix s.2 (fin b p)
theorem MP.step {b:qb} (p7:qM b) {wo f:Int} {Q0 D0:List Int} (aQ:0≤f∧f<b.1) (a1:0≤ix D0 f) {HK:List (Int×Int)} {s:List Int×List Int} (h:MP b wo f Q0 D0 HK s) {p:Int×Int} (aC:p∈G3 b f):MP b wo f Q0 D0 (HK++[p]) (QT b wo f s p):=by
 obtain ⟨Q,D⟩:=s;obtain ⟨ad,af,aG,a8,⟨N,bN,bX⟩,cQ⟩:=h;simp only at ad af aG a8 bN bX cQ;have Cs:=PK p7 aC;have Ou:=p7.f6;obtain ⟨a,cg⟩:∃ a:Nat,fin b p=(a:Int):=⟨(fin b p).toNat,by omega⟩;obtain ⟨c,ao⟩:∃ c:Nat,f=(c:Int):=⟨f.toNat,by omega⟩;have XY:ix D f=ix D0 f:=by rw [ao];exact aG c (by omega) (by rw [←ao];exact a1)
 unfold QT;by_cases al:p.1≠wo∧ix D (fin b p)<0
 ·rw [if_pos al,cg,tI,XY];have TC:ix D (a:Int)<0:=by rw [←cg];exact al.2
  have Ov:ix D0 (a:Int)<0:=by
   refine Classical.byContradiction fun bK=>?_;have:=aG a (by omega) (by omega);omega
  have afD:D[a]'(by omega)<0:=by rw [rm (by omega)] at TC;exact TC
  have nE:ix (D.set a (ix D0 f+1)) (a:Int)=ix D0 f+1:=L8 (by omega);refine ⟨by simpa using ad,?_,fun g aO yM=>?_,fun g aO yM=>?_,⟨N++[(a:Int)],by simp [bN],fun g aO=>?_⟩,fun q a5 P_=>?_⟩
  ·have:=SM D a (ix D0 f+1) (by omega) afD (by omega);simp only [sA,List.length_singleton];omega
  ·(have bO:g≠a:=fun e=>by subst e;omega);simp only;rw [KQ bO];exact aG g aO yM
  ·by_cases OF:g=a
   ·subst OF;exact .inr ⟨nE,⟨p,aC,al.1,cg⟩,by simp⟩
   ·simp only;rw [KQ OF];rcases a8 g aO yM with e | ⟨e,cm,dJ⟩
    ·exact .inl e
    ·exact .inr ⟨e,cm,by simp [dJ]⟩
  ·rcases te.1 aO with aO | aO
   ·obtain ⟨aJ,aP,cl⟩:=bX g aO;obtain ⟨Ga,rfl⟩:∃ Ga:Nat,g=(Ga:Int):=⟨g.toNat,by omega⟩;refine ⟨aJ,aP,?_⟩;by_cases OF:Ga=a
    ·subst OF;exact nE
    ·simp only;rw [KQ OF];exact cl
   ·simp only [sQ] at aO;subst aO;exact ⟨by omega,by omega,nE⟩
  ·have key:0≤ix D (fin b q)∨fin b q=(a:Int):=by
    rcases te.1 a5 with a5 | a5
    ·exact .inl (cQ q a5 P_)
    ·simp only [sQ] at a5;subst a5;exact .inr cg
   rcases key with key | key
   ·rcases Classical.em (fin b q=(a:Int)) with e | e
    ·simp only;rw [e,nE];omega
    ·have:ix (D.set a (ix D0 f+1)) (fin b q)=ix D (fin b q):=by
      unfold ix;rcases uZ (fin b q) 0 with aN | aN
      ·(have fY:(fin b q).toNat=0:=by omega);rw [fY];rw [sV];by_cases X4:a=0
       ·subst X4;exfalso;have k:=key;unfold ix at k;rw [fY,sV] at k;rw [rm (by omega)] at TC;rw [sI (by omega)] at k;simp at k;omega
       ·rw [sG X4];rfl
      ·rw [sV,sG (by omega)];rfl
     simp only;rw [this];exact key
   ·simp only;rw [key,nE];omega
 ·rw [if_neg al];refine ⟨ad,af,aG,a8,⟨N,bN,bX⟩,fun q a5 P_=>?_⟩;rcases te.1 a5 with a5 | a5
  ·exact cQ q a5 P_
  ·simp only [sQ] at a5;subst a5
   have:¬ ix D (fin b q)<0:=fun e=>al ⟨P_,e⟩
   simp only;omega
theorem XK {b:qb} (p7:qM b) {wo f:Int} {Q0 D0:List Int} (aQ:0≤f∧f<b.1) (a1:0≤ix D0 f) (af3:ix D0 f≤50) {Qh:List Int} (a5:ix Qh (0:Int)=f) (ev:Q0.length+Je D0≤100):∀ (l HK:List (Int×Int)) (s:List Int×List Int),(∀ p∈l,p∈G3 b f)→MP b wo f Q0 D0 HK s →
  ∃ aF,IC (Pt b wo Qh) l s=some aF∧MP b wo f Q0 D0 (HK++l) aF
 | [],HK,s,_,h=>⟨s,rfl,by simpa using h⟩
 | p::l,HK,s,ak,h=>by
   have aC:=ak p (by simp);have Ou:=p7.f6;obtain ⟨c,ao⟩:∃ c:Nat,f=(c:Int):=⟨f.toNat,by omega⟩;(have XY:ix s.2 f=ix D0 f:=by rw [ao];exact h.fQ c (by omega) (by rw [←ao];exact a1));obtain ⟨aF,e1,cm⟩:=XK p7 aQ a1 af3 a5 ev l (HK++[p]) _ (fun q a5=>ak q (by simp [a5])) (h.step p7 aQ a1 aC);have h5:=h.Xn;refine ⟨aF,?_,by simpa using cm⟩;rw [IC,amL p7 ⟨a5,aQ⟩ aC h.len (by omega) (by omega),sq];exact e1
structure J9 (b:qb) (wo to:Int) (Q D:List Int):Prop where
 len:D.length=6
 q:∀ f∈Q,0≤f∧f<b.1∧0≤ix D f
 room:Q.length+Je D≤6
 small:∀ g:Nat,g<6→0≤ix D (g:Int)→ix D (g:Int)+Je D≤5
 walk:∀ g:Nat,g<6→0≤ix D (g:Int)→Ht b wo (ix D (g:Int)).toNat to (g:Int)
 sort:Q.Pairwise fun x y=>ix D x≤ix D y
 top:∀ f r,Q=f::r→∀ g:Nat,g<6→ix D (g:Int)≤ix D f+1
 proc:∀ g:Nat,g<6→0≤ix D (g:Int)→(g:Int) ∉ Q→∀ h,HG b wo (g:Int) h→0≤ix D h∧ix D h≤ix D (g:Int)+1
 zero:0≤to∧to<6∧ix D to=0
theorem HG.in {b:qb} (p7:qM b) {wo f g:Int} (h:HG b wo f g):0≤g∧g<b.1:=by
 obtain ⟨p,ad,_,rfl⟩:=h;exact PK p7 ad
theorem J9.next {b:qb} (p7:qM b) {wo to f:Int} {r D:List Int} (h:J9 b wo to (f::r) D) {s:List Int×List Int} (ai:MP b wo f r D (G3 b f) s):J9 b wo to s.1 s.2:=by
 obtain ⟨cJ,KC⟩:=s;obtain ⟨aJ,aP,cl,jW,⟨N,Dk,L9⟩,Yo⟩:=ai;simp only at aJ aP cl jW Dk L9 Yo;subst Dk;have Ou:=p7.f6;have X7:=h.q f (by simp);obtain ⟨c,ao⟩:∃ c:Nat,f=(c:Int):=⟨f.toNat,by omega⟩;have yU:∀ g:Int,0≤g→g<6→∃ n:Nat,g=(n:Int)∧n<6:=fun g ad af=>⟨g.toNat,by omega,by omega⟩;have hold:∀ g:Int,0≤g→g<6→0≤ix D g→ix KC g=ix D g:=fun g ad af aG=>by
  obtain ⟨n,rfl,aN⟩:=yU g ad af;exact cl n aN aG
 have hle:∀ g:Nat,g<6→ix KC (g:Int)≤ix D f+1:=fun g aO=>by
  rcases uZ (ix D (g:Int)) 0 with aS | aS
  ·rcases jW g aO aS with e | e
   ·omega
   ·omega
  ·rw [cl g aO aS];exact h.top f r rfl g aO
 have aj:∀ x∈r,0≤x∧x<b.1∧0≤ix D x∧ix KC x=ix D x:=fun x al=>by
  have:=h.q x (by simp [al]);exact ⟨this.1,this.2.1,this.2.2,hold x this.1 (by omega) this.2.2⟩
 have Dc:=tD.1 h.sort;have ev:=h.room;simp only [sP] at ev;refine ⟨aJ,fun g aO=>?_,by simp only;omega,fun g aO aS=>?_,fun g aO aS=>?_,?_,fun Ol r' he g aO=>?_,fun g aO aS Tx aY he=>?_,⟨h.zero.1,h.zero.2.1,by simp only;rw [hold to h.zero.1 h.zero.2.1 (by have:=h.zero.2.2;omega)];exact h.zero.2.2⟩⟩
 ·rcases te.1 aO with aO | aO
  ·have:=aj g aO;exact ⟨this.1,this.2.1,by simp only;omega⟩
  ·have:=L9 g aO;exact ⟨this.1,this.2.1,by simp only;omega⟩
 ·have Cv:=h.small c (by omega) (by rw [←ao];omega);rw [←ao] at Cv;simp only [sA] at aP;rcases uZ (ix D (g:Int)) 0 with ad | ad
  ·rcases jW g aO ad with e | e
   ·simp only at aS;omega
   ·have Ca:1≤N.length:=by
     rcases te.1 e.2.2 with dJ | dJ
     ·have:=(aj _ dJ).2.2.1;omega
     ·exact wD dJ
    simp only;omega
  ·have:=h.small g aO ad;simp only;rw [cl g aO ad];omega
 ·rcases uZ (ix D (g:Int)) 0 with ad | ad
  ·rcases jW g aO ad with e | ⟨e,cm,_⟩
   ·simp only at aS;omega
   ·simp only;rw [e,show (ix D f+1).toNat=(ix D f).toNat+1 by omega];exact ⟨f,by have:=h.walk c (by omega) (by rw [←ao];omega);rw [ao];rw [←ao] at this ⊢;exact this,cm⟩
  ·simp only;rw [cl g aO ad];exact h.walk g aO ad
 ·simp only;rw [vt];refine ⟨Dc.2.imp_of_mem fun {x y} al a2 IH=>by rw [(aj x al).2.2.2,(aj y a2).2.2.2];exact IH,?_,fun x al y a2=>?_⟩
  ·exact List.Pairwise.imp_of_mem (R:=fun _ _=>True) (fun {x y} al a2 _=>by rw [(L9 x al).2.2,(L9 y a2).2.2];omega) (List.pairwise_of_forall fun _ _=>trivial)
  ·obtain ⟨n,rfl,aN⟩:=yU x (aj x al).1 (by have:=(aj x al).2.1;omega);rw [(L9 y a2).2.2];exact hle n aN
 ·simp only at he ⊢;have anB:ix D f≤ix KC Ol:=by
   (have hm:Ol∈r++N:=by rw [he];simp);rcases te.1 hm with hm | hm
   ·rw [(aj Ol hm).2.2.2];exact Dc.1 Ol hm
   ·rw [(L9 Ol hm).2.2];omega
  have:=hle g aO;omega
 ·simp only at aS Tx ⊢;have bK:=HG.in p7 he;rcases Classical.em ((g:Int)=f) with e | e
  ·rw [e] at he ⊢;obtain ⟨n,rfl,aN⟩:=yU aY bK.1 (by omega);rw [hold f X7.1 (by omega) X7.2.2];obtain ⟨p,bT,b6,eI⟩:=he;exact ⟨by rw [←eI];exact Yo p bT b6,hle n aN⟩
  ·rcases uZ (ix D (g:Int)) 0 with ad | ad
   ·rcases jW g aO ad with cm | ⟨_,_,dJ⟩
    ·omega
    ·exact absurd dJ Tx
   ·have:=h.proc g aO ad (fun hm=>by
     rcases sH.1 hm with cm | cm
     ·exact e cm
     ·exact Tx (List.mem_append_left _ cm)) aY he
    rw [cl g aO ad,hold aY bK.1 (by omega) this.1];exact this
theorem ab4 {b:qb} (p7:qM b) {wo to:Int} {k:List Int→Option (List Int)}:∀ (m:Nat) (Q D:List Int),J9 b wo to Q D→Q.length+Je D<m→∃ KC,J9 b wo to [] KC∧Rc b wo k m D Q=k KC
 | 0,_,_,_,h=>absurd h (by omega)
 | m+1,Q,D,cp,hm=>by
   rw [Rc];have Ou:=p7.f6;have ak:=p7.len;cases Q with
   | nil=>rw [if_neg (by simp)];exact ⟨D,cp,rfl⟩
   | cons f r =>
     have aQ:=cp.q f (by simp);obtain ⟨c,ao⟩:∃ c:Nat,f=(c:Int):=⟨f.toNat,by omega⟩;have agC:=cp.small c (by omega) (by rw [←ao];omega);rw [←ao] at agC;have ev:=cp.room;simp only [sP] at ev hm;obtain ⟨aF,e1,cm⟩:=XK p7 ⟨aQ.1,aQ.2.1⟩ aQ.2.2 (by omega) (Qh:=f::r) rfl (by omega) (Q0:=r) (D0:=D) (wo:=wo) (G3 b f) [] (r,D) (fun p h=>h) ⟨cp.len,rfl,fun _ _ _=>rfl,fun _ _ _=>.inl rfl,⟨[],by simp,by simp⟩,by simp⟩;rw [ur] at cm;have h5:=cm.Xn;obtain ⟨KC,d1,d2⟩:=ab4 p7 m aF.1 aF.2 (J9.next p7 cp cm) (by omega);refine ⟨KC,d1,?_⟩;rw [if_pos (decide_eq_true (by simp)),qx (by simp),qx ⟨by omega,by simp only [sP];omega⟩,show ix (f::r) (0:Int)=f from rfl,Rf,sq,Lu,if_pos (by omega),sq];show ((IC (Pt b wo (f::r)) (G3 b f) (r,D)).bind _)=_;rw [e1,sq];exact d2
structure N1 (b:qb) (wo to:Int) (D:List Int):Prop where
 len:D.length=6
 walk:∀ g:Nat,g<6→0≤ix D (g:Int)→Ht b wo (ix D (g:Int)).toNat to (g:Int)
 least:∀ (n:Nat) (g:Int),Ht b wo n to g→0≤g∧g<6∧0≤ix D g∧ix D g≤n
 small:∀ g:Nat,g<6→ix D (g:Int)≤5
theorem J9.afd {b:qb} (p7:qM b) {wo to:Int} {D:List Int} (h:J9 b wo to [] D):N1 b wo to D:=by
 have Ou:=p7.f6;refine ⟨h.len,h.walk,fun n=>?_,fun g aO=>?_⟩
 ·induction n with
  | zero =>
    intro g aO;have aO:to=g:=aO;subst aO;have:=h.zero;exact ⟨this.1,this.2.1,by omega,by omega⟩
  | succ n bb =>
    rintro g ⟨f,ad,af⟩;obtain ⟨i1,i2,i3,i4⟩:=bb f ad;obtain ⟨c,rfl⟩:∃ c:Nat,f=(c:Int):=⟨f.toNat,by omega⟩;have aC:=h.proc c (by omega) i3 (by simp) g af;have hi:=HG.in p7 af;exact ⟨hi.1,by omega,aC.1,by omega⟩
 ·rcases uZ (ix D (g:Int)) 0 with ad | ad
  ·omega
  ·have:=h.small g aO ad;omega
theorem ab3 {k:List Int→Option (List Int)}:∀ (m i:Nat) (z:Int) (D:List Int),z=i→i≤6→6-i<m→D.length=6→(∀ j:Nat,j<i→ix D (j:Int)=-1)→Rb k m z D=k (List.replicate 6 (-1))
 | 0,i,_,_,_,_,h,_,_=>absurd h (by omega)
 | m+1,i,_,D,rfl,hi,hm,ak,rk=>by
   rw [Rb];by_cases h:i<6
   ·rw [if_pos (decide_eq_true (by omega)),qx ⟨by omega,by omega,ak.symm⟩,r4 i (by omega),tI];refine ab3 m (i+1) _ _ rfl (by omega) (by omega) (by simpa using ak) fun j aw=>?_;by_cases g7:j=i
    ·subst g7;exact L8 (by omega)
    ·rw [KQ g7];exact rk j (by omega)
   ·rw [if_neg (by simp;omega)];congr 1;refine List.ext_getElem (by simp [ak]) fun j ad af=>?_;have:=rk j (by omega);rw [rm ad] at this;rw [this,wE]
theorem amK {b:qb} (p7:qM b) {wo to:Int} (ax:0≤to∧to<b.1):∃ D,ab2 b to wo=some D∧N1 b wo to D:=by
 have Ou:=p7.f6;obtain ⟨c,ao⟩:∃ c:Nat,to=(c:Int):=⟨to.toNat,by omega⟩;subst ao;have nE:ix ((List.replicate 6 (-1:Int)).set c 0) (c:Int)=0:=L8 (by simp;omega);have P6:∀ g:Nat,g<6→g≠c→ix ((List.replicate 6 (-1:Int)).set c 0) (g:Int)=-1:=fun g aO bO=>by
  rw [KQ bO,rm (by rw [List.length_replicate];omega),wE]
 have Tq:Je ((List.replicate 6 (-1:Int)).set c 0)=5:=by
  have:=SM (List.replicate 6 (-1:Int)) c 0 (by rw [List.length_replicate];omega) (by rw [wE];omega) (by omega);have e:Je (List.replicate 6 (-1:Int))=6:=by decide
  omega
 have cp:J9 b wo (c:Int) [(c:Int)] ((List.replicate 6 (-1:Int)).set c 0):=by
  refine ⟨by simp,fun f aQ=>?_,by rw [Tq];simp,fun g aO aS=>?_,fun g aO aS=>?_,by simp,fun f r he g aO=>?_,fun g aO aS aN h he=>?_,⟨by omega,by omega,nE⟩⟩
  ·simp only [sQ] at aQ;subst aQ;exact ⟨ax.1,ax.2,by rw [nE];omega⟩
  ·by_cases e:g=c
   ·subst e;rw [nE,Tq];omega
   ·rw [P6 g aO e] at aS;omega
  ·by_cases e:g=c
   ·subst e;rw [nE];exact rfl
   ·rw [P6 g aO e] at aS;omega
  ·simp only [List.cons.injEq] at he;obtain ⟨rfl,_⟩:=he;rw [nE];by_cases e:g=c
   ·subst e;rw [nE];omega
   ·rw [P6 g aO e];omega
  ·by_cases e:g=c
   ·subst e;simp at aN
   ·rw [P6 g aO e] at aS;omega
 obtain ⟨D,d1,d2⟩:=ab4 p7 (k:=fun ox =>
         qh (ox.length=6) <|
         qh (ox.length=6∧(List.replicate 6 (0:Int)).length=6) <|
         qh (ox.length=6) <|
         some ox) qe _ _ cp (rR (by rw [Tq];simp))
 refine ⟨D,?_,J9.afd p7 d1⟩;rw [ab2,ab3 qe 0 0 _ rfl (by omega) (rR (by omega)) (by simp) (fun j aw=>absurd aw (by omega)),qx ⟨by omega,by omega,by simp⟩,tI,d2];have:=d1.len;rw [qx this,qx ⟨this,by simp⟩,qx this]
end Go.Proofs.YtfakoboiahbhaaaGreat.Ab


namespace Go.Proofs.YtfakoboiahbhaaaGreat.Ab
open Go
set_option maxRecDepth 20000
set_option maxHeartbeats 4000000
end Go.Proofs.YtfakoboiahbhaaaGreat.Ab


namespace Go.Proofs.YtfakoboiahbhaaaGreat.Ab
open Go
theorem Lp {b:qb} {f:Int} {p:Int×Int}:p∈G3 b f↔0≤p.1∧p.1<(b.2.length:Int)∧0≤p.2∧p.2≤1∧qP b p=f:=by
 refine ⟨TU,fun ⟨ad,af,aG,a8,bN⟩=>?_⟩;have e:rF (2*p.1.toNat+p.2.toNat)=p:=by
  rw [Qp (n:=b.2.length) (by omega) (by omega)];exact Prod.ext (by simp only;omega) (by simp only;omega)
 refine sJ.2 ⟨2*p.1.toNat+p.2.toNat,s_.2 ⟨sX.2 (by omega),?_⟩,e⟩;rw [r_,e];exact decide_eq_true bN
def LU (p:Int×Int):Int×Int:=(p.1,1-p.2)
theorem aeq {b:qb} {p:Int×Int} (h:0≤p.2∧p.2≤1):qP b (LU p)=fin b p:=by
 unfold qP fin LU;simp only;by_cases ad:0<p.2
 ·rw [if_neg (by omega),if_pos ad]
 ·rw [if_pos (by omega),if_neg ad]
theorem afl {b:qb} {p:Int×Int} (h:0≤p.2∧p.2≤1):fin b (LU p)=qP b p:=by
 unfold qP fin LU;simp only;by_cases ad:0<p.2
 ·rw [if_neg (by omega),if_pos ad]
 ·rw [if_pos (by omega),if_neg ad]
theorem HG.symm {b:qb} {wo f g:Int} (h:HG b wo f g):HG b wo g f:=by
 obtain ⟨p,ad,af,aG⟩:=h;have aC:=Lp.1 ad;exact ⟨LU p,Lp.2 ⟨aC.1,aC.2.1,by simp only [LU];omega,by simp only [LU];omega,by rw [aeq ⟨aC.2.2.1,aC.2.2.2.1⟩,aG]⟩,af,by rw [afl ⟨aC.2.2.1,aC.2.2.2.1⟩,aC.2.2.2.2]⟩
theorem Ht.cons {b:qb} {wo:Int}:∀ {n:Nat} {a c g:Int},HG b wo a c→Ht b wo n c g→Ht b wo (n+1) a g
 | 0,a,c,g,h,(k:c=g)=>⟨a,rfl,k ▸ h⟩
 | n+1,a,c,g,h,⟨f,aJ,aP⟩=>⟨f,Ht.cons h aJ,aP⟩
theorem Ht.symm {b:qb} {wo:Int}:∀ {n:Nat} {a g:Int},Ht b wo n a g→Ht b wo n g a
 | 0,_,_,(h:_=_)=>h.symm
 | _+1,_,_,⟨_,ad,af⟩=>Ht.cons af.symm ad.symm
theorem Ht.gU {b:qb} {wo:Int} {n:Nat} {a g:Int} (h:Ht b wo (n+1) a g):∃ c,HG b wo a c∧Ht b wo n c g:=by
 obtain ⟨f,ad,af⟩:=h.symm;exact ⟨f,af.symm,ad.symm⟩
theorem ah9 {b:qb} (p7:qM b) {wo to f:Int} {D:List Int} (rk:N1 b wo to D) {n:Nat} (aQ:0≤f∧f<6) (aN:ix D f=((n+1:Nat):Int)):∃ p∈G3 b f,p.1≠wo∧ix D (fin b p)=(n:Int):=by
 obtain ⟨c,rfl⟩:∃ c:Nat,f=(c:Int):=⟨f.toNat,by omega⟩;have hw:=rk.walk c (by omega) (by omega);rw [aN] at hw;obtain ⟨e,he,hw⟩:=hw.symm.gU;have ak:=rk.least n e hw.symm;have pz:(n:Int)≤ix D e:=by
  refine Classical.byContradiction fun bK=>?_;have af:=rk.walk e.toNat (by omega) (by rw [uH ak.1];exact ak.2.2.1);rw [uH ak.1] at af;have:=(rk.least ((ix D e).toNat+1) (c:Int) ⟨e,af,he.symm⟩).2.2.2;omega
 obtain ⟨p,ad,af,aG⟩:=he;exact ⟨p,ad,af,by rw [aG];omega⟩
end Go.Proofs.YtfakoboiahbhaaaGreat.Ab


namespace Go.Proofs.YtfakoboiahbhaaaGreat.Ab
open Go
set_option maxRecDepth 20000
set_option maxHeartbeats 4000000

end Go.Proofs.YtfakoboiahbhaaaGreat.Ab


namespace Go.Proofs.YtfakoboiahbhaaaGreat.Ab
open Go
set_option maxRecDepth 20000
set_option maxHeartbeats 4000000

end Go.Proofs.YtfakoboiahbhaaaGreat.Ab


namespace Go.Proofs.YtfakoboiahbhaaaGreat.Ab
open Go
def anQ (r:Row) (s:Int):Bool:=r.any fun q=>decide (q.1=s)
theorem Xy {b:qb} (p7:qM b) {wo to:Int} {D:List Int} (rk:N1 b wo to D):∀ (n:Nat) (f:Int),0≤f→f<b.1→ix D f=(n:Int)→∃ l:List Int,l.Nodup∧l.length=n+1∧∀ x∈l,0≤x∧x<b.1∧ix D x≤(n:Int)
 | 0,f,ad,af,h=>⟨[f],by simp,rfl,fun x al=>by simp only [sQ] at al;subst al;exact ⟨ad,af,by omega⟩⟩
 | n+1,f,ad,af,h=>by
   have bX:=p7.f6;obtain ⟨p,bT,_,b6⟩:=ah9 p7 rk ⟨ad,by omega⟩ h;have aQ:=PK p7 bT;obtain ⟨l,dO,kS,Nd⟩:=Xy p7 rk n _ aQ.1 aQ.2 b6;refine ⟨f::l,uA.2 ⟨fun hm=>?_,dO⟩,by simp [kS],fun x al=>?_⟩
   ·have:=(Nd f hm).2.2;omega
   ·rcases sH.1 al with e | e
    ·subst e;exact ⟨ad,af,by omega⟩
    ·have:=Nd x e;exact ⟨this.1,this.2.1,by omega⟩
theorem afe {b:qb} (p7:qM b) {wo to f:Int} {D:List Int} (rk:N1 b wo to D) (ad:0≤f) (af:f<b.1):ix D f<b.1:=by
 rcases uZ (ix D f) 0 with h | h
 ·omega
 ·obtain ⟨l,dO,kS,Nd⟩:=Xy p7 rk (ix D f).toNat f ad af (by omega);have:=Lq (n:=b.1.toNat) dO fun x al=>by have:=Nd x al;omega
  omega
end Go.Proofs.YtfakoboiahbhaaaGreat.Ab


namespace Go.Proofs.YtfakoboiahbhaaaGreat.Ab
open Go
set_option maxRecDepth 20000
set_option maxHeartbeats 4000000
end Go.Proofs.YtfakoboiahbhaaaGreat.Ab


namespace Go.Proofs.YtfakoboiahbhaaaGreat.Ab
open Go
def Hh (b:qb) (wo f g:Int):Prop:=∃ n,Ht b wo n f g
theorem Ht.trans {b:qb} {wo:Int}:∀ {n m:Nat} {a c g:Int},Ht b wo n a c→Ht b wo m c g→Ht b wo (n+m) a g
 | n,0,a,c,g,h,(k:c=g)=>k ▸ h
 | n,m+1,a,c,g,h,⟨f,aJ,aP⟩=>⟨f,Ht.trans h aJ,aP⟩
theorem Hh.refl {b:qb} {wo:Int} (f:Int):Hh b wo f f:=⟨0,rfl⟩
theorem Hh.symm {b:qb} {wo f g:Int} (h:Hh b wo f g):Hh b wo g f:=h.elim fun n h=>⟨n,h.symm⟩
theorem Hh.trans {b:qb} {wo f g h:Int} (ad:Hh b wo f g) (af:Hh b wo g h):Hh b wo f h:=by
 obtain ⟨n,ad⟩:=ad;obtain ⟨m,af⟩:=af;exact ⟨n+m,ad.trans af⟩
theorem HG.Oh {b:qb} {wo f g:Int} (h:HG b wo f g):Hh b wo f g:=⟨1,f,rfl,h⟩
theorem HG.of {b:qb} {wo:Int} {i:Nat} (hi:i<b.2.length) (hw:(i:Int)≠wo):HG b wo (ix b.2 (i:Int)).1 (ix b.2 (i:Int)).2 :=
 ⟨((i:Int),0),Lp.2 ⟨by simp only;omega,by simp only;omega,by simp only;omega,by simp only;omega,rfl⟩,hw,rfl⟩
theorem HG.I2 {b:qb} {wo f g:Int} (h:HG b wo f g):∃ i:Nat,i<b.2.length∧(i:Int)≠wo∧(((ix b.2 (i:Int)).1=f∧(ix b.2 (i:Int)).2=g)∨((ix b.2 (i:Int)).2=f∧(ix b.2 (i:Int)).1=g)):=by
 obtain ⟨p,ad,af,aG⟩:=h;have aC:=Lp.1 ad;refine ⟨p.1.toNat,by omega,by omega,?_⟩;rw [uH aC.1];have a8:=aC.2.2.2.2;unfold qP at a8;unfold fin at aG;by_cases ao:0<p.2
 ·rw [if_pos ao] at a8 aG;exact .inr ⟨a8,aG⟩
 ·rw [if_neg ao] at a8 aG;exact .inl ⟨a8,aG⟩
theorem Hh.short {b:qb} (p7:qM b) {wo f g:Int} (aO:0≤g∧g<b.1) (aQ:0≤f∧f<b.1) (h:Hh b wo f g):∃ n:Nat,(n:Int)<b.1∧Ht b wo n f g:=by
 obtain ⟨D,_,rk⟩:=amK p7 (wo:=wo) aO;obtain ⟨n,h⟩:=h;have ak:=rk.least n f h.symm;have bX:=p7.f6;have aU:=afe p7 rk aQ.1 aQ.2;have hw:=rk.walk f.toNat (by omega) (by rw [uH aQ.1];exact ak.2.2.1);rw [uH aQ.1] at hw;exact ⟨(ix D f).toNat,by omega,hw.symm⟩
theorem Vj {b:qb} (p7:qM b) {i:Nat} (hi:i<b.2.length):0≤(ix b.2 (i:Int)).1∧(ix b.2 (i:Int)).1<b.1∧0≤(ix b.2 (i:Int)).2∧(ix b.2 (i:Int)).2<b.1:=by
 have hm:=OK (l:=b.2) (i:=(i:Int)) ⟨by omega,by omega⟩;have ad:=p7.left _ hm;have af:=p7.right _ hm;exact ⟨ad.1,ad.2,af.1,af.2⟩
def upto (n:Nat):List Int:=(List.range n).map fun (j:Nat)=>(j:Int)
theorem se (n:Nat):(upto n).length=n:=by simp [upto]
theorem KZ (n:Nat):upto (n+1)=upto n++[(n:Int)]:=by simp [upto,List.range_succ]
structure V7 (b:qb) (wo:Int) (S:List Int):Prop where
 len:S.length=b.1.toNat
 Jb:∀ f:Int,0≤f→f<b.1→Hh b wo f (ix S f)∧0≤ix S f∧ix S f<b.1
structure R2 (b:qb) (wo:Int) (S0:List Int) (i:Nat) (S:List Int):Prop extends V7 b wo S where
 mono:∀ f:Int,0≤f→f<b.1→ix S f≤ix S0 f
 done:∀ j:Nat,j<i→(j:Int)≠wo→ix S (ix b.2 (j:Int)).1≤ix S0 (ix b.2 (j:Int)).2∧ix S (ix b.2 (j:Int)).2≤ix S0 (ix b.2 (j:Int)).1
theorem agY {S:List Int} {x y f v:Int} (al:0≤x∧x<(S.length:Int)) (a2:0≤y∧y<(S.length:Int)) (aQ:0≤f∧f<(S.length:Int)):ix ((S.set x.toNat v).set y.toNat v) f=if f=x∨f=y then v else ix S f:=by
 obtain ⟨a,rfl⟩:∃ a:Nat,x=(a:Int):=⟨x.toNat,by omega⟩;obtain ⟨c,rfl⟩:∃ c:Nat,y=(c:Int):=⟨y.toNat,by omega⟩;obtain ⟨e,rfl⟩:∃ e:Nat,f=(e:Int):=⟨f.toNat,by omega⟩;rw [tI,tI];by_cases ad:e=c
 ·subst ad;rw [L8 (by simp;omega),if_pos (.inr rfl)]
 ·rw [KQ ad];by_cases af:e=a
  ·subst af;rw [L8 (by omega),if_pos (.inl rfl)]
  ·rw [KQ af,if_neg (by omega)]
theorem R2.step {b:qb} (p7:qM b) {wo:Int} {S0 S:List Int} {i:Nat} (h:R2 b wo S0 i S) (hi:i<b.2.length) (hw:(i:Int)≠wo) :
  R2 b wo S0 (i+1) ((S.set (ix b.2 (i:Int)).1.toNat (min (ix S (ix b.2 (i:Int)).1) (ix S (ix b.2 (i:Int)).2))).set (ix b.2 (i:Int)).2.toNat (min (ix S (ix b.2 (i:Int)).1) (ix S (ix b.2 (i:Int)).2))):=by
 have ai:=Vj p7 hi;have he:=HG.of hi hw;obtain ⟨x,al⟩:∃ x,x=(ix b.2 (i:Int)).1:=⟨_,rfl⟩;obtain ⟨y,a2⟩:∃ y,y=(ix b.2 (i:Int)).2:=⟨_,rfl⟩;rw [←al,←a2] at ai he;rw [←al,←a2];have ak:=h.len;have P3:∀ f:Int,0≤f→f<b.1→_:=fun f ad af=>agY (S:=S) (x:=x) (y:=y) (f:=f) (v:=min (ix S x) (ix S y)) ⟨ai.1,by omega⟩ ⟨ai.2.2.1,by omega⟩ ⟨ad,by omega⟩;have Tm:=h.Jb x ai.1 ai.2.1;have Tn:=h.Jb y ai.2.2.1 ai.2.2.2;have hle:∀ f:Int,0≤f→f<b.1→ix ((S.set x.toNat (min (ix S x) (ix S y))).set y.toNat (min (ix S x) (ix S y))) f≤ix S f:=fun f ad af=>by
  rw [P3 f ad af];split
  ·rename_i e;rcases e with rfl | rfl <;> omega
  ·exact Int.le_refl _
 refine ⟨⟨by simpa using ak,fun f ad af=>?_⟩,fun f ad af=>vG (hle f ad af) (h.mono f ad af),fun j aw agc=>?_⟩
 ·rw [P3 f ad af];split
  ·rename_i e;rcases Int.le_total (ix S x) (ix S y) with hm | hm
   ·rw [Int.min_eq_left hm];refine ⟨?_,Tm.2⟩;rcases e with rfl | rfl
    ·exact Tm.1
    ·exact he.symm.Oh.trans Tm.1
   ·rw [Int.min_eq_right hm];refine ⟨?_,Tn.2⟩;rcases e with rfl | rfl
    ·exact he.Oh.trans Tn.1
    ·exact Tn.1
  ·exact h.Jb f ad af
 ·have ej:j<i∨j=i:=by omega
  rcases ej with ej | rfl
  ·have M_:=Vj p7 (i:=j) (by omega);obtain ⟨d1,d2⟩:=h.done j ej agc;exact ⟨vG (hle _ M_.1 M_.2.1) d1,vG (hle _ M_.2.2.1 M_.2.2.2) d2⟩
  ·rw [←al,←a2,P3 x ai.1 ai.2.1,P3 y ai.2.2.1 ai.2.2.2,if_pos (.inl rfl),if_pos (.inr rfl)];have dh:=h.mono x ai.1 ai.2.1;have di:=h.mono y ai.2.2.1 ai.2.2.2;omega
structure R0 (b:qb) (wo:Int) (N:List Int):Prop extends V7 b wo N where
 least:∀ f g:Int,0≤f→f<b.1→0≤g→g<b.1→Hh b wo f g→ix N f≤g
theorem R0.iff {b:qb} {wo:Int} {N:List Int} (h:R0 b wo N) {f g:Int} (aQ:0≤f∧f<b.1) (aO:0≤g∧g<b.1):ix N f=ix N g↔Hh b wo f g:=by
 have a:=h.Jb f aQ.1 aQ.2;have c:=h.Jb g aO.1 aO.2;refine ⟨fun e=>a.1.trans (by rw [e];exact c.1.symm),fun e=>?_⟩;have dO:=h.least f (ix N g) aQ.1 aQ.2 c.2.1 c.2.2 (e.trans c.1);have kS:=h.least g (ix N f) aO.1 aO.2 a.2.1 a.2.2 (e.symm.trans a.1);omega
end Go.Proofs.YtfakoboiahbhaaaGreat.Ab


namespace Go.Proofs.YtfakoboiahbhaaaGreat.Ab
open Go
theorem Vd:∀ {a b:List Int},a.Pairwise (·<·)→b.Pairwise (·<·)→(∀ x,x∈a↔x∈b)→a=b
 | [],[],_,_,_=>rfl
 | [],y::b,_,_,h=>by have:=(h y).2 (by simp);simp at this
 | x::a,[],_,_,h=>by have:=(h x).1 (by simp);simp at this
 | x::a,y::b,cg,ag,h=>by
   obtain ⟨aB,aH⟩:=tD.1 cg;obtain ⟨br,cL⟩:=tD.1 ag;have IH:x=y:=by
    rcases sH.1 ((h x).1 (by simp)) with e | e
    ·exact e
    ·rcases sH.1 ((h y).2 (by simp)) with cm | cm
     ·exact cm.symm
     ·have:=aB y cm;have:=br x e;omega
   subst IH;rw [Vd aH cL fun z=>?_];constructor
   ·intro bp;rcases sH.1 ((h z).1 (by simp [bp])) with e | e
    ·have:=aB z bp;omega
    ·exact e
   ·intro bp;rcases sH.1 ((h z).2 (by simp [bp])) with e | e
    ·have:=br z bp;omega
    ·exact e
theorem O_ {α:Type} [Inhabited α] {lt:α→α→Bool} (ai:Sort.SWO lt) (l:List α):((Sort.insertionSort lt l.toArray 0 l.length).toList).Perm l∧((Sort.insertionSort lt l.toArray 0 l.length).toList).Pairwise (fun x y=>lt y x=false):=by
 obtain ⟨⟨ad,_,aG⟩,a8⟩:=Sort.insertionSort_holds (lt:=lt) ai l.toArray 0 l.length (sK _) (by simp);generalize Sort.insertionSort lt l.toArray 0 l.length=d at ad aG a8;have ad:d.size=l.length:=by simpa using ad
 have e1:(d.extract 0 l.length).toList=d.toList:=by rw [←ad];simp
 have cm:(l.toArray.extract 0 l.length).toList=l:=by simp
 rw [e1,cm] at aG;refine ⟨aG,tB.2 fun i j hi aw g5=>?_⟩;have hi':i<d.size:=by simpa using hi
 have ej:j<d.size:=by simpa using aw
 have:=a8 i j (sK _) g5 (by omega);rw [getElem!_pos d i hi',getElem!_pos d j ej] at this;simpa using this
theorem ZS (l:List Int):(G6 l).Perm l:=(O_ Sort.swo_ltInt l).1
theorem aka {l:List Int} (h:l.Nodup):(G6 l).Pairwise (·<·):=by
 have aQ:=O_ Sort.swo_ltInt l;have aN:(G6 l).Nodup:=aQ.1.nodup_iff.2 h;refine tB.2 fun i j hi aw g5=>?_;have ad:=tB.1 aQ.2 i j hi aw g5;have af:=tB.1 aN i j hi aw g5;simp only [Sort.ltInt,decide_eq_false_iff_not] at ad;have ad:¬ (G6 l)[j]<(G6 l)[i]:=ad;omega
theorem ZZ:Sort.SWO Ii:=by
 constructor
 all_goals intros
 all_goals simp only [Ii,decide_eq_true_eq,decide_eq_false_iff_not] at *
 all_goals omega
theorem ake (l:List (List Int)):(I4 l).Perm l:=(O_ ZZ l).1
theorem akf {l:List (List Int)} (h:l.Pairwise fun x y=>ix x 0≠ix y 0):(I4 l).Pairwise fun x y=>ix x 0<ix y 0:=by
 have aQ:=O_ ZZ l;have aN:(I4 l).Pairwise fun x y=>ix x 0≠ix y 0:=aQ.1.symm.pairwise h fun {x y} IH=>Ne.symm IH;refine tB.2 fun i j hi aw g5=>?_;have ad:=tB.1 aQ.2 i j hi aw g5;have af:=tB.1 aN i j hi aw g5;simp only [Ii,decide_eq_false_iff_not] at ad;have ad:¬ ix (I4 l)[j] 0<ix (I4 l)[i] 0:=ad;omega
theorem ZA:∀ {P Q:List (List Int)},P.Pairwise (fun x y=>ix x 0<ix y 0)→Q.Pairwise (fun x y=>ix x 0<ix y 0)→(∀ r,r∈P↔r∈Q)→P=Q
 | [],[],_,_,_=>rfl
 | [],y::b,_,_,h=>by have:=(h y).2 (by simp);simp at this
 | x::a,[],_,_,h=>by have:=(h x).1 (by simp);simp at this
 | x::a,y::b,cg,ag,h=>by
   obtain ⟨aB,aH⟩:=tD.1 cg;obtain ⟨br,cL⟩:=tD.1 ag;have IH:x=y:=by
    rcases sH.1 ((h x).1 (by simp)) with e | e
    ·exact e
    ·rcases sH.1 ((h y).2 (by simp)) with cm | cm
     ·exact cm.symm
     ·have:=aB y cm;have:=br x e;omega
   subst IH;rw [ZA aH cL fun z=>?_];constructor
   ·intro bp;rcases sH.1 ((h z).1 (by simp [bp])) with e | e
    ·subst e;have:=aB z bp;omega
    ·exact e
   ·intro bp;rcases sH.1 ((h z).2 (by simp [bp])) with e | e
    ·subst e;have:=br z bp;omega
    ·exact e
end Go.Proofs.YtfakoboiahbhaaaGreat.Ab


namespace Go.Proofs.YtfakoboiahbhaaaGreat.Ab
open Go
def re (b:qb) (i f:Int):Prop:=(ix b.2 i).1=f∨(ix b.2 i).2=f
inductive rV (b:qb) (S:List Int) (f:Int):Int→Prop
 | refl:rV b S f f
 | step {g h:Int} (i:Int):rV b S f g→i∈S→re b i g→re b i h→rV b S f h
theorem rV.trans {b:qb} {S:List Int} {f g h:Int} (ad:rV b S f g) (af:rV b S g h):rV b S f h:=by
 induction af with
 | refl=>exact ad
 | step i _ hi aB aH bb=>exact .step i bb hi aB aH
theorem rV.one {b:qb} {S:List Int} {f g i:Int} (hi:i∈S) (ad:re b i f) (af:re b i g):rV b S f g:=.step i .refl hi ad af
theorem rV.symm {b:qb} {S:List Int} {f g:Int} (h:rV b S f g):rV b S g f:=by
 induction h with
 | refl=>exact .refl
 | step i _ hi aB aH bb=>exact (rV.one hi aH aB).trans bb
theorem rV.mono {b:qb} {S S':List Int} {f g:Int} (cp:∀ x∈S,x∈S') (h:rV b S f g):rV b S' f g:=by
 induction h with
 | refl=>exact .refl
 | step i _ hi aB aH bb=>exact .step i bb (cp i hi) aB aH
def QV (b:qb) (i k:Int):Bool:=JF (ix b.2 i) (ix b.2 k)
theorem aau {b:qb} {i k:Int}:QV b i k=true↔∃ f,re b i f∧re b k f:=by
 unfold QV JF re;simp only [tX,decide_eq_true_eq];constructor
 ·rintro (((h | h) | h) | h)
  ·exact ⟨_,.inl rfl,.inl h.symm⟩
  ·exact ⟨_,.inl rfl,.inr h.symm⟩
  ·exact ⟨_,.inr rfl,.inl h.symm⟩
  ·exact ⟨_,.inr rfl,.inr h.symm⟩
 ·rintro ⟨f,ad | ad,af | af⟩ <;> omega
def ID (b:qb) (s:Int) (r:List Int):Bool:=r.any (QV b s)
structure rz (b:qb) (S:List Int) (out:List (List Int)):Prop where
 ne:∀ r∈out,r≠[]
 II:∀ r∈out,r.Pairwise (·<·)
 mem:∀ x,x∈S↔∃ r∈out,x∈r
 rP:out.Pairwise fun r q=>∀ x∈r,x ∉ q
 Jb:∀ r∈out,∀ x∈r,∀ y∈r,∀ f g,re b x f→re b y g→rV b S f g
 sep:∀ r∈out,∀ q∈out,∀ x∈r,∀ y∈q,∀ f,re b x f→re b y f→r=q
def own (b:qb) (out:List (List Int)) (s:Int):List Int:=s::(out.filter (ID b s)).flatten
def zJ (b:qb) (out:List (List Int)) (s:Int):List (List Int):=(out.filter fun r=>!ID b s r)++[G6 (own b out s)]
section
variable {b:qb} {S:List Int} {out:List (List Int)} {s:Int}
theorem rz.uniq (h:rz b S out) {r q:List Int} {x:Int} (aj:r∈out) (a5:q∈out) (ad:x∈r) (af:x∈q):r=q:=h.sep r aj q a5 x ad x af _ (.inl rfl) (.inl rfl)
theorem YM {x:Int}:x∈own b out s↔x=s∨∃ r∈out,ID b s r=true∧x∈r:=by
 unfold own;simp only [sH,tZ,s_,and_assoc]
theorem rz.Y2 (h:rz b S out) (ai:s ∉ S):(own b out s).Nodup:=by
 unfold own;refine uA.2 ⟨fun hm=>?_,?_⟩
 ·obtain ⟨r,aj,al⟩:=tZ.1 hm;exact ai ((h.mem s).2 ⟨r,(s_.1 aj).1,al⟩)
 ·refine List.pairwise_flatten.2 ⟨fun r aj=>(h.II r (s_.1 aj).1).imp fun IH e=>by omega,(h.rP.filter _).imp fun KP x al y a2 e=>KP x al (by rw [e];exact a2)⟩
theorem rz.step (h:rz b S out) (ai:s ∉ S):rz b (S++[s]) (zJ b out s):=by
 have jQ:=h.Y2 ai;have M9:∀ x,x∈G6 (own b out s)↔x=s∨∃ r∈out,ID b s r=true∧x∈r:=fun x=>by rw [(ZS _).mem_iff];exact YM
 have Kh:∀ r,r∈zJ b out s↔(r∈out∧ID b s r=false)∨r=G6 (own b out s):=fun r=>by
  unfold zJ;simp only [te,s_,sQ,Bool.not_eq_true']
 have Jj:∀ x∈S,x∈S++[s]:=fun x al=>by simp [al]
 have Yf:∀ x∈G6 (own b out s),∀ f,re b x f→rV b (S++[s]) (ix b.2 s).1 f:=fun x al f aQ=>by
  rcases (M9 x).1 al with rfl | ⟨r,aj,bK,JQ⟩
  ·exact .one (by simp) (.inl rfl) aQ
  ·obtain ⟨k,av,ax⟩:=vk.1 bK;obtain ⟨g,cd,b_⟩:=aau.1 ax;exact (rV.one (i:=s) (by simp) (.inl rfl) cd).trans ((h.Jb r aj k av x JQ g f b_ aQ).mono Jj)
 have ga:∀ r∈out,ID b s r=false→∀ x∈r,∀ y∈G6 (own b out s),∀ f,re b x f→re b y f→False:=fun r aj bK x al y a2 f f1 f2=>by
  rcases (M9 y).1 a2 with rfl | ⟨q,a5,CZ,agO⟩
  ·have:ID b y r=true:=vk.2 ⟨x,al,aau.2 ⟨f,f2,f1⟩⟩
   rw [this] at bK;cases bK
  ·obtain rfl:=h.sep r aj q a5 x al y agO f f1 f2;rw [CZ] at bK;cases bK
 refine ⟨fun r aj=>?_,fun r aj=>?_,fun x=>?_,?_,fun r aj x al y a2 f g aQ aO=>?_,fun r aj q a5 x al y a2 f aQ aO=>?_⟩
 ·rcases (Kh r).1 aj with ⟨ad,_⟩ | rfl
  ·exact h.ne r ad
  ·intro e;have:=(M9 s).2 (.inl rfl);rw [e] at this;cases this
 ·rcases (Kh r).1 aj with ⟨ad,_⟩ | rfl
  ·exact h.II r ad
  ·exact aka jQ
 ·constructor
  ·intro al;rcases te.1 al with al | al
   ·obtain ⟨r,aj,JQ⟩:=(h.mem x).1 al;cases bK:ID b s r with
    | true=>exact ⟨_,(Kh _).2 (.inr rfl),(M9 x).2 (.inr ⟨r,aj,bK,JQ⟩)⟩
    | false=>exact ⟨r,(Kh r).2 (.inl ⟨aj,bK⟩),JQ⟩
   ·exact ⟨_,(Kh _).2 (.inr rfl),(M9 x).2 (.inl (by simpa using al))⟩
  ·rintro ⟨r,aj,JQ⟩;rcases (Kh r).1 aj with ⟨ad,_⟩ | rfl
   ·exact Jj x ((h.mem x).2 ⟨r,ad,JQ⟩)
   ·rcases (M9 x).1 JQ with rfl | ⟨q,a5,_,Na⟩
    ·simp
    ·exact Jj x ((h.mem x).2 ⟨q,a5,Na⟩)
 ·unfold zJ;refine vt.2 ⟨h.rP.filter _,by simp,fun r aj q a5 x al Na=>?_⟩;simp only [sQ] at a5;subst a5;have aj:=s_.1 aj;exact ga r aj.1 (by simpa using aj.2) x al x Na _ (.inl rfl) (.inl rfl)
 ·rcases (Kh r).1 aj with ⟨ad,_⟩ | rfl
  ·exact (h.Jb r ad x al y a2 f g aQ aO).mono Jj
  ·exact (Yf x al f aQ).symm.trans (Yf y a2 g aO)
 ·rcases (Kh r).1 aj with ⟨ad,af⟩ | rfl
  ·rcases (Kh q).1 a5 with ⟨aG,_⟩ | rfl
   ·exact h.sep r ad q aG x al y a2 f aQ aO
   ·exact (ga r ad af x al y a2 f aQ aO).elim
  ·rcases (Kh q).1 a5 with ⟨aG,a8⟩ | rfl
   ·exact (ga q aG a8 y a2 x al f aO aQ).elim
   ·rfl
theorem rz.perm {G4:List (List Int)} (h:rz b S out) (aC:G4.Perm out):rz b S G4:=by
 refine ⟨fun r aj=>h.ne r (aC.mem_iff.1 aj),fun r aj=>h.II r (aC.mem_iff.1 aj),fun x=>?_,aC.symm.pairwise h.rP fun {r q} KP x al iX=>KP x iX al,fun r aj=>h.Jb r (aC.mem_iff.1 aj),fun r aj q a5=>h.sep r (aC.mem_iff.1 aj) q (aC.mem_iff.1 a5)⟩;rw [h.mem x];exact ⟨fun ⟨r,aj,al⟩=>⟨r,aC.mem_iff.2 aj,al⟩,fun ⟨r,aj,al⟩=>⟨r,aC.mem_iff.1 aj,al⟩⟩
theorem rz.closed (h:rz b S out) {q:List Int} (a5:q∈out) {x:Int} (al:x∈q) {f g:Int} (aQ:re b x f) (ao:rV b S f g):∀ z∈S,re b z g→z∈q:=by
 induction ao with
 | refl =>
   intro z bp TF;obtain ⟨r,aj,fO⟩:=(h.mem z).1 bp;rw [h.sep q a5 r aj x al z fO f aQ TF];exact fO
 | step i _ hi aB aH bb =>
   intro z bp TF;have l3:=bb i hi aB;obtain ⟨r,aj,fO⟩:=(h.mem z).1 bp;rw [h.sep q a5 r aj i l3 z fO _ aH TF];exact fO
theorem rz.same {P Q:List (List Int)} (Cb:rz b S P) (bo:rz b S Q) (ad:P.Pairwise fun x y=>ix x 0<ix y 0) (af:Q.Pairwise fun x y=>ix x 0<ix y 0):P=Q:=by
 have key:∀ {P Q:List (List Int)},rz b S P→rz b S Q→∀ r∈P,r∈Q:=fun {P Q} Cb bo r aj=>by
  obtain ⟨x,al⟩:=List.exists_mem_of_ne_nil r (Cb.ne r aj);have agK:=(Cb.mem x).2 ⟨r,aj,al⟩;obtain ⟨q,a5,Na⟩:=(bo.mem x).1 agK;have e:r=q:=Vd (Cb.II r aj) (bo.II q a5) fun y=>by
   constructor
   ·intro a2;exact bo.closed a5 Na (.inl rfl) (Cb.Jb r aj x al y a2 _ _ (.inl rfl) (.inl rfl)) y ((Cb.mem y).2 ⟨r,aj,a2⟩) (.inl rfl)
   ·intro a2;exact Cb.closed aj al (.inl rfl) (bo.Jb q a5 x Na y a2 _ _ (.inl rfl) (.inl rfl)) y ((bo.mem y).2 ⟨q,a5,a2⟩) (.inl rfl)
  rw [e];exact a5
 exact ZA ad af fun r=>⟨key Cb bo r,key bo Cb r⟩
end
end Go.Proofs.YtfakoboiahbhaaaGreat.Ab


namespace Go.Proofs.YtfakoboiahbhaaaGreat.Ab
open Go
def rL (b:qb) (l:List Int):Prop:=∀ x∈l,0≤x∧x<(b.2.length:Int)
section
variable {b:qb} {S:List Int} {out:List (List Int)} {s:Int}
theorem acb {r:List Int} (ag:b.2.length≤1000) (aj:rL b r) (ai:0≤s∧s<(b.2.length:Int)) (ak:r.length≤1000):MK r b s=some (ID b s r):=by
 rw [MK,VW (p:=QV b s) (fun k av=>by
  rw [Rl,Vy,qx ai,qx (aj k av)];rfl) (by omega),sq];rfl
theorem KS {l:List Int} (aN:l.Nodup) (ak:rL b l):l.length≤b.2.length:=Lq aN ak
theorem Tb (ag:b.2.length≤1000) (ai:0≤s∧s<(b.2.length:Int)):∀ (out:List (List Int)) (acc:List Int),(∀ r∈out,rL b r∧r.length≤1000)→(acc++(out.filter (ID b s)).flatten).length≤1000 →
  IC (PY b s) out acc=some (acc++(out.filter (ID b s)).flatten)
 | [],acc,_,_=>by simp [IC]
 | r::out,acc,h,ak=>by
   have aj:=h r (by simp);rw [IC,PY,acb ag aj.1 ai aj.2,sq];rw [tr] at ak ⊢;cases bK:ID b s r with
   | true =>
     rw [bK,if_pos rfl,tG,←sD] at ak;have fg:acc.length+r.length≤1000:=by
      rw [sA,sA] at ak;omega
     rw [if_pos rfl,qx (by omega),sq,Tb ag ai out _ (fun q a5=>h q (by simp [a5])) ak,if_pos rfl,tG,sD]
   | false =>
     rw [bK] at ak;rw [if_neg (by decide),sq,Tb ag ai out _ (fun q a5=>h q (by simp [a5])) (by simpa using ak),if_neg (by decide)]
theorem Xo {f:List Int→Option Bool} {p:List Int→Bool}:∀ (l:List (List Int)),(∀ r∈l,f r=some (p r))→LR f l=some (l.filter fun r=>!p r)
 | [],_=>rfl
 | r::l,h=>by
   rw [LR,h r (by simp),sq,Xo l fun q a5=>h q (by simp [a5]),sq,tr];cases p r <;> rfl
theorem Y7:∀ (l:List (List Int)),(∀ r∈l,r≠[])→l.length≤l.flatten.length
 | [],_=>Nat.le_refl _
 | r::l,h=>by
   have:=Y7 l fun q a5=>h q (by simp [a5]);have:=List.length_pos_iff.2 (h r (by simp));simp only [tG,sA,sP];omega
theorem rz.XH (h:rz b S out):out.flatten.Nodup :=
 List.pairwise_flatten.2 ⟨fun r aj=>(h.II r aj).imp fun IH e=>by omega,h.rP.imp fun KP x al y a2 e=>KP x al (by rw [e];exact a2)⟩
theorem rz.L7 (h:rz b S out) (cp:rL b S):∀ r∈out,rL b r:=fun r aj x al=>cp x ((h.mem x).2 ⟨r,aj,al⟩)
theorem rz.Kb (h:rz b S out) (cp:rL b S):out.length≤b.2.length:=by
 refine Nat.le_trans (Y7 out h.ne) (KS h.XH fun x al=>?_);obtain ⟨r,aj,al⟩:=tZ.1 al;exact h.L7 cp r aj x al
theorem aix (ag:b.2.length≤10) (cp:rL b S) (h:rz b S out) (ai:s ∉ S) (dR:0≤s∧s<(b.2.length:Int)):OO b out s=some (zJ b out s):=by
 have g6:=h.L7 cp;have C6:∀ r∈out,r.length≤10:=fun r aj=>by
  have:=KS ((h.II r aj).imp fun IH e=>by omega:r.Nodup) (g6 r aj);omega
 have fM:(own b out s).length≤10:=by
  have agt:rL b (own b out s):=fun x al=>by
   rcases YM.1 al with e | ⟨r,aj,_,JQ⟩
   ·rw [e];exact dR
   ·exact g6 r aj x JQ
  have:=KS (h.Y2 ai) agt;omega
 have aQ:=h.Kb cp;have X6:=Tb (by omega) dR out [s] (fun r aj=>⟨g6 r aj,by have:=C6 r aj;omega⟩) (by have:[s]++(out.filter (ID b s)).flatten=own b out s:=rfl;rw [this];omega);rw [show [s]++(out.filter (ID b s)).flatten=own b out s from rfl] at X6;rw [OO,X6,sq,qx ⟨by omega,by unfold own;simp,by omega⟩,Xo (p:=ID b s) out (fun r aj=>acb (by omega) (g6 r aj) dR (by have:=C6 r aj;omega)),sq];rfl
theorem Y8 (ag:b.2.length≤10):∀ (R S:List Int) (out:List (List Int)),(S++R).Nodup→rL b (S++R)→rz b S out→∃ G4,IC (OO b) R out=some G4∧rz b (S++R) G4
 | [],S,out,_,_,h=>⟨out,rfl,by simpa using h⟩
 | s::R,S,out,aN,g6,h=>by
   have ai:s ∉ S:=fun ai=>by
    have:=(uz.1 aN).2.2 s ai s (by simp);exact this rfl
   (have e:S++s::R=(S++[s])++R:=by simp);obtain ⟨G4,ad,af⟩:=Y8 ag R (S++[s]) (zJ b out s) (by rw [←e];exact aN) (by rw [←e];exact g6) (h.step ai);refine ⟨G4,?_,by rw [e];exact af⟩;rw [IC,aix ag (fun x al=>g6 x (by simp [al])) h ai (g6 s (by simp)),sq,ad]
theorem rz.nil:rz b [] []:=⟨fun r aj=>absurd aj (by simp),fun r aj=>absurd aj (by simp),fun x=>by simp,.nil,fun r aj=>absurd aj (by simp),fun r aj=>absurd aj (by simp)⟩
theorem head_mem {r:List Int} (h:r≠[]):ix r 0∈r:=by
 cases r with
 | nil=>exact absurd rfl h
 | cons a r=>simp [ix]
theorem ab0 (ag:b.2.length≤10) (aN:S.Nodup) (g6:rL b S):∃ out,K2 b S=some out∧rz b S out∧out.Pairwise fun x y=>ix x 0<ix y 0:=by
 obtain ⟨out,ad,af⟩:=Y8 ag S [] [] (by simpa using aN) (by simpa using g6) rz.nil;rw [ur] at af;have aC:=af.perm (ake out);have ak:=KS aN g6;refine ⟨I4 out,?_,aC,akf (af.rP.imp_of_mem fun {r q} aj a5 KP e=>KP _ (head_mem (af.ne r aj)) (by rw [e];exact head_mem (af.ne q a5)))⟩;have aQ:=af.Kb g6;have db:out.all Nw=true:=List.all_eq_true.2 fun r aj=>by
  have hm:=head_mem (af.ne r aj);have hi:=af.L7 g6 r aj _ hm;have he:(!r.isEmpty)=true:=by
   cases r with
   | nil=>exact absurd rfl (af.ne [] aj)
   | cons a r=>rfl
  rw [Nw,he,decide_eq_true hi.1,decide_eq_true (by omega)];rfl
 rw [K2,qx (by omega),ad,sq,qx ⟨by omega,db⟩]
end
end Go.Proofs.YtfakoboiahbhaaaGreat.Ab


namespace Go.Proofs.YtfakoboiahbhaaaGreat.Ab
open Go
set_option maxRecDepth 20000
set_option maxHeartbeats 4000000
noncomputable def Pw:eE :=
 .loop (some (ED false [3,1,6,2,8])) (GD [gV 12 [.sl 11,.sl 10] (.bin .lss)] (.seq (.cond (.sl 12) .skip (.exit 0)) (.seq (.block 1 (GD [Gs 13 11,Gt 4 13] (Gw [Gt 14 3,Gt 15 4,gV 16 [.hS 15] (.yg 1 1 [.int .i64 0] [0]),gV 17 [.hP 14,.hP 16] (.app 1 8),Gt 3 17]))) (Gw [F3 18 11 1,Gt 11 18]))))
noncomputable def V3:eE :=
 GD [gV 2 [.iK (.ay [] 0 .full)] (.nil 1)] (GD [gV 3 [.iK (.ay [] 0 .full)] (.nil 1)] (.seq (GD [Gt 5 0,gV 6 [.hS 5] .zI,F_ 7 6 0,F_ 8 7 1,Gq 9 8,Gp 10 9,Gr 11 0] (.block 0 Pw)) (GD [Gt 19 3,Gt 2 19] .ret)))
theorem YG:zm Tryz.prog Sf 77=some (V3,20,[.tmp 2]):=by kernel_rfl
def MF (t:qk) (qi:ql→Option ql):Nat→ql→Int→Option ql
 | 0,_,_=>none
 | m+1,s1,s2 =>
   if (decide (s2<(t.2.length:Int)))=true then
    qh ((s1.length+1)*8≤140737488355328) <|
    MF t qi m (s1++[s2]) (w (s2+(1:Int)))
   else
    qi s1
def NW (t:qk):Option ql :=
 MF t (fun x6 =>
   some x6) qe ([]:List Int) (0:Int)
theorem amG {t:qk} {qi:ql→Option ql} {s1:ql} {s2:Int} {v:ql} {Q:q8}   (rD:∀ (x6:ql) (p8:List I),qi x6=some v→qO 20 [(3,(qG x6 (.uniq 1)))] p8→Q (.exit 0) p8 []) {T:List I} (bZ:eX (ED false [3,1,6,2,8]) T=GI 20 [(3,(qG s1 (.uniq 1))),(10,(hY (t.2.length:Int))),(11,(hY s2))]) (h:MF t qi qe s1 s2=some v) :
  dG Tryz.prog Sf 77 0 none Pw T [] Q:=by
 unfold Pw;refine wp_loop bZ ?_;refine .intro (fun m T H=>∃ (s1:ql) (s2:Int),T=GI 20 [(3,(qG s1 (.uniq 1))),(10,(hY (t.2.length:Int))),(11,(hY s2))]∧H=[]∧MF t qi m s1 s2=some v) qe ⟨s1,s2,rfl,rfl,h⟩ ?_;clear h bZ;rintro m T H ⟨s1,s2,rfl,rfl,h⟩;cases m
 ·exact q_ h
 rename_i m;rw [MF.eq_2] at h;conv=>whnf
 refine bs h (fun e0 h=>?_) fun e0 h=>?_
 ·rw [e0];conv=>whnf
  obtain ⟨fs,h⟩:=qF h;refine ⟨by first | rfl | simp,by have:=fs;omega,rfl,fs,?_⟩
  erw [J_ hY s1 s2];conv=>whnf
  exact ⟨m,sv m,(s1++[s2]),(w (s2+(1:Int))),rfl,rfl,h⟩
 ·rw [e0];conv=>whnf
  exact rD _ _ h ⟨rfl,rfl⟩
theorem VT {t:qk} {v:ql} (h:NW t=some v):qD 77 [(.bW [(hY t.1),(.ay (t.2.flatMap p4) t.2.length .shared)])] (.ay (v.map hY) v.length .shared):=by
 refine qZ dM YG rfl (rO (fun _=>rfl) _ _ _) fun Q bo=>?_;have jG:qK [.tmp 2] Q (fun v=>(qG v .shared)) v:=fun T H bK=>bo _ T H bK;unfold NW at h;unfold V3;obtain ⟨HD,qS⟩:∃ c,Pw=c:=⟨_,rfl⟩;rw [qS];conv=>whnf
 subst qS;refine amG ?_ (by exact rfl) h;intro x6 p8 h qf;obtain ⟨qJ,rfl⟩:=qf.ex;conv=>whnf
 exact qc h jG rfl rfl

noncomputable def acG:eE :=
 GD [gV 1 [.hP 0] .box,gV 2 [.iK (.ay [] 0 .full)] (.nil 1),Gr 3 0] (GD [gV 7 [.hS 1] (.p2 (.str 2)),gV 8 [.iK (.func 64 [] []),.sl 7] (.call 3),Gt 6 8,GL 9 6 0,gV 10 [.hS 6] (.ext 1),Gt 4 9,Gt 5 10] (.seq (GD [Gs 11 5,F4 12 11 0 .neq] (.cond (.sl 12) (GD [Gt 13 5,gV 2 [.iK (.ay [] 0 .full)] (.nil 1),Gt 3 13] .ret) .skip)) (GD [Gs 14 4,Gt 15 4,gV 16 [.iK (.func 77 [] []),.sl 15] (.call 3),gV 17 [.iK (.func 79 [] []),.sl 14,.sl 16] (.call 3),Gt 2 17,Gr 3 0] .ret)))
theorem ahz:zm Tryz.prog WH 29=some (acG,18,[.tmp 2,.tmp 3]):=by kernel_rfl
def Pl (b:qk):Option (GV×Int) :=
 (Jo b).bind fun r1 =>
 match r1 with
 | (none,aV) =>
   if (decide (aV≠(0:Int)))=true then
    some ([],aV)
   else
    none
 | (some bT,aV) =>
   if (decide (aV≠(0:Int)))=true then
    some ([],aV)
   else
    (NW bT).bind fun r2 =>
    (K2 bT r2).bind fun eJ =>
    some (eJ,(0:Int))
theorem al5 {b:qk} {v:(GV×Int)} (h:Pl b=some v):qD 29 [(.agg [(hY b.1),(.ay (b.2.flatMap p4) b.2.length .shared)])] (.tuple [(.ay (v.1.map js) v.1.length .shared),(hY v.2)]):=by
 refine qZ dM ahz rfl (IX (p5 (rO (fun _=>(rO (fun _=>rfl) _ _ _)) _ _ _) (p5 rfl rfl))) fun Q bo=>?_;have jG:qK [.tmp 2,.tmp 3] Q (fun v=>(.tuple [(.ay (v.1.map js) v.1.length .shared),(hY v.2)])) v:=fun T H bK=>bo _ T H bK;unfold Pl at h;unfold acG;conv=>whnf
 obtain ⟨r1,e0,h⟩:=qj h;rcases r1 with ⟨_ | bT,aV⟩
 ·refine ⟨qt.pl,_,JG e0,?_⟩;conv=>whnf
  refine bs h (fun fs h=>?_) fun fs h=>?_
  ·rw [fs];(conv=>whnf);exact qc h jG rfl rfl
  ·rw [fs];(conv=>whnf);exact q_ h
 ·refine ⟨qt.pl,_,JG e0,?_⟩;conv=>whnf
  refine bs h (fun qp h=>?_) fun qp h=>?_
  ·rw [qp];(conv=>whnf);exact qc h jG rfl rfl
  ·rw [qp];(conv=>whnf);obtain ⟨r2,qC,h⟩:=qj h;refine ⟨qt.pl,_,VT qC,?_⟩;(conv=>whnf);obtain ⟨eJ,qH,h⟩:=qj h;refine ⟨qt.pl,_,Q' qH,?_⟩;(conv=>whnf);exact qc h jG rfl rfl

end Go.Proofs.YtfakoboiahbhaaaGreat.Ab


namespace Go.Proofs.YtfakoboiahbhaaaGreat.Ab
open Go
set_option maxRecDepth 20000
set_option maxHeartbeats 4000000
end Go.Proofs.YtfakoboiahbhaaaGreat.Ab
