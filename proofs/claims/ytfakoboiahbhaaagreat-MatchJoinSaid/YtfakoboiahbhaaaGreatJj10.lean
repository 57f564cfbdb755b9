
import Derived.Test.YtfakoboiahbhaaaGreatJj4
import Derived.KernelRfl
import Derived.Test.YtfakoboiahbhaaaGreatJj9
import Derived.Test.YtfakoboiahbhaaaGreatJj8
import Derived.Test.YtfakoboiahbhaaaGreatJj5
import Derived.Test.YtfakoboiahbhaaaGreatProg
set_option linter.unusedSimpArgs false
set_option linter.unusedVariables false
set_option linter.unusedSectionVars false

open Bool renaming and_true→tU,false_eq_true→tH
open Int renaming toNat_of_nonneg→tb
open List renaming all_cons→tt,all_nil→ua,any_eq_true→uw,append_assoc→sj,append_nil→sP,drop_eq_getElem_cons→sW,drop_eq_nil_of_le→tu,drop_left'→wC,drop_zero→sQ,exists_mem_of_ne_nil→vN,filter_append→tW,filter_cons→tp,filter_eq_self→uq,filter_nil→vj,getElem?_append→sc,getElem?_append_left→sB,getElem?_append_right→sM,getElem?_drop→sY,getElem?_eq_getElem→sq,getElem?_eq_some_iff→sa,getElem?_map→sA,getElem?_replicate→vC,getElem?_set_ne→sg,getElem?_set_self→si,getElem_mem→sD,length_append→su,length_cons→sI,length_eq_one_iff→wD,length_eq_zero_iff→tf,length_filter_le→tq,length_map→sZ,length_pos_iff→uc,length_singleton→tL,length_take→sV,map_append→td,map_cons→ss,map_drop→uj,map_map→tx,map_nil→tz,map_take→ui,mem_cons→sk,mem_filter→sK,mem_map→sv,mem_map_of_mem→wg,mem_singleton→sN,not_mem_nil→ug,pairwise_cons→tc,perm_ext_iff_of_nodup→uy,set_getElem_self→uS,set_set→sR,take_append_drop→vR,take_left'→vk,take_length→tQ,take_succ_cons→ve,take_succ_eq_append_getElem→tX,take_zero→tg
open Nat renaming ble_eq_true_of_le→t_,le_refl→sd,le_trans→sH,lt_succ_self→sm,min_eq_left→tF,mul_one→tA,sub_self→tR,zero_add→sO,zero_le→sr
open Option renaming bind_some→sb,map_some→sf
namespace Go.Proofs.YtfakoboiahbhaaaGreat.Ab
open Go
instance {d:Nat} {l:List I} [h:qj d l]:qj d (l.map I.gR):=⟨by
 have h:=h.pl;rw [List.all_eq_true] at h ⊢;intro u hu;obtain ⟨v,ae,rfl⟩:=sv.1 hu;have:=h v ae;cases d with
 | zero=>simp [cq] at this
 | succ d=>cases v with
   | ay cs n c=>cases c <;> exact this
   | _=>exact this⟩
end Go.Proofs.YtfakoboiahbhaaaGreat.Ab


namespace Go.Proofs.YtfakoboiahbhaaaGreat.Ab
open Go
set_option maxRecDepth 20000
set_option maxHeartbeats 4000000
noncomputable def Rx:ez :=
 .loop (some (Ez false [1,2,1,3,23])) (.seq (Gz [Gn 10 6,Gn 11 1,Gk 12 11,F1 13 10 12 .lss] (.cond (.sl 13) .skip (.exit 0))) (.seq (.block 1 (Gt [gM 16 [.sl 5] (.oP 1),gM 17 [.hJ 16] .take,gM 18 [.sl 2] (.oP 1),Gl 19 18,Gn 20 1,Gn 21 6,Gh 22 20 21 1,Gl 23 22,Gh 24 19 23 2,gM 25 [.hJ 24] (.pT (.str 2)),gM 26 [.hJ 25] (.x' 1 2 [.int .i64 0,.int .i64 0] [0]),gM 27 [.hG 17,.hG 26] (.app 2 16),gM 28 [.sl 5] (.oP 1),⟨none,[.hG 28,.hG 27],none,none,.st 1⟩])) (Gs [Gp 14 6,FZ 15 14 1,Gp 6 15])))
noncomputable def abl:ez :=
 Gz [gM 2 [.hG 0] .box,gM 4 [] (.alloc [.int .i64 0,.ay [] 0 .full])] (Gz [gM 7 [.sl 2] (.oP 0),Gl 8 7,gM 9 [.hJ 8] (.build [.int .i64 0,.ay [] 0 .full] [(0,1)]),gM 5 [] (.alloc [.int .i64 0,.ay [] 0 .full]),⟨none,[.sl 5,.hG 9],none,none,.st 2⟩] (.seq (Gz [Gm 6 0] (.block 0 Rx)) (Gz [gM 29 [.hJ 5] (.pT (.str 2)),⟨none,[.sl 4,.hG 29],none,none,.st 2⟩] .ret)))
theorem agf:zf Tryz.prog R0 51=some (abl,30,[.cell 4 (.str 2)]):=by kernel_rfl
def Mv (b:qa) (p':p5) (p9:qb→Option qa):Nat→Int→qb→Option qa
 | 0,_,_=>none
 | m+1,s1,s2 =>
   if (decide (s1<(p'.length:Int)))=true then
    p8 (0≤s1∧s1<(p'.length:Int)) <|
    p8 (0≤(ix p' s1)∧(ix p' s1)<(b.2.length:Int)) <|
    p8 ((s2.length+1)*16≤140737488355328) <|
    Mv b p' p9 m (w (s1+(1:Int))) (s2++[(ix b.2 (ix p' s1))])
   else
    p9 s2
def Pq (b:qa) (p':p5):Option qa :=
 Mv b p' (fun xZ =>
   some (b.1,xZ)) p_ (0:Int) ([]:List (Int×Int))
theorem akT {b:qa} {p':p5} {p9:qb→Option qa} {s1:Int} {s2:qb} {v:qa} {Q:q'}   {Ld:il} (q8:∀ (xZ:qb) (bA:au) (p6:List I),p9 xZ=some v→qU 30 [(4,(.ptr 1 0)),(5,(.ptr 2 0))] p6→Q (.exit 0) p6 [bA,au.cells [(hP (0:Int)),(.ay [] 0 .full)],au.cells [(hP b.1),(p3 xZ .full)]]) (aeN:∀ (xZ:qb) (bA:au) (p6:List I),p9 xZ=some v→qU 30 [(4,(.ptr 1 0)),(5,(.ptr 2 0))] p6→Q (.exit 0) p6 [bA,au.cells [(hP (0:Int)),(.ay [] 0 .full)],au.cells [(hP b.1),(p3 xZ (.own 2))]]) (SN:(Ld=il.full∨Ld=(.own 2))) {T:List I} (bX:eR (Ez false [1,2,1,3,23]) T=GG 30 [(1,(qe p' .shared)),(2,(.ptr 0 0)),(4,(.ptr 1 0)),(5,(.ptr 2 0)),(6,(hP s1))]) (h:Mv b p' p9 p_ s1 s2=some v) :
  dC Tryz.prog R0 51 0 none Rx T [Hv b,au.cells [(hP (0:Int)),(.ay [] 0 .full)],au.cells [(hP b.1),(.ay (s2.flatMap p1) s2.length Ld)]] Q:=by
 unfold Rx;refine wp_loop bX ?_;refine .intro (fun m T H=>∃ (s1:Int) (s2:qb) (Ld:il),(Ld=il.full∨Ld=(.own 2))∧T=GG 30 [(1,(qe p' .shared)),(2,(.ptr 0 0)),(4,(.ptr 1 0)),(5,(.ptr 2 0)),(6,(hP s1))]∧H=[Hv b,au.cells [(hP (0:Int)),(.ay [] 0 .full)],au.cells [(hP b.1),(.ay (s2.flatMap p1) s2.length Ld)]]∧Mv b p' p9 m s1 s2=some v) p_ ⟨s1,s2,_,SN,rfl,rfl,h⟩ ?_;clear h bX;rintro m T H ⟨s1,s2,Ld,SN,rfl,rfl,h⟩;cases m
 ·exact q7 h
 rename_i m;rw [Mv.eq_2] at h;rcases SN with rfl | rfl
 ·conv=>whnf
  refine bs h (fun eU h=>?_) fun eU h=>?_
  ·rw [eU];(conv=>whnf);refine qk h id fun fk h=>?_;rw [rT hP p' s1 fk];(conv=>whnf);refine qk h id fun qf h=>?_;rw [qW p1 2 qw b.2 (ix p' s1) qf];(conv=>whnf);obtain ⟨qo,h⟩:=qn h;refine ⟨by first | rfl | (simp;done) | exact Iv p1 _ qw _,by have:=qo;omega,by decide,qo,by first | rfl | (simp;done) | exact Iv p1 _ qw _,?_⟩
   erw [Jd p1 s2 (ix b.2 (ix p' s1))];(conv=>whnf);exact ⟨m,sm m,(w (s1+(1:Int))),(s2++[(ix b.2 (ix p' s1))]),_,(.inr rfl),rfl,rfl,h⟩
  ·rw [eU];(conv=>whnf);exact q8 _ _ _ h ⟨rfl,rfl⟩
 ·conv=>whnf
  refine bs h (fun eU h=>?_) fun eU h=>?_
  ·rw [eU];(conv=>whnf);refine qk h id fun fk h=>?_;rw [rT hP p' s1 fk];(conv=>whnf);refine qk h id fun qf h=>?_;rw [qW p1 2 qw b.2 (ix p' s1) qf];(conv=>whnf);obtain ⟨qo,h⟩:=qn h;refine ⟨by first | rfl | (simp;done) | exact Iv p1 _ qw _,by have:=qo;omega,rfl,qo,?_⟩
   erw [Jd p1 s2 (ix b.2 (ix p' s1))];(conv=>whnf);exact ⟨m,sm m,(w (s1+(1:Int))),(s2++[(ix b.2 (ix p' s1))]),_,(.inr rfl),rfl,rfl,h⟩
  ·rw [eU];(conv=>whnf);exact aeN _ _ _ h ⟨rfl,rfl⟩
theorem akU {b:qa} {p':p5} {v:qa} (h:Pq b p'=some v):ql 51 [(.agg [(hP b.1),(.ay (b.2.flatMap p1) b.2.length .shared)]),(.ay (p'.map hP) p'.length .shared)] (.agg [(hP v.1),(.ay (v.2.flatMap p1) v.2.length .shared)]):=by
 refine qM dI agf rfl (I1 (pY rfl (pY (qL (fun _=>(pY rfl (pY rfl rfl))) _ _ _) rfl))) fun Q bl=>?_;have jw:qu [.cell 4 (.str 2)] Q (fun v=>(ac7 v)) v:=fun T H bI=>bl _ T H bI;unfold Pq at h;unfold abl;obtain ⟨Ho,qz⟩:∃ c,Rx=c:=⟨_,rfl⟩;rw [qz];conv=>whnf
 subst qz;refine akT ?_ ?_ (.inl rfl) (by exact rfl) h
 ·intro xZ bA p6 h qh;obtain ⟨qS,rfl⟩:=qh.ex;conv=>whnf
  exact p7 h jw rfl rfl
 ·intro xZ bA p6 h qh;obtain ⟨qS,rfl⟩:=qh.ex;conv=>whnf
  exact p7 h jw rfl rfl

end Go.Proofs.YtfakoboiahbhaaaGreat.Ab


namespace Go.Proofs.YtfakoboiahbhaaaGreat.Ab
open Go
set_option maxRecDepth 20000
set_option maxHeartbeats 4000000

end Go.Proofs.YtfakoboiahbhaaaGreat.Ab


namespace Go.Proofs.YtfakoboiahbhaaaGreat.Ab
open Go
def rR (b:p4) (S:List Int):p4:=(b.1,S.map (ix b.2))
section
variable {b:p4} {S:List Int}
theorem Mg:(rR b S).2.length=S.length:=by simp [rR]
theorem OD {i:Nat} (h:i<S.length):ix (rR b S).2 (i:Int)=ix b.2 S[i]:=by
 have af:i<(S.map (ix b.2)).length:=by simpa using h
 show ix (S.map (ix b.2)) (i:Int)=_;rw [re af,List.getElem_map]
theorem OC (pZ:qm b) (cm:q6 b S) (ak:S.length≤10):qm (rR b S):=by
 refine ⟨pZ.f1,pZ.f6,by rw [Mg];exact ak,fun s ai=>?_,fun s ai=>?_⟩
 all_goals
  obtain ⟨i,hi,rfl⟩:=sv.1 ai;have hm:=Ow (l:=b.2) (i:=i) (cm i hi)
 ·exact pZ.left _ hm
 ·exact pZ.right _ hm
theorem ag2 (v:Int):qH (rR b S) (upto (rR b S).2.length) v=qH b S v:=by
 rw [Wv,Sd];rfl
theorem aap (cm:q6 b S) (ak:S.length≤1000) {k:Row→Option p4}:∀ (m i:Nat) (z:Int),z=i→i≤S.length→S.length-i<m→Mv b S k m z ((S.take i).map (ix b.2))=k (S.map (ix b.2))
 | 0,_,_,_,_,h=>absurd h (by omega)
 | m+1,i,_,rfl,hi,hm=>by
   rw [Mv];by_cases h:(i:Int)<(S.length:Int)
   ·(have ra:i<S.length:=by omega);have ai:=cm _ (sD ra);(have e:(S.take i).map (ix b.2)++[ix b.2 S[i]]=(S.take (i+1)).map (ix b.2):=by rw [LB ra,td];rfl);have aj:=aap cm ak (k:=k) m (i+1) _ rfl (by omega) (by omega);rw [if_pos (decide_eq_true h),qc ⟨by omega,h⟩,re ra,qc ai,qc (by simp;omega),rz i (by omega),e];exact aj
   ·rw [if_neg (by simpa using h),show i=S.length by omega,tQ]
theorem akS (cm:q6 b S) (ak:S.length≤1000):Pq b S=some (rR b S):=by
 rw [Pq];have:=aap cm ak (k:=fun xZ=>some (b.1,xZ)) p_ 0 0 rfl (by omega) (rn (by omega));rw [tg,tz] at this;exact this
theorem ag6 (pZ:qm b):∀ r∈parts b,q6 b r∧r.length≤10:=fun r aj=>by
 have h:=(Ku pZ).2.1;have dz:=pZ.len;have ad:=h.Mb Kr r aj;exact ⟨ad,sH (KM ((h.so r aj).imp fun h e=>by omega) ad) dz⟩
theorem U2 (pZ:qm b):I_ b=some (some b,0):=by
 rw [I_,Pk b (by have:=pZ.len;omega),sb,ID.2 pZ];rfl
theorem U1 (ag:b.2.length≤1000) (h:rX b≠0):I_ b=some (none,rX b):=by
 rw [I_,Pk b ag,sb,if_pos (by simpa using h)]
def LR (b:p4) (S:List Int):Prop:=∀ x∈S,∀ y∈S,∀ f g,qv b x f→qv b y g→qG b S f g
theorem qZ.one {out:List (List Int)} (h:qZ b S out) (aS:S≠[]):out.length=1↔LR b S:=by
 constructor
 ·intro ad;obtain ⟨r,rfl⟩:∃ r,out=[r]:=wD.1 ad;intro x al y a0 f g aQ aO;have hm:∀ z∈S,z∈r:=fun z bm=>by
   obtain ⟨q,a3,Xu⟩:=(h.mem z).1 bm;rw [sN.1 a3] at Xu;exact Xu
  exact h.IF r (by simp) x (hm x al) y (hm y a0) f g aQ aO
 ·intro bI;obtain ⟨x,al⟩:=vN S aS;obtain ⟨r,aj,JT⟩:=(h.mem x).1 al;have all:∀ q∈out,q=r:=fun q a3=>by
   obtain ⟨y,a0⟩:=vN q (h.ne q a3);have Xt:=(h.mem y).2 ⟨q,a3,a0⟩;have:=h.closed aj JT (f:=(ix b.2 x).1) (g:=(ix b.2 y).1) (.inl rfl) (bI x al y Xt _ _ (.inl rfl) (.inl rfl)) y Xt (.inl rfl);exact h.uniq a3 aj a0 this
  match out,aj,all,h with
  | [q],_,_,_=>rfl
  | q::fM::l,_,all,h =>
    exfalso;have e1:=all q (by simp);have ck:=all fM (by simp);obtain ⟨y,a0⟩:=vN q (h.ne q (by simp));exact (tc.1 h.ri).1 fM (by simp) y a0 (by rw [ck,←e1];exact a0)
theorem Ts {f g:Int}:qG (rR b S) (upto S.length) f g↔qG b S f g:=by
 constructor
 ·intro h
  induction h with
  | refl=>exact .refl
  | step i _ hi aB aH a_ =>
    have hi:=rL.1 hi;obtain ⟨k,rfl⟩:∃ k:Nat,i=(k:Int):=⟨i.toNat,by omega⟩;(have av:k<S.length:=by omega);unfold qv at aB aH;rw [OD av] at aB aH;exact .step S[k] a_ (sD av) aB aH
 ·intro h
  induction h with
  | refl=>exact .refl
  | step i _ hi aB aH a_ =>
    obtain ⟨k,av,e⟩:=List.getElem_of_mem hi;refine .step (k:Int) a_ (rL.2 ⟨by omega,by omega⟩) ?_ ?_
    ·unfold qv at aB ⊢;rw [OD av,e];exact aB
    ·unfold qv at aH ⊢;rw [OD av,e];exact aH
end
end Go.Proofs.YtfakoboiahbhaaaGreat.Ab


namespace Go.Proofs.YtfakoboiahbhaaaGreat.Ab
open Go
set_option maxRecDepth 20000
set_option maxHeartbeats 4000000
noncomputable def aa5:ez :=
 Gz [gM 4 [.iA (.bool false)] .iQ] (.seq (Gt [gM 5 [.sl 1] (.pT .one),gM 6 [.hJ 5] .zB,F6 7 6 0,F6 8 7 1,Gl 9 8,Gn 10 0,Gh 11 9 10 2,F6 12 11 0,Gl 13 12,gM 14 [.sl 2] (.pT .one),F1 15 13 14 .eql,Gp 16 15,cP 17 [.sl 1] 16 false (.pT .one),cP 18 [.hJ 17] 16 false .zB,cP 19 [.hJ 18] 16 false (.oP 0),cP 20 [.hJ 19] 16 false (.oP 1),cP 21 [.hJ 20] 16 false (.pT .one),cP 22 [.sl 0] 16 false .iQ,cP 23 [.hJ 21,.hJ 22] 16 false (.pM 2),cP 24 [.hJ 23] 16 false (.oP 1),cP 25 [.hJ 24] 16 false (.pT .one),cP 26 [.sl 2] 16 false (.pT .one),cP 27 [.hJ 25,.hJ 26] 16 false (.bin .eql),gM 28 [.sl 16,.iA (.bool true),.hJ 27] .pick,Gp 4 28]) .ret)
theorem af0:zf Tryz.prog VK 130=some (aa5,29,[.tmp 4]):=by kernel_rfl
def Ns (i:Int) (c0:qa) (a':Int):Option Bool :=
 p8 (0≤i∧i<(c0.2.length:Int)) <|
 if (decide ((ix c0.2 i).1=a'))=true then
  some true
 else
  p8 (0≤i∧i<(c0.2.length:Int)) <|
  some (decide ((ix c0.2 i).2=a'))
theorem Z8 {i:Int} {c0:qa} {a':Int} {v:Bool} (h:Ns i c0 a'=some v):ql 130 [(hP i),(.bU [(.bU [(hP c0.1),(.ay (c0.2.flatMap p1) c0.2.length .shared)])]),(.bU [(hP a')])] (B v):=by
 refine qM dI af0 rfl rfl fun Q bl=>?_;have jw:qu [.tmp 4] Q (fun v=>(B v)) v:=fun T H bI=>bl _ T H bI;unfold Ns at h;unfold aa5;conv=>whnf
 refine qk h id fun eU h=>?_;rw [qW p1 2 qw c0.2 i eU];conv=>whnf
 refine bs h (fun fk h=>?_) fun fk h=>?_
 ·rw [fk];conv=>whnf
  exact p7 h jw rfl rfl
 ·rw [fk];conv=>whnf
  refine qk h id fun qf h=>?_;rw [qW p1 2 qw c0.2 i qf];conv=>whnf
  exact p7 h jw rfl rfl

noncomputable def Rl:ez :=
 .loop (some (Ez false [0,2,5,2,10])) (Gz [gM 9 [.sl 8,.sl 7] (.bin .lss)] (.seq (.cond (.sl 9) .skip (.exit 0)) (.seq (.block 1 (Gz [Gn 10 8,Gp 5 10] (Gz [Gn 11 1,Gn 12 0,Gn 13 5,Gh 14 12 13 1,Gl 15 14,F1 16 11 15 .eql] (.cond (.sl 16) (Gz [Gp 17 5,Gp 4 17] .ret) .skip)))) (Gs [FZ 18 8 1,Gp 8 18]))))
noncomputable def aa7:ez :=
 Gz [Gm 4 0] (.seq (Gz [Gn 6 0,Gk 7 6,Gm 8 0] (.block 0 Rl)) (Gz [Gm 4 (-1)] .ret))
theorem af2:zf Tryz.prog RY 146=some (aa7,19,[.tmp 4]):=by kernel_rfl
def Ml (s:p5) (Iq:Int) (p9:Unit→Option Int):Nat→Int→Option Int
 | 0,_=>none
 | m+1,s1 =>
   if (decide (s1<(s.length:Int)))=true then
    p8 (0≤s1∧s1<(s.length:Int)) <|
    if (decide (Iq=(ix s s1)))=true then
     some s1
    else
     Ml s Iq p9 m (w (s1+(1:Int)))
   else
    p9 ()
def Q5 (s:p5) (Iq:Int):Option Int :=
 Ml s Iq (fun _ =>
   some (-1:Int)) p_ (0:Int)
theorem akj {s:p5} {Iq:Int} {p9:Unit→Option Int} {s1:Int} {v:Int} {Q:q'}   (jw:qu [.tmp 4] Q (fun v=>(hP v)) v) (q8:∀ (p6:List I),p9 ()=some v→qU 19 [] p6→Q (.exit 0) p6 []) {T:List I} (bX:eR (Ez false [0,2,5,2,10]) T=GG 19 [(0,(qe s .shared)),(1,(hP Iq)),(7,(hP (s.length:Int))),(8,(hP s1))]) (h:Ml s Iq p9 p_ s1=some v) :
  dC Tryz.prog RY 146 0 none Rl T [] Q:=by
 unfold Rl;refine wp_loop bX ?_;refine .intro (fun m T H=>∃ (s1:Int),T=GG 19 [(0,(qe s .shared)),(1,(hP Iq)),(7,(hP (s.length:Int))),(8,(hP s1))]∧H=[]∧Ml s Iq p9 m s1=some v) p_ ⟨s1,rfl,rfl,h⟩ ?_;clear h bX;rintro m T H ⟨s1,rfl,rfl,h⟩;cases m
 ·exact q7 h
 rename_i m;rw [Ml.eq_2] at h;conv=>whnf
 refine bs h (fun eU h=>?_) fun eU h=>?_
 ·rw [eU];conv=>whnf
  refine qk h id fun fk h=>?_;rw [rT hP s s1 fk];conv=>whnf
  refine bs h (fun qf h=>?_) fun qf h=>?_
  ·rw [qf];(conv=>whnf);exact p7 h jw rfl rfl
  ·rw [qf];(conv=>whnf);exact ⟨m,sm m,(w (s1+(1:Int))),rfl,rfl,h⟩
 ·rw [eU];conv=>whnf
  exact q8  _ h ⟨rfl,rfl⟩
theorem akk {s:p5} {Iq:Int} {v:Int} (h:Q5 s Iq=some v):ql 146 [(.ay (s.map hP) s.length .shared),(hP Iq)] (hP v):=by
 refine qM dI af2 rfl rfl fun Q bl=>?_;have jw:qu [.tmp 4] Q (fun v=>(hP v)) v:=fun T H bI=>bl _ T H bI;unfold Q5 at h;unfold aa7;obtain ⟨Ho,qz⟩:∃ c,Rl=c:=⟨_,rfl⟩;rw [qz];conv=>whnf
 subst qz;refine akj ?_ ?_ (by exact rfl) h
 ·exact fun T H bI=>jw T H bI
 ·intro  p6 h qh;obtain ⟨qS,rfl⟩:=qh.ex;conv=>whnf
  exact p7 h jw rfl rfl

noncomputable def aa6:ez :=
 Gz [gM 4 [.iA (.bool false)] .iQ] (Gz [Gp 5 0,Gp 6 1,gM 7 [.iA (.func 146 [] []),.sl 5,.sl 6] (.call 3),F0 8 7 0 .geq,Gp 4 8] .ret)
theorem af1:zf Tryz.prog VL 131=some (aa6,9,[.tmp 4]):=by kernel_rfl
def Pg (s:p5) (Iq:Int):Option Bool :=
 (Q5 s Iq).bind fun r1 =>
 some (decide ((0:Int)≤r1))
theorem aki {s:p5} {Iq:Int} {v:Bool} (h:Pg s Iq=some v):ql 131 [(.ay (s.map hP) s.length .shared),(hP Iq)] (B v):=by
 refine qM dI af1 rfl rfl fun Q bl=>?_;have jw:qu [.tmp 4] Q (fun v=>(B v)) v:=fun T H bI=>bl _ T H bI;unfold Pg at h;unfold aa6;conv=>whnf
 obtain ⟨r1,eU,h⟩:=qd h;refine ⟨qj.pl,_,akk eU,?_⟩;conv=>whnf
 exact p7 h jw rfl rfl

noncomputable def aaZ:ez :=
 Gz [gM 3 [.hG 0] .box,gM 5 [.hG 2] .box,gM 6 [.iA (.bool false)] .iQ] (Gz [gM 9 [.sl 3,.sl 5] (.zv 130 0 2),Gp 7 9] (Gz [gM 10 [.sl 3] (.pT .one),Gn 11 1,gM 12 [.iA (.func 76 [] []),.sl 10,.sl 11] (.call 3),Gp 8 12] (.seq (.block 0 (Gz [Gn 14 1,Gk 15 14,F0 16 15 0 .eql,Gp 13 16] (.cond (.sl 13) (Gz [gM 6 [.iA (.bool true)] .iQ] .ret) (Gz [Gn 18 8,Gk 19 18,F0 20 19 2 .gtr,Gp 21 20,cP 22 [.sl 8] 21 false .iQ,cP 23 [.hG 22] 21 false .pV,cP 24 [.hJ 23,.iA (.int .i64 2)] 21 false (.bin .eql),cP 25 [.hG 24] 21 false .iQ,cP 26 [.hG 8] 25 true .iQ,cP 27 [.hJ 5] 25 true (.pT .one),⟨some 28,[.iA (.func 131 [] []),.sl 26,.sl 27],some (25,true),none,.call 3⟩,cP 29 [.hJ 28] 25 true (.un .not),cP 30 [.hJ 25,.hJ 29,.iA (.bool false)] 21 false .pick,gM 31 [.hJ 21,.iA (.bool true),.hJ 30] .pick,Gp 32 31,cP 33 [.sl 1] 32 false .iQ,cP 34 [.hG 7] 32 false .iQ,⟨some 35,[.iA (.func 92 [] []),.sl 33,.sl 34],some (32,false),none,.call 6⟩,cP 36 [.hJ 35] 32 false (.un .not),gM 37 [.hJ 32,.iA (.bool true),.hJ 36] .pick,Gp 17 37] (.cond (.sl 17) (Gz [gM 6 [.iA (.bool false)] .iQ] .ret) .skip))))) (Gz [Gl 38 3,Gp 39 1,gM 40 [.iA (.func 79 [] []),.sl 38,.sl 39] (.call 3),Gk 41 40,F0 42 41 1 .eql,Gp 6 42] .ret))))
theorem afU:zf Tryz.prog VB 109=some (aaZ,43,[.tmp 6]):=by kernel_rfl
def Mj (t:qa) (p':p5) (figure:Int):Option Bool :=
 (Mz t p').bind fun r1 =>
 if (decide ((p'.length:Int)=(0:Int)))=true then
  some true
 else
  if (decide ((2:Int)<(r1.length:Int)))=true then
   some false
  else
   if (decide ((r1.length:Int)=(2:Int)))=true then
    (Pg r1 figure).bind fun r2 =>
    if r2=true then
     (K6 p' (fun qA=>Ns qA t figure)).bind fun r3 =>
     if r3=true then
      (K5 t p').bind fun r4 =>
      some (decide ((r4.length:Int)=(1:Int)))
     else
      some false
    else
     some false
   else
    (K6 p' (fun qA=>Ns qA t figure)).bind fun qC =>
    if qC=true then
     (K5 t p').bind fun qs =>
     some (decide ((qs.length:Int)=(1:Int)))
    else
     some false
theorem ZZ {t:qa} {p':p5} {figure:Int} {v:Bool} (h:Mj t p' figure=some v):ql 109 [(.bU [(hP t.1),(.ay (t.2.flatMap p1) t.2.length .shared)]),(.ay (p'.map hP) p'.length .shared),(hP figure)] (B v):=by
 refine qM dI afU rfl rfl fun Q bl=>?_;have jw:qu [.tmp 6] Q (fun v=>(B v)) v:=fun T H bI=>bl _ T H bI;unfold Mj at h;unfold aaZ;conv=>whnf
 obtain ⟨r1,eU,h⟩:=qd h;refine ⟨qj.pl,_,U4 eU,?_⟩;conv=>whnf
 refine bs h (fun fk h=>?_) fun fk h=>?_
 ·rw [fk];conv=>whnf
  exact p7 h jw rfl rfl
 ·rw [fk];conv=>whnf
  refine bs h (fun qf h=>?_) fun qf h=>?_
  ·rw [qf];(conv=>whnf);exact p7 h jw rfl rfl
  ·rw [qf];(conv=>whnf);refine bs h (fun qo h=>?_) fun qo h=>?_
   ·rw [qo];(conv=>whnf);obtain ⟨r2,qD,h⟩:=qd h;refine ⟨qj.pl,_,aki qD,?_⟩;(conv=>whnf);cases r2
    ·(conv=>whnf);replace h:=Hf rfl h;exact p7 h jw rfl rfl
    ·(conv=>whnf);replace h:=Hg rfl h;obtain ⟨r3,rr,h⟩:=qd h;refine ⟨_,_,IU (cs:=[(qe p' .shared),(.func 130 [] [(.bU [(.bU [(hP t.1),(p3 t.2 .shared)])]),(.bU [(hP figure)])])]) (bs:=[(qe p' .shared),(.func 130 [] [(.bU [(.bU [(hP t.1),(p3 t.2 .shared)])]),(.bU [(hP figure)])])]) (qX rfl (qX (Kp ry (qX (I5 (cs:=[(.bU [(hP t.1),(p3 t.2 .shared)])]) (by first | exact qi.h | rfl | (simp [sc,I.settle];done)) rfl) (qX (I5 (cs:=[(hP figure)]) (by first | exact qi.h | rfl | (simp [sc,I.settle];done)) rfl) ry))) ry)) (by rfl) (by exact (pY (rp (fun _=>rfl) _ _ _) (pY (JX rfl (pY (qO (pY (qO (pY rfl (pY (qL (fun _=>(pY rfl (pY rfl rfl))) _ _ _) rfl))) rfl)) (pY (qO (pY rfl rfl)) rfl))) rfl))) (Rc ⟨(pY (qO (pY (qO (pY rfl (pY (qL (fun _=>(pY rfl (pY rfl rfl))) _ _ _) rfl))) rfl)) (pY (qO (pY rfl rfl)) rfl)),by simp⟩ (fun _ _ a0=>Z8 a0) rr) rfl,?_⟩
     (conv=>whnf);cases r3
     ·(conv=>whnf);replace h:=Hf rfl h;exact p7 h jw rfl rfl
     ·(conv=>whnf);replace h:=Hg rfl h;obtain ⟨r4,qN,h⟩:=qd h;refine ⟨qj.pl,_,Q' qN,?_⟩;(conv=>whnf);exact p7 h jw rfl rfl
   ·rw [qo];(conv=>whnf);obtain ⟨qC,qQ,h⟩:=qd h;refine ⟨_,_,IU (cs:=[(qe p' .shared),(.func 130 [] [(.bU [(.bU [(hP t.1),(p3 t.2 .shared)])]),(.bU [(hP figure)])])]) (bs:=[(qe p' .shared),(.func 130 [] [(.bU [(.bU [(hP t.1),(p3 t.2 .shared)])]),(.bU [(hP figure)])])]) (qX rfl (qX (Kp ry (qX (I5 (cs:=[(.bU [(hP t.1),(p3 t.2 .shared)])]) (by first | exact qi.h | rfl | (simp [sc,I.settle];done)) rfl) (qX (I5 (cs:=[(hP figure)]) (by first | exact qi.h | rfl | (simp [sc,I.settle];done)) rfl) ry))) ry)) (by rfl) (by exact (pY (rp (fun _=>rfl) _ _ _) (pY (JX rfl (pY (qO (pY (qO (pY rfl (pY (qL (fun _=>(pY rfl (pY rfl rfl))) _ _ _) rfl))) rfl)) (pY (qO (pY rfl rfl)) rfl))) rfl))) (Rc ⟨(pY (qO (pY (qO (pY rfl (pY (qL (fun _=>(pY rfl (pY rfl rfl))) _ _ _) rfl))) rfl)) (pY (qO (pY rfl rfl)) rfl)),by simp⟩ (fun _ _ a0=>Z8 a0) qQ) rfl,?_⟩
    (conv=>whnf);cases qC
    ·(conv=>whnf);replace h:=Hf rfl h;exact p7 h jw rfl rfl
    ·(conv=>whnf);replace h:=Hg rfl h;obtain ⟨qs,q5,h⟩:=qd h;refine ⟨qj.pl,_,Q' q5,?_⟩;(conv=>whnf);exact p7 h jw rfl rfl

end Go.Proofs.YtfakoboiahbhaaaGreat.Ab


namespace Go.Proofs.YtfakoboiahbhaaaGreat.Ab
open Go
def MR (l:Row):Row:=(l.map fun p=>(p.1,1-p.2)).reverse
section
variable {b:p4} {S:List Int}
theorem ajr {p:Int×Int} (h:0≤p.2∧p.2≤1):qy b (p.1,1-p.2)=fin b p∧fin b (p.1,1-p.2)=qy b p:=by
 unfold qy fin;rcases show p.2=0∨p.2=1 by omega with e | e
 ·simp [e]
 ·simp [e]
theorem YE:∀ (l:Row) (a c:Int),(∀ p∈l,0≤p.2∧p.2≤1)→qE b a l=some c→qE b c (MR l)=some a
 | [],a,c,_,h=>by
   have:a=c:=by simpa [qE] using h
   subst this;rfl
 | p::l,a,c,ad,h=>by
   obtain ⟨cb,b8⟩:=Jr.1 h;have a_:=YE l _ c (fun q a3=>ad q (by simp [a3])) b8;have ax:=ajr (b:=b) (ad p (by simp));unfold MR at a_ ⊢;rw [ss,List.reverse_cons,JY,a_,sb];exact KS.2 ⟨ax.1,by rw [ax.2];exact cb⟩
theorem ac3 (l:Row):((MR l).map (·.1)).Perm (l.map (·.1)):=by
 unfold MR;rw [List.map_reverse,tx];exact List.reverse_perm _
theorem UC:∀ (l:Row) (a c:Int),qE b a l=some c→∀ p∈l,qG b (l.map (·.1)) a (qy b p)∧qG b (l.map (·.1)) a (fin b p)
 | [],_,_,_,p,aC=>by simp at aC
 | q::l,a,c,h,p,aC=>by
   obtain ⟨cb,b8⟩:=Jr.1 h;have a3:qG b ((q::l).map (·.1)) a (fin b q):=.one (i:=q.1) (by simp) ((KB q a).2 (.inl cb)) ((KB q _).2 (.inr rfl));rcases sk.1 aC with rfl | aC
   ·exact ⟨by rw [cb];exact .refl,a3⟩
   ·have a_:=UC l _ c b8 p aC;(have hm:∀ x∈l.map (·.1),x∈(q::l).map (·.1):=fun x al=>by simp only [ss,sk];exact .inr al);exact ⟨a3.trans (a_.1.mono hm),a3.trans (a_.2.mono hm)⟩
theorem aiy {l:Row} {a c:Int} (h:qE b a l=some c):LR b (l.map (·.1)):=by
 intro x al y a0 f g aQ aO;obtain ⟨p,aC,rfl⟩:=sv.1 al;obtain ⟨q,a3,rfl⟩:=sv.1 a0;have ao:∀ p∈l,∀ f,qv b p.1 f→qG b (l.map (·.1)) a f:=fun p aC f aQ=>by
  rcases (KB p f).1 aQ with rfl | rfl
  ·exact (UC l a c h p aC).1
  ·exact (UC l a c h p aC).2
 exact (ao p aC f aQ).symm.trans (ao q a3 g aO)
theorem LR.perm {S S':List Int} (h:LR b S) (aC:S.Perm S'):LR b S':=fun x al y a0 f g aQ aO=>(h x (aC.mem_iff.2 al) y (aC.mem_iff.2 a0) f g aQ aO).mono fun z bm=>aC.mem_iff.1 bm
def Ky (b:p4) (S:List Int) (f:Int):Prop:=S=[]∨(LR b S∧(∃ i∈S,qv b i f)∧(q2 b S=[]∨((q2 b S).length=2∧f∈q2 b S)))
structure Ir (b:p4) (S:List Int) (a c:Int) (l:Row):Prop where
 ok:∀ p∈l,Im b p
 go:qE b a l=some c
 all:(l.map (·.1)).Perm S
theorem PR (pZ:qm b) {p:Int×Int} (aC:Im b p):(0≤qy b p∧qy b p<b.1)∧0≤fin b p∧fin b p<b.1:=by
 have hm:=rL.2 ⟨aC.1,aC.2.1⟩;exact ⟨PW pZ hm ((KB p _).2 (.inl rfl)),PW pZ hm ((KB p _).2 (.inr rfl))⟩
theorem YF:∀ (l:Row) (a c:Int),l≠[]→qE b a l=some c→∃ p∈l,fin b p=c
 | [],_,_,h,_=>absurd rfl h
 | [p],a,c,_,h=>⟨p,by simp,(KS.1 h).2⟩
 | p::q::l,a,c,_,h=>by
   obtain ⟨r,aj,e⟩:=YF (q::l) _ c (by simp) (Jr.1 h).2;exact ⟨r,List.mem_cons_of_mem _ aj,e⟩
theorem Ir.ends (pZ:qm b) {a c:Int} {l:Row} (h:Ir b S a c l) (aS:l≠[]):(0≤a∧a<b.1)∧(0≤c∧c<b.1)∧(∃ i∈S,qv b i a)∧∃ i∈S,qv b i c:=by
 obtain ⟨p,aC,e⟩:=YF l a c aS h.go
 match l,aS,h with
 | q::l,_,h =>
   have ck:=(Jr.1 h.go).1;have ad:=PR pZ (h.ok q (by simp));have af:=PR pZ (h.ok p aC);rw [ck] at ad;rw [e] at af;exact ⟨ad.1,af.2,⟨q.1,h.all.mem_iff.1 (by simp),(KB q _).2 (.inl ck)⟩,⟨p.1,h.all.mem_iff.1 (wg aC),(KB p _).2 (.inr e)⟩⟩
theorem Ir.Tm (pZ:qm b) {a c:Int} {l:Row} (h:Ir b S a c l) (aS:l≠[]):(a=c→q2 b S=[])∧(a≠c→(q2 b S).Perm [a,c]):=by
 have Xn:=fun v=>O' l a c v h.go;have bV:=pZ.f6;obtain ⟨cd,ao,_,_⟩:=h.ends pZ aS;have aZ:∀ v,qH b (l.map (·.1)) v=qH b S v:=fun v=>Le h.all v;constructor
 ·rintro rfl;refine List.eq_nil_iff_forall_not_mem.2 fun v ae=>?_;have ad:=(Lp.1 ae).2;have af:=Xn v;rw [aZ] at af;split at af <;> omega
 ·intro bM;refine (uy ((Qo S).imp fun h e=>by omega) (by simp [bM])).2 fun v=>?_;have af:=Xn v;rw [aZ] at af;rw [Lp];simp only [sk,ug,or_false];constructor
  ·rintro ⟨_,ad⟩;by_cases e1:a=v
   ·exact .inl e1.symm
   ·by_cases ck:c=v
    ·exact .inr ck.symm
    ·rw [if_neg e1,if_neg ck] at af;omega
  ·rintro (rfl | rfl)
   ·rw [if_pos rfl,if_neg (Ne.symm bM)] at af;exact ⟨⟨cd.1,by omega⟩,by omega⟩
   ·rw [if_pos rfl,if_neg bM] at af;exact ⟨⟨ao.1,by omega⟩,by omega⟩
theorem Ir.back {a c:Int} {l:Row} (h:Ir b S a c l):Ir b S c a (MR l):=by
 refine ⟨fun p aC=>?_,YE l a c (fun p aC=>(h.ok p aC).2.2) h.go,(ac3 l).trans h.all⟩;unfold MR at aC;obtain ⟨q,a3,rfl⟩:=sv.1 (List.mem_reverse.1 aC);have:=h.ok q a3;exact ⟨this.1,this.2.1,by simp only;have:=this.2.2;omega,by simp only;have:=this.2.2;omega⟩
theorem Ir.aip {a f:Int} {l:Row} (h:Ir b S a a l) (aQ:∃ i∈S,qv b i f):∃ l',Ir b S f f l':=by
 obtain ⟨i,hi,kq⟩:=aQ;obtain ⟨p,aC,rfl⟩:=sv.1 (h.all.mem_iff.2 hi);obtain ⟨dK,kI,rfl⟩:=List.append_of_mem aC;have I0:=h.go;rw [JY] at I0;obtain ⟨c,cb,b8⟩:=qd I0;obtain ⟨dZ,hn⟩:=Jr.1 b8;have mk:∀ {x y:Row} {f:Int},x++y=dK++p::kI→qE b a x=some f→qE b f y=some a→Ir b S f f (y++x):=fun {x y f} e ad af=>by
  have Jn:(y++x).Perm (dK++p::kI):=by rw [←e];exact List.perm_append_comm
  exact ⟨fun q a3=>h.ok q (Jn.mem_iff.1 a3),by rw [JY,af];exact ad,(Jn.map _).trans h.all⟩
 rcases (KB p f).1 kq with rfl | rfl
 ·exact ⟨_,mk (x:=dK) (y:=p::kI) rfl (by rw [dZ];exact cb) (by rw [dZ];exact b8)⟩
 ·exact ⟨_,mk (x:=dK++[p]) (y:=kI) (by simp) (by rw [JY,cb];exact KS.2 ⟨dZ,rfl⟩) hn⟩
theorem aen (pZ:qm b) (cm:q6 b S) (ak:S.length≤990) (aS:S≠[]) (bI:LR b S):∃ R,Vh b S R:=by
 obtain ⟨l,a,ad,af,aG⟩:=round_part pZ cm ak aS bI;exact ⟨_,X6 pZ cm aS af aG⟩
theorem RowsOf.single {R:List Row} (h:RowsOf b S R) (ad:R.length=1):∃ l a c,R=[l]∧Ir b S a c l:=by
 obtain ⟨l,rfl⟩:=wD.1 ad;obtain ⟨a,c,aO⟩:=h.go l (by simp);exact ⟨l,a,c,rfl,h.ok l (by simp),aO,by simpa using h.all⟩
theorem So (pZ:qm b) (cm:q6 b S) (ak:S.length≤990) {f:Int}:Ky b S f↔∃ l c,Ir b S f c l:=by
 constructor
 ·rintro (rfl | ⟨bI,aQ,aq⟩)
  ·exact ⟨[],f,fun p aC=>absurd aC (by simp),rfl,by simp⟩
  ·(have aS:S≠[]:=fun e=>by obtain ⟨i,hi,_⟩:=aQ;rw [e] at hi;simp at hi);obtain ⟨R,jw⟩:=aen pZ cm ak aS bI;have hlen:=jw.len;have ad:R.length=1:=by
    rw [hlen];rcases aq with aq | aq
    ·rw [aq];rfl
    ·rw [aq.1];rfl
   obtain ⟨l,a,c,aed,bX⟩:=jw.toRowsOf.single ad;have jE:l≠[]:=jw.ne l (by rw [aed];simp);have Jm:=bX.Tm pZ jE;rcases aq with aq | ⟨af,aeF⟩
   ·have:a=c:=Classical.byContradiction fun bM=>by
     have:=(Jm.2 bM).length_eq;rw [aq] at this;simp at this
    subst this;obtain ⟨l',lM⟩:=bX.aip aQ;exact ⟨l',f,lM⟩
   ·(have bM:a≠c:=fun e=>by have:=Jm.1 e;rw [this] at af;simp at af);have:=(Jm.2 bM).mem_iff.1 aeF;simp only [sk,ug,or_false] at this;rcases this with rfl | rfl
    ·exact ⟨l,c,bX⟩
    ·exact ⟨_,_,bX.back⟩
 ·rintro ⟨l,c,bX⟩;by_cases aS:l=[]
  ·subst aS;left;have:=bX.all.length_eq;simp at this;exact tf.1 this.symm
  ·right;refine ⟨(aiy bX.go).perm bX.all,(bX.ends pZ aS).2.2.1,?_⟩;have Jm:=bX.Tm pZ aS;by_cases e:f=c
   ·exact .inl (Jm.1 e)
   ·exact .inr ⟨(Jm.2 e).length_eq,(Jm.2 e).mem_iff.2 (by simp)⟩
theorem Z9 {s:List Int} {v:Int} (ai:s.length≤1000):∀ (m i:Nat) (z:Int),z=i→i≤s.length→s.length-i<m→Ml s v (fun _=>some (-1:Int)) m z=some (posOf (fun x=>decide (v=x)) (s.drop i) i)
 | 0,i,_,_,_,h=>absurd h (by omega)
 | m+1,i,_,rfl,hi,hm=>by
   rw [Ml];by_cases h:i<s.length
   ·rw [Jp h,G6 h,re h,sW h,posOf];by_cases aC:v=s[i]
    ·rw [if_pos (decide_eq_true aC),if_pos (decide_eq_true aC)]
    ·rw [if_neg (by simpa using aC),if_neg (by simpa using aC),rz i (by omega),Z9 ai m (i+1) _ rfl (by omega) (by omega)]
   ·rw [Jo h,tu (by omega)];rfl
theorem akh {s:List Int} {v:Int} (ai:s.length≤1000):Pg s v=some (decide (v∈s)):=by
 have:=Z9 (v:=v) ai p_ 0 0 rfl (sr _) (rn (by omega));rw [sQ] at this;rw [Pg,Q5,this,sb,OK];congr 1;rw [Bool.eq_iff_iff];simp
def L9 (b:p4) (f i:Int):Bool:=decide ((ix b.2 i).1=f) || decide ((ix b.2 i).2=f)
theorem aeE {f i:Int}:L9 b f i=true↔qv b i f:=by unfold L9 qv;simp
theorem aj7 (pZ:qm b) (cm:q6 b S) (aN:S.Nodup) (f:Int):∃ r:Bool,Mj b S f=some r∧(r=true↔Ky b S f):=by
 have ak:S.length≤b.2.length:=KM aN cm;have dz:=pZ.len;have al1:(q2 b S).length≤6:=sH (tq _ _) (by rw [rF];omega);have lS:=Oz pZ cm;obtain ⟨out,ad,af,_⟩:=U5 (b:=b) (S:=S) pZ.len aN cm;rw [Mj,aaD pZ cm (by omega),sb];by_cases aS:S=[]
 ·rw [if_pos (by simp [aS])];exact ⟨true,rfl,by simp [Ky,aS]⟩
 ·rw [if_neg (by simpa using aS)];have en:=af.one aS
  have Xi:K6 S (fun qA=>Ns qA b f)=some (S.any (L9 b f)):=U9 (fun x al=>by
   have nx:=cm x al;rw [Ns,qc nx,qc nx];unfold L9
   split <;> simp [*]) (by omega)
  have P_:S.any (L9 b f)=true↔∃ i∈S,qv b i f:=by
   rw [uw];simp only [aeE]
  by_cases aG:2<(q2 b S).length
  ·rw [if_pos (by simp;omega)];refine ⟨false,rfl,?_⟩;simp only [tH,false_iff];rintro (h | ⟨_,_,h | h⟩)
   ·exact aS h
   ·rw [h] at aG;simp at aG
   ·omega
  ·rw [if_neg (by simp;omega)];by_cases a6:(q2 b S).length=2
   ·rw [if_pos (by simp [a6]),akh (by omega),sb];by_cases bL:f∈q2 b S
    ·rw [if_pos (decide_eq_true bL),Xi,sb];by_cases bV:S.any (L9 b f)=true
     ·rw [if_pos bV,ad,sb];refine ⟨_,rfl,?_⟩;rw [decide_eq_true_eq,show ((out.length:Int)=1↔out.length=1) by omega,en];exact ⟨fun h=>.inr ⟨h,P_.1 bV,.inr ⟨a6,bL⟩⟩,fun h=>h.elim (fun h=>absurd h aS) fun h=>h.1⟩
     ·rw [if_neg bV];exact ⟨false,rfl,by simp only [tH,false_iff];exact fun h=>h.elim aS fun h=>bV (P_.2 h.2.1)⟩
    ·rw [if_neg (by simpa using bL)];refine ⟨false,rfl,?_⟩;simp only [tH,false_iff];rintro (h | ⟨_,_,h | h⟩)
     ·exact aS h
     ·rw [h] at a6;simp at a6
     ·exact bL h.2
   ·have cN:q2 b S=[]:=tf.1 (by omega);rw [if_neg (by simp;omega),Xi,sb];by_cases bV:S.any (L9 b f)=true
    ·rw [if_pos bV,ad,sb];refine ⟨_,rfl,?_⟩;rw [decide_eq_true_eq,show ((out.length:Int)=1↔out.length=1) by omega,en];exact ⟨fun h=>.inr ⟨h,P_.1 bV,.inl cN⟩,fun h=>h.elim (fun h=>absurd h aS) fun h=>h.1⟩
    ·rw [if_neg bV];exact ⟨false,rfl,by simp only [tH,false_iff];exact fun h=>h.elim aS fun h=>bV (P_.2 h.2.1)⟩
end
end Go.Proofs.YtfakoboiahbhaaaGreat.Ab


namespace Go.Proofs.YtfakoboiahbhaaaGreat.Ab
open Go
set_option maxRecDepth 20000
set_option maxHeartbeats 4000000

end Go.Proofs.YtfakoboiahbhaaaGreat.Ab


namespace Go.Proofs.YtfakoboiahbhaaaGreat.Ab
open Go
set_option maxRecDepth 20000
set_option maxHeartbeats 4000000
end Go.Proofs.YtfakoboiahbhaaaGreat.Ab


namespace Go.Proofs.YtfakoboiahbhaaaGreat.Ab
open Go
def rY (S:List Int) (i:Int):List Int:=S.filter fun x=>decide (x≠i)
def Lj (b:p4) (S:List Int) (f:Int):Bool:=(Mj b S f).getD false
def GR (b:p4) (S:List Int) (at_:Int) (p:Int×Int):Bool:=(decide (at_<0) || decide (qy b p=at_)) && Lj b (rY S p.1) (fin b p)
def IE (b:p4) (S:List Int) (at_ i:Int):Row:=[(i,0),(i,1)].filter (GR b S at_)
def He (b:p4) (S:List Int) (at_:Int):Row:=S.flatMap (IE b S at_)
def Lu (b:p4):Nat→List Int→Row→Int→Row
 | 0,_,out,_=>out
 | m+1,S,out,at_=>match He b S at_ with
   | []=>out
   | p::_=>Lu b m (rY S p.1) (out++[p]) (fin b p)
def Hh (b:p4):Row:=Lu b (b.2.length+1) (upto b.2.length) [] (-1)
section
variable {b:p4} {S:List Int}
theorem Sn (pZ:qm b) (cm:q6 b S) (aN:S.Nodup) (f:Int):Mj b S f=some (Lj b S f)∧(Lj b S f=true↔Ky b S f):=by
 obtain ⟨r,ad,af⟩:=aj7 pZ cm aN f
 have:Lj b S f=r:=by unfold Lj;rw [ad];rfl
 rw [this];exact ⟨ad,af⟩
theorem Np (cm:q6 b S) (i:Int):q6 b (rY S i):=fun x al=>cm x (sK.1 al).1
theorem Pd (aN:S.Nodup) (i:Int):(rY S i).Nodup:=aN.filter _
theorem Q2 (aN:S.Nodup) {i:Int} (hi:i∈S):S.Perm (i::rY S i):=by
 refine (uy aN ?_).2 fun x=>?_
 ·rw [List.nodup_cons];refine ⟨fun h=>?_,Pd aN i⟩;have:=(sK.1 h).2;simp at this
 ·rw [sk,rY,sK];constructor
  ·intro h;by_cases e:x=i
   ·exact .inl e
   ·exact .inr ⟨h,by simpa using e⟩
  ·rintro (rfl | h)
   ·exact hi
   ·exact h.1
theorem Ql {at_:Int} {p:Int×Int}:p∈He b S at_↔p.1∈S∧(p.2=0∨p.2=1)∧GR b S at_ p=true:=by
 unfold He IE;rw [List.mem_flatMap];constructor
 ·rintro ⟨i,hi,h⟩;rw [sK] at h;obtain ⟨ad,af⟩:=h;simp only [sk,ug,or_false] at ad;rcases ad with rfl | rfl
  ·exact ⟨hi,.inl rfl,af⟩
  ·exact ⟨hi,.inr rfl,af⟩
 ·rintro ⟨ad,af,aG⟩;refine ⟨p.1,ad,sK.2 ⟨?_,aG⟩⟩;obtain ⟨bR,b4⟩:=p;rcases af with af | af
  ·simp only at af;subst af;simp
  ·simp only at af;subst af;simp
def RR (b:p4) (S:List Int) (at_:Int):Prop:=(at_<0∧∃ f,Ky b S f)∨(0≤at_∧Ky b S at_)
theorem RR.next (pZ:qm b) (cm:q6 b S) (aN:S.Nodup) {at_:Int} (h:RR b S at_) (aS:S≠[]):He b S at_≠[]:=by
 have ak:S.length≤990:=sH (KM aN cm) (by have:=pZ.len;omega);obtain ⟨f,aQ,aO⟩:∃ f,(at_<0∨f=at_)∧Ky b S f:=by
  rcases h with ⟨ad,f,af⟩ | ⟨_,af⟩
  ·exact ⟨f,.inl ad,af⟩
  ·exact ⟨_,.inr rfl,af⟩
 obtain ⟨l,c,bX⟩:=(So pZ cm ak).1 aO
 match l,bX with
 | [],bX =>
   have:=bX.all.length_eq;simp at this;exact absurd (tf.1 this.symm) aS
 | p::l,bX =>
   obtain ⟨cb,b8⟩:=Jr.1 bX.go;have aC:=bX.ok p (by simp);have Qf:p.1∈S:=bX.all.mem_iff.1 (by simp);have Jn:(l.map (·.1)).Perm (rY S p.1):=by
    have:=bX.all.trans (Q2 aN Qf);rw [ss] at this;exact this.cons_inv
   have I0:Ky b (rY S p.1) (fin b p):=(So pZ (Np cm _) (sH (tq _ _) ak)).2 ⟨l,c,fun q a3=>bX.ok q (by simp [a3]),b8,Jn⟩
   have hm:p∈He b S at_:=Ql.2 ⟨Qf,by have:=aC.2.2;omega,by
    unfold GR;rw [(Sn pZ (Np cm _) (Pd aN _) _).2.2 I0];rcases aQ with aQ | rfl
    ·simp [aQ]
    ·simp [cb]⟩
   intro e;rw [e] at hm;simp at hm
theorem XZ (pZ:qm b):∀ (m:Nat) (S:List Int) (out:Row) (at_:Int),S.length<m→q6 b S→S.Nodup→RR b S at_→∃ l f c,Lu b m S out at_=out++l∧Ir b S f c l∧(0≤at_→f=at_)
 | 0,_,_,_,h,_,_,_=>absurd h (by omega)
 | m+1,S,out,at_,hm,cm,aN,aO=>by
   rw [Lu];by_cases aS:S=[]
   ·subst aS;refine ⟨[],at_,at_,by simp [He],⟨fun p aC=>absurd aC (by simp),rfl,by simp⟩,fun _=>rfl⟩
   ·have bM:=aO.next pZ cm aN aS
    match he:He b S at_,bM with
    | p::r,_ =>
      have aC:=Ql.1 (show p∈He b S at_ by rw [he];simp);obtain ⟨ad,af,aG⟩:=aC;unfold GR at aG;rw [Bool.and_eq_true,Bool.or_eq_true,decide_eq_true_eq,decide_eq_true_eq] at aG;have I0:=(Sn pZ (Np cm p.1) (Pd aN p.1) (fin b p)).2.1 aG.2;have bO:Im b p:=⟨(cm _ ad).1,(cm _ ad).2,by omega,by omega⟩;have aU:=(Q2 aN ad).length_eq;rw [sI] at aU;obtain ⟨l,f,c,e1,ck,dF⟩:=XZ pZ m (rY S p.1) (out++[p]) (fin b p) (by omega) (Np cm _) (Pd aN _) (.inr ⟨(PR pZ bO).2.1,I0⟩);have dF:=dF (PR pZ bO).2.1;subst dF;refine ⟨p::l,qy b p,c,by simp only;rw [e1];simp,⟨fun q a3=>?_,Jr.2 ⟨rfl,ck.go⟩,?_⟩,fun h=>?_⟩
      ·rcases sk.1 a3 with rfl | a3
       ·exact bO
       ·exact ck.ok q a3
      ·rw [ss];exact (ck.all.cons _).trans (Q2 aN ad).symm
      ·rcases aG.1 with aG | aG
       ·omega
       ·exact aG
theorem agV (pZ:qm b) (aS:0<b.2.length) (ad:IV b≤1):∃ f,Ky b (upto b.2.length) f:=by
 obtain ⟨R,jw,qt⟩:=aaL pZ;have hlen:=qt.len;have M5:0<R.length:=by
  refine Nat.pos_of_ne_zero fun e=>?_;have:=qt.all.length_eq;rw [tf.1 e,rF] at this;simp at this;omega
 obtain ⟨l,a,c,_,bX⟩:=qt.toRowsOf.single (by omega);have dz:=pZ.len;exact ⟨a,(So pZ Kr (by rw [rF];omega)).2 ⟨l,c,bX⟩⟩
theorem X0 (pZ:qm b) (aS:0<b.2.length) (ad:IV b≤1):∃ f c,Ir b (upto b.2.length) f c (Hh b):=by
 obtain ⟨l,f,c,e,bX,_⟩:=XZ pZ (b.2.length+1) (upto b.2.length) [] (-1) (by rw [rF];omega) Kr (Ju _) (.inl ⟨by omega,agV pZ aS ad⟩);refine ⟨f,c,?_⟩;unfold Hh;rw [e,List.nil_append];exact bX
def Il (b:p4):Int:=if rX b≠0 then rX b else if b.2.length=0 then 5 else if 1<IV b then 27 else 0
def Nc (b:p4):Row×Int:=if Il b≠0 then ([],Il b) else (Hh b,0)
theorem Tp:Il b=0↔qm b∧0<b.2.length∧IV b≤1:=by
 rw [←ID];unfold Il;split
 ·rename_i h;exact ⟨fun e=>absurd e h,fun e=>absurd e.1 h⟩
 ·rename_i h;have h:rX b=0:=by omega
  split
  ·constructor
   ·intro h;omega
   ·rintro ⟨_,h,_⟩;omega
  ·split
   ·constructor
    ·intro h;omega
    ·rintro ⟨_,_,h⟩;omega
   ·exact ⟨fun _=>⟨h,by omega,by omega⟩,fun _=>rfl⟩
end
end Go.Proofs.YtfakoboiahbhaaaGreat.Ab


namespace Go.Proofs.YtfakoboiahbhaaaGreat.Ab
open Go
section
variable {b:p4} {S:List Int}
theorem Wz:∀ (r pre:Row),((pre++r).map (·.1)).Nodup→IH pre r=false
 | [],_,_=>rfl
 | p::r,pre,h=>by
   rw [IH,if_neg]
   ·exact Wz r (pre++[p]) (by simpa using h)
   ·intro al;obtain ⟨q,a3,e⟩:=uw.1 al;have e:=of_decide_eq_true e;rw [td,List.nodup_append] at h;exact h.2.2 q.1 (wg a3) p.1 (by simp) e
theorem adt (pZ:qm b) {r:Row} {a c:Int} (aS:r≠[]) (bO:∀ p∈r,Im b p) (aN:(r.map (·.1)).Nodup) (aO:qE b a r=some c):It b r=(a,c,0):=by
 unfold It;rw [if_neg (by rw [ID.2 pZ];simp)]
 match r,aS,bO,aN,aO with
 | p::r,_,bO,aN,aO =>
   have ad:((p::r).any (Hi b))=false:=by
    rw [List.any_eq_false];intro q a3;rw [Bool.not_eq_true];exact Pa.2 (bO q a3)
   have af:IH [] (p::r)=false:=Wz _ _ (by simpa using aN);have aG:=(Jr.1 aO).1;dsimp only;rw [if_neg (by rw [ad];simp),if_neg (by rw [af];simp),aG,aO]
end
end Go.Proofs.YtfakoboiahbhaaaGreat.Ab


namespace Go.Proofs.YtfakoboiahbhaaaGreat.Ab
open Go
set_option maxRecDepth 20000
set_option maxHeartbeats 4000000

end Go.Proofs.YtfakoboiahbhaaaGreat.Ab


namespace Go.Proofs.YtfakoboiahbhaaaGreat.Ab
open Go
set_option maxRecDepth 20000
set_option maxHeartbeats 4000000

end Go.Proofs.YtfakoboiahbhaaaGreat.Ab


namespace Go.Proofs.YtfakoboiahbhaaaGreat.Ab
open Go
section
variable {b:p4}
end
end Go.Proofs.YtfakoboiahbhaaaGreat.Ab


namespace Go.Proofs.YtfakoboiahbhaaaGreat.Ab
open Go
def R5:c8:={ ops:=[[],[],[{},{},{ takes:=[true],mode:=1 }],[],[{},{ takes:=[true] },{ takes:=[true] }],[],[],[],[{},{ takes:=[true] },{},{ takes:=[false,true] }],[{},{},{},{ takes:=[false,true,true],mode:=1 },{ takes:=[true],mode:=2 }],[],[],[{},{ takes:=[true] }],[{},{ takes:=[true] },{ takes:=[true,true] },{},{ takes:=[false,true] }],[{},{},{ mode:=3 },{ takes:=[true] },{},{ takes:=[true] },{ takes:=[true] },{ takes:=[true] }],[{},{ takes:=[true] },{ takes:=[true] },{ takes:=[true] },{},{ takes:=[true,true] },{ takes:=[true,false,true] },{ takes:=[true] },{},{},{ takes:=[true] },{ mode:=3 },{ takes:=[true,true] }],[{ takes:=[true] },{ takes:=[true] },{ takes:=[true] },{ takes:=[true,true] },{ takes:=[true] }],[{ takes:=[true] },{ takes:=[true] }],[{ takes:=[true] },{ takes:=[true] }],[{},{ takes:=[true] },{ takes:=[true] }],[{ takes:=[true] },{ takes:=[true] }],[{ takes:=[true] },{ mode:=3 },{},{ takes:=[false,true] }],[{ takes:=[true] },{},{ takes:=[true] },{ takes:=[true,true] },{ takes:=[true] }],[{ takes:=[true] },{},{ takes:=[false,true,true],mode:=1 },{ takes:=[true] }],[{},{ takes:=[true] },{ mode:=3 },{ takes:=[true] },{},{ takes:=[true] },{ takes:=[true] }],[{ takes:=[true] },{ takes:=[true] }]],h7:=[(0,(Ez false [0,1,2,3,75])),(2,(Ez false [0,1,2,4,13,3,58])),(4,(Ez false [0,1,2,4,1,2,10,3,7,1,50]))] }
noncomputable def Yp:ez :=
 Gz [gM 5 [] (.x' 0 1 [.int .i64 0] []),Gp 6 0,gM 7 [.hG 5,.hG 6] (.app 1 8),Gp 2 7] .ret
noncomputable def Yo:ez :=
 Gz [gM 2 [.iA (.ay [] 0 .full)] (.nil 1)] (.seq (Gz [Gn 3 0, gM 4 [.hJ 3, .iA (.ay [] 0 .full)] (.other (Oper.mk (some 4) (Op.binOp .eql 38 (Operand.tmp 3) (Operand.const (Value.slice none 0 0)) 38) 4 "slices.go:357" (Array.mk [Edge.mk 0 Ground.data]) none) 0)] (.cond (.sl 4) (Gz [gM 2 [.iA (.ay [] 0 .full)] (.nil 1)] .ret) .skip)) Yp)
theorem afK:zf Go.Proofs.Tryz.prog V5 75=some (Yo,8,[.tmp 2]):=by kernel_rfl
noncomputable def QG:ez :=
 .j0 false [Gp 55 6,gM 56 [.hJ 11] (.pT (.str 2)),gM 57 [.hJ 56] (.x' 1 2 [.int .i64 0,.int .i64 0] [0]),gM 58 [.hG 55,.hG 57] (.app 2 16),Gp 6 58]
noncomputable def Up:ez :=
 Gz [Gn 42 5,F0 43 42 0 .lss,Gp 44 43,cP 45 [.hG 12] 44 false .iQ,cP 46 [.sl 5] 44 false .iQ,cP 47 [.hJ 45,.hJ 46] 44 false (.bin .eql),gM 48 [.hJ 44,.iA (.bool true),.hJ 47] .pick,Gp 49 48,cP 50 [.sl 0] 49 true .iQ,cP 51 [.sl 9] 49 true .iQ,cP 52 [.hG 13] 49 true .iQ,⟨some 53,[.iA (.func 109 [] []),.sl 50,.sl 51,.sl 52],some (49,true),none,.call 3⟩,gM 54 [.hJ 49,.hJ 53,.iA (.bool false)] .pick] (.cond (.sl 54) QG .skip)
noncomputable def Uq:ez :=
 Gz [Gn 37 0,gM 38 [.sl 11] (.pT (.str 2)),gM 39 [.iA (.func 68 [] []),.sl 37,.sl 38] (.call 3),Gp 36 39,GJ 40 36 0,gM 41 [.hJ 36] (.ext 1),Gp 12 40,Gp 13 41] Up
noncomputable def Ur:ez :=
 Gz [gM 33 [.sl 8] (.pT .one),Gp 34 10,gM 35 [.hJ 33,.hJ 34] (.build [.int .i64 0,.int .i64 0] [(0,1),(1,1)]),gM 11 [] (.alloc [.int .i64 0,.int .i64 0]),⟨none,[.sl 11,.hG 35],none,none,.st 2⟩] Uq
noncomputable def Us:ez :=
 .block 5 (Gz [Gn 32 30,Gp 10 32] Ur)
noncomputable def QI:ez :=
 Gz [Gm 30 0] (.block 4 (.loop (some (Ez false [0,1,2,4,1,2,10,3,7,1,50])) (Gz [gM 31 [.sl 30,.iA (.int .i64 2)] (.bin .lss)] (.seq (.cond (.sl 31) .skip (.exit 4)) (.seq Us (Gs [FZ 59 30 1,Gp 30 59]))))))
noncomputable def Ut:ez :=
 Gz [Gn 26 4, gM 27 [.iA (.func 75 [] []), .sl 26] (.call 0), gM 28 [.sl 8] (.zv 108 0 1), gM 29 [.iA (.func 107 [] []), .hG 27, .hG 28] (.call 1), ⟨some 9, [.hG 29], none, some 29, .other (Oper.mk (some 9) (Op.assign (Operand.tmp 29)) 38 "table.go:204" (Array.mk [Edge.mk 3 Ground.data, Edge.mk 3 Ground.chain, Edge.mk 0 Ground.phase, Edge.mk 1 Ground.phase, Edge.mk 2 Ground.phase, Edge.mk 3 Ground.phase]) none) 2⟩] QI
noncomputable def Uu:ez :=
 .block 3 (Gz [gM 24 [.sl 20,.sl 22] (.pM 1),Gl 25 24,gM 8 [] (.alloc [.int .i64 0]),⟨none,[.sl 8,.hG 25],none,none,.st 1⟩] Ut)
noncomputable def Uv:ez :=
 .j0 false [Gn 75 0,gM 76 [.hJ 14] (.pT (.str 2)),gM 77 [.iA (.func 68 [] []),.sl 75,.sl 76] (.call 3),Gp 74 77,GJ 78 74 0,gM 79 [.hJ 74] (.ext 1),Gp 5 79]
noncomputable def Uj:ez :=
 Gz [Gp 71 4,gM 72 [.sl 14] (.zv 112 0 1),gM 73 [.iA (.func 107 [] []),.hG 71,.hG 72] (.call 1),Gp 4 73] Uv
noncomputable def Uk:ez :=
 Gz [Gp 67 3,gM 68 [.sl 14] (.pT (.str 2)),gM 69 [.hJ 68] (.x' 1 2 [.int .i64 0,.int .i64 0] [0]),gM 70 [.hG 67,.hG 69] (.app 2 16),Gp 3 70] Uj
noncomputable def Ul:ez :=
 Gz [Gp 65 6,gM 66 [.iA (.func 110 [] []),.sl 65,.iA (.func 111 [] [])] (.call 3),gM 14 [] (.alloc [.int .i64 0,.int .i64 0]),⟨none,[.sl 14,.hG 66],none,none,.st 2⟩] Uk
noncomputable def Um:ez :=
 .seq (Gz [Gn 61 6,Gk 62 61,F0 63 62 0 .eql] (.cond (.sl 63) (Gz [Gp 64 3,Gp 2 64] .ret) .skip)) Ul
noncomputable def QH:ez :=
 .seq (Gz [Gn 20 4,gM 21 [.sl 20] .pV,Gm 22 0] (.block 2 (.loop (some (Ez false [0,1,2,4,13,3,58])) (Gz [gM 23 [.sl 22,.sl 21] (.bin .lss)] (.seq (.cond (.sl 23) .skip (.exit 2)) (.seq Uu (Gs [FZ 60 22 1,Gp 22 60]))))))) Um
noncomputable def Un:ez :=
 .seq (Gz [Gn 17 4,Gk 18 17,F0 19 18 0 .gtr] (.cond (.sl 19) .skip (.exit 0))) (.block 1 (Gz [gM 6 [.iA (.ay [] 0 .full)] (.nil 2)] QH))
noncomputable def Ys:ez :=
 .block 0 (.loop (some (Ez false [0,1,2,3,75])) Un)
noncomputable def Uo:ez :=
 Gz [Gn 15 0,gM 16 [.iA (.func 77 [] []),.sl 15] (.call 0),⟨some 4,[.hG 16],none,some 16,.A6⟩] (Gz [Gm 5 (-1)] (.seq Ys (Gz [Gp 80 3,Gp 2 80] .ret)))
noncomputable def Yr:ez :=
 Gz [gM 2 [.iA (.ay [] 0 .full)] (.nil 2)] (Gz [gM 3 [.iA (.ay [] 0 .full)] (.nil 2)] Uo)
theorem afM:zf Go.Proofs.Tryz.prog R5 85=some (Yr,81,[.tmp 2]):=by kernel_rfl
end Go.Proofs.YtfakoboiahbhaaaGreat.Ab


namespace Go.Proofs.YtfakoboiahbhaaaGreat.Ab
open Go
set_option maxRecDepth 20000
set_option maxHeartbeats 4000000
theorem Yv (z:I):∀ n:Nat,eY n [z]=List.replicate n z
 | 0=>rfl
 | n+1=>by simp [eY,Yv z n,List.replicate_succ]
theorem YA {H:List au} {id:Nat} (l r:List Int) (h:H[id]?=some (.cells ((l++r).map hP))):rowOf H (.ref id 0 l.length none 1)=some (l.map hP):=by
 simp only [rowOf,h,sO,tA,sZ,su,Nat.le_add_right,if_true,sQ];rw [td,vk (by simp),tx];rfl
theorem Wo (lo id off len:Nat) (H:List au) (l:List I) (bD:lo≤id) (ah:H[id]?=some (.cells l)) (h:off+len≤l.length) :
  kR Go.Proofs.Tryz.prog lo #[38] H [.ref id off len none 1]=some (.tuple [],H.set id (.cells (l.take off++List.replicate len (hP 0)++l.drop (off+len)))):=by
 have e1:((#[38]:Array TypeId)[0]?).bind Go.Proofs.Tryz.prog.underlying=some (.slice 3):=by kernel_rfl
 have ck:bS Go.Proofs.Tryz.prog 3=some 1:=by kernel_rfl
 have dF:zeroCells Go.Proofs.Tryz.prog 3=some [.int .i64 0]:=by kernel_rfl
 have oH:setCells off (eY len [I.int .i64 0]) l=l.take off++List.replicate len (hP 0)++l.drop (off+len):=by
  apply List.ext_getElem?;intro j;rw [n7 _ _ _ _ (by rw [ie];simp;omega),ie,Yv];simp only [tL,tA];by_cases aw:j<off
  ·rw [if_neg (by omega),sj,sB (by simp;omega),List.getElem?_take_of_lt aw]
  ·by_cases fl:j<off+len
   ·rw [if_pos ⟨by omega,fl⟩,sB (by simp;omega),sM (by simp;omega),vC,vC,sV,if_pos (by omega),if_pos (by omega)]
   ·rw [if_neg (by omega),sM (by simp;omega),sY];congr 1;simp;omega
 unfold kR;simp only [e1,ck,dF,g7,ah,sf,if_pos bD];rw [if_pos ⟨trivial,rfl,by decide⟩,if_pos (by omega),oH];rfl
theorem Wd (A cur rest:List Int) (x:Nat) (h:A.length≤x) (al:x<cur.length):((A++cur.drop A.length++rest).map hP)[x]?=some (hP (cur.getD x 0)):=by
 rw [sA,sB (by simp;omega),sM h,sY,show A.length+(x-A.length)=x by omega,sq al];simp [al]
theorem YK (cur rest A:List Int) (v:Int) (h:A.length<cur.length):((A++cur.drop A.length++rest).map hP).set A.length (hP v)=((A++[v])++cur.drop (A++[v]).length++rest).map hP:=by
 rw [sj,td,List.set_append_right _ _ (by simp),sZ,tR,sW h,List.cons_append,ss,List.set_cons_zero];simp
theorem QO {X:List au} {id:Nat} (l r:List Int) (h:X[id]?=some (.cells ((l++r).map hP))):ij X (.ref id 0 l.length none 1)=jh l:=by
 simp only [ij,hF,j6,YA l r h];rfl
theorem QN {X:List au} {GZ:FuncId} {rO cs:List I} (h:rO.map (hF X)=cs):ij X (.func GZ [] rO)=.func GZ [] cs:=by
 simp only [ij,tz];rw [←h]
theorem Z1 (s:List Int) (p:Int→Bool) (ai:s.length≤1000):Nr s (fun x=>some (p x))=some (posOf p s 0):=by
 have:=UU (s:=s) (f:=fun x=>some (p x)) (p:=p) (fun _ _=>rfl) (by omega) p_ 0 0 rfl (sr _) (rn (by omega));rw [sQ] at this;rw [Nr];exact this
theorem Tw (p:Int→Bool):∀ (l:List Int) (i:Nat),(posOf p l i=-1∧∀ x∈l,p x=false)∨∃ k,∃ (h:k<l.length),posOf p l i=((i+k:Nat):Int)∧p l[k]=true∧∀ x∈l.take k,p x=false
 | [],i=>.inl ⟨rfl,by simp⟩
 | x::l,i=>by
   by_cases al:p x=true
   ·exact .inr ⟨0,by simp,by simp [posOf,al],al,by simp⟩
   ·rcases Tw p l (i+1) with ⟨ad,af⟩ | ⟨k,h,ad,af,aG⟩
    ·exact .inl ⟨by rw [posOf,if_neg al];exact ad,fun y a0=>(sk.1 a0).elim (fun e=>by rw [e];simpa using al) (af y)⟩
    ·refine .inr ⟨k+1,by simp;omega,by rw [posOf,if_neg al,ad];omega,by simpa using af,?_⟩;intro y a0;rw [ve] at a0;rcases sk.1 a0 with rfl | a0
     ·simpa using al
     ·exact aG y a0
section
variable {id lo:Nat} {H:List au} {GZ:FuncId} {rO cs:List I} {p:Int→Bool} {cur rest:List Int}
theorem adB (bD:lo≤id) (aQ:∀ c:au,rO.map (ij (H.set id c))=cs) (Cn:rO.map (hF H)=cs) (KG:rS cs) (ao:cur.length≤1000) (av:∀ x,ql GZ (hP x::cs) (B (p x))) (ah:H[id]?=some (.cells ((cur++rest).map hP))) :
  Sem Go.Proofs.Tryz.prog (.fn 107) [.ref id 0 cur.length none 1,.func GZ [] rO] H lo (.ref id 0 (cur.filter fun x=>!p x).length none 1) (H.set id (.cells ((cur.filter (fun x=>!p x)++List.replicate (cur.length-(cur.filter fun x=>!p x).length) 0++rest).map hP))):=by
 have aE:=(sa.1 ah).1;have gs:∀ c:au,(H.set id c)[id]?=some c:=fun c=>by rw [si aE]
 have same:H.set id (.cells ((cur++rest).map hP))=H:=by
  obtain ⟨ad,af⟩:=sa.1 ah;rw [←af,uS]
 refine Ig dI XK rfl ⟨by simp,fun j ad af=>by rw [sg (by omega)]⟩ fun Q bl=>?_;unfold TY T0;obtain ⟨mZ,Hp⟩:∃ c,O5=c:=⟨_,rfl⟩;rw [Hp];conv=>whnf
 refine ⟨_,_,call6 (bs:=jh cur::[.func GZ [] cs]) ?_ ?_ (UW KG (f:=fun x=>some (p x)) (fun y r aj=>by obtain rfl:=Option.some.inj aj;exact av y) (Z1 cur p (by omega))) rfl,?_⟩
 ·simp only [ss,tz,QO cur rest ah,QN Cn];show [I.cr (jh cur),I.cr (.func GZ [] cs)]=_;rfl
 ·simp only [ss,tz,QO cur rest ah,QN Cn,tt,ua,KG.OH,tU];exact rp (fun _=>rfl) _ _ _
 conv=>whnf
 subst Hp;unfold O5;obtain ⟨b7,hn⟩:∃ c,O2=c:=⟨_,rfl⟩;obtain ⟨fP,G5⟩:∃ c,O4=c:=⟨_,rfl⟩;rw [hn,G5];rcases Tw p cur 0 with ⟨q1,aW⟩ | ⟨i,hi,q1,aW,cz⟩
 ·rw [q1];conv=>whnf
  have e:cur.filter (fun x=>!p x)=cur:=uq.2 fun x al=>by rw [aW x al];rfl
  rw [e,tR,List.replicate_zero,sP,same] at bl;exact bl _ _ _ ⟨.inr rfl,⟨rfl,fun j o aw=>.inr aw⟩,rfl⟩
 ·rw [q1,sO];conv=>whnf
  have fR:(cur.take i).filter (fun x=>!p x)=cur.take i:=uq.2 fun x al=>by rw [cz x al];rfl
  have e1:(cur.take (i+1)).filter (fun x=>!p x)=cur.take i:=by
   rw [tX hi,tW,fR];simp [aW]
  rw [rD i (by omega)];refine .intro (fun m T H'=>∃ j,i+1≤j∧j≤cur.length∧m=cur.length-j∧((cur.take j).filter (fun x=>!p x)).length+1≤j∧T=GG 42 [(0,.ref id 0 cur.length none 1),(1,.func GZ [] rO),(5,hP ((cur.take j).filter (fun x=>!p x)).length),(6,hP (j:Nat))]∧H'=H.set id (.cells (((cur.take j).filter (fun x=>!p x)++cur.drop ((cur.take j).filter (fun x=>!p x)).length++rest).map hP))) _ ⟨i+1,sd _,hi,rfl,?_,?_,?_⟩ ?_
  ·rw [e1,sV];omega
  ·rw [e1,sV,tF (by omega)];rfl
  ·rw [e1,sV,tF (by omega),vR];exact same.symm
  rintro m T H' ⟨j,hY,fl,rfl,hw,rfl,rfl⟩;subst hn;unfold O2 TZ;obtain ⟨bk,b8⟩:∃ c,O1=c:=⟨_,rfl⟩;rw [b8];conv=>whnf
  refine IG (fun h=>?_) (fun h=>?_)
  ·(have hZ:j<cur.length:=by omega);(conv=>whnf);refine ⟨by omega,?_⟩;(conv=>whnf);refine DW (gs _) ?_;(conv=>whnf);refine DW (x:=hP (cur.getD j 0)) (by rw [show 0+(j:Int).toNat*1=j by simp];exact Wd _ cur rest j (by omega) hZ) ?_;(conv=>whnf);subst b8;refine I9 fun mT Kb=>?_;unfold O1;obtain ⟨a',cb⟩:∃ c,O0=c:=⟨_,rfl⟩;rw [cb];(conv=>whnf);refine ⟨_,_,call6 (bs:=hP (cur.getD j 0)::cs) ?_ ?_ (av (cur.getD j 0)) rfl,?_⟩
   ·show (_::rO.map (ij _)).map I.cr=_;rw [aQ,ss,KG.cr];rfl
   ·show (_::rO.map (ij _)).all (cq 8)=true;rw [aQ];exact pY rfl KG.MO
   (conv=>whnf);(have Se:cur.getD j 0=cur[j]:=by simp [hZ]);have ck:(cur.take (j+1)).filter (fun x=>!p x)=(cur.take j).filter (fun x=>!p x)++if (!p (cur.getD j 0))=true then [cur.getD j 0] else []:=by
    rw [tX hZ,tW,Se];simp only [tp,vj]
   cases ag:p (cur.getD j 0) with
   | false =>
     rw [ag,if_pos (show (!false)=true from rfl)] at ck;(conv=>whnf);subst cb;unfold O0;(conv=>whnf);refine ⟨by omega,?_⟩;(conv=>whnf);rw [show Nat.ble lo id=true from t_ bD];(conv=>whnf);refine DW (gs _) ?_;(conv=>whnf);refine A_ (by simp;omega) ?_;(conv=>whnf);refine Kb _ _ _ ?_;(conv=>whnf);refine ⟨cur.length-(j+1),by omega,j+1,by omega,by omega,rfl,by rw [ck,su,tL];omega,?_,?_⟩
     ·rw [ck,su,tL,←rD j (by omega),←rD ((cur.take j).filter (fun x=>!p x)).length (by omega)];rfl
     ·rw [sR,ck,show 0+(((cur.take j).filter (fun x=>!p x)).length:Int).toNat*1=((cur.take j).filter (fun x=>!p x)).length by simp,YK cur rest ((cur.take j).filter (fun x=>!p x)) _ (by omega)]
   | true =>
     rw [ag,if_neg (by decide),sP] at ck;(conv=>whnf);refine Kb _ _ _ ?_;(conv=>whnf);refine ⟨cur.length-(j+1),by omega,j+1,by omega,by omega,rfl,by rw [ck];omega,?_,by rw [ck]⟩;rw [ck,←rD j (by omega)];rfl
  ·(obtain rfl:j=cur.length:=by omega);rw [tQ] at hw ⊢;(conv=>whnf);subst G5;unfold O4;obtain ⟨dX,B1⟩:∃ c,O3=c:=⟨_,rfl⟩;rw [B1];(conv=>whnf);refine ⟨rfl,⟨by omega,by omega⟩,fun _=>?_,fun h=>absurd h (by omega)⟩;(conv=>whnf);refine ⟨_,_,fun C=>(OB rfl).trans (Wo lo id _ _ _ _ bD (gs _) (by simp <;> omega)),?_⟩;(conv=>whnf);subst B1;unfold O3;(conv=>whnf);refine ⟨rfl,⟨by omega,by omega⟩,?_⟩;(conv=>whnf);refine bl _ _ _ ⟨.inr rfl,?_,rfl⟩;rw [sR];generalize cur.filter (fun x=>!p x)=A at hw bl ⊢;have e:(List.take (0+(A.length:Int).toNat*1) ((A++cur.drop A.length++rest).map hP)++List.replicate (cur.length-(A.length:Int).toNat) (hP 0)++List.drop (0+(A.length:Int).toNat*1+(cur.length-(A.length:Int).toNat)) ((A++cur.drop A.length++rest).map hP))=(A++List.replicate (cur.length-A.length) 0++rest).map hP:=by
    rw [show 0+(A.length:Int).toNat*1=A.length by simp,show (A.length:Int).toNat=A.length by simp];rw [←ui,←uj,sj A,vk rfl,show A.length+(cur.length-A.length)=cur.length by omega,←sj,wC (by simp;omega)];simp
   rw [e];exact ⟨rfl,fun j o aw=>.inr aw⟩
theorem adE {K8:List au} (G7:H=K8++[.cells (cur.map hP)]) (pf:id=K8.length) (aj:rest=[]) (aS:cur.length≠0) (bD:lo≤id) (aQ:∀ c:au,rO.map (ij (H.set id c))=cs) (Cn:rO.map (hF H)=cs) (KG:rS cs) (ao:cur.length≤1000) (av:∀ x,ql GZ (hP x::cs) (B (p x))) :
  Sem Go.Proofs.Tryz.prog (.fn 107) [.ay (cur.map hP) cur.length (.uniq 1),.func GZ [] rO] K8 lo (.ref id 0 (cur.filter fun x=>!p x).length none 1) (H.set id (.cells ((cur.filter (fun x=>!p x)++List.replicate (cur.length-(cur.filter fun x=>!p x).length) 0++rest).map hP))):=by
 have ah:H[id]?=some (.cells ((cur++rest).map hP)):=by rw [G7,pf,aj,sP];simp
 have aE:=(sa.1 ah).1;have gs:∀ c:au,(H.set id c)[id]?=some c:=fun c=>by rw [si aE]
 have same:H.set id (.cells ((cur++rest).map hP))=H:=by
  obtain ⟨ad,af⟩:=sa.1 ah;rw [←af,uS]
 refine Ig dI XK rfl ⟨by rw [G7];simp,fun j ad af=>by rw [sg (by omega),G7,sB (by omega)]⟩ fun Q bl=>?_;unfold TY T0;obtain ⟨mZ,Hp⟩:∃ c,O5=c:=⟨_,rfl⟩;rw [Hp];conv=>whnf
 refine .inl ⟨aS,?_⟩;rw [←G7,←pf];conv=>whnf
 refine ⟨_,_,call6 (bs:=jh cur::[.func GZ [] cs]) ?_ ?_ (UW KG (f:=fun x=>some (p x)) (fun y r aj=>by obtain rfl:=Option.some.inj aj;exact av y) (Z1 cur p (by omega))) rfl,?_⟩
 ·simp only [ss,tz,QO cur rest ah,QN Cn];show [I.cr (jh cur),I.cr (.func GZ [] cs)]=_;rfl
 ·simp only [ss,tz,QO cur rest ah,QN Cn,tt,ua,KG.OH,tU];exact rp (fun _=>rfl) _ _ _
 conv=>whnf
 subst Hp;unfold O5;obtain ⟨b7,hn⟩:∃ c,O2=c:=⟨_,rfl⟩;obtain ⟨fP,G5⟩:∃ c,O4=c:=⟨_,rfl⟩;rw [hn,G5];rcases Tw p cur 0 with ⟨q1,aW⟩ | ⟨i,hi,q1,aW,cz⟩
 ·rw [q1];conv=>whnf
  have e:cur.filter (fun x=>!p x)=cur:=uq.2 fun x al=>by rw [aW x al];rfl
  rw [e,tR,List.replicate_zero,sP,same] at bl;exact bl _ _ _ ⟨.inr rfl,⟨rfl,fun j o aw=>.inr aw⟩,rfl⟩
 ·rw [q1,sO];conv=>whnf
  have fR:(cur.take i).filter (fun x=>!p x)=cur.take i:=uq.2 fun x al=>by rw [cz x al];rfl
  have e1:(cur.take (i+1)).filter (fun x=>!p x)=cur.take i:=by
   rw [tX hi,tW,fR];simp [aW]
  rw [rD i (by omega)];refine .intro (fun m T H'=>∃ j,i+1≤j∧j≤cur.length∧m=cur.length-j∧((cur.take j).filter (fun x=>!p x)).length+1≤j∧T=GG 42 [(0,.ref id 0 cur.length none 1),(1,.func GZ [] rO),(5,hP ((cur.take j).filter (fun x=>!p x)).length),(6,hP (j:Nat))]∧H'=H.set id (.cells (((cur.take j).filter (fun x=>!p x)++cur.drop ((cur.take j).filter (fun x=>!p x)).length++rest).map hP))) _ ⟨i+1,sd _,hi,rfl,?_,?_,?_⟩ ?_
  ·rw [e1,sV];omega
  ·rw [e1,sV,tF (by omega)];rfl
  ·rw [e1,sV,tF (by omega),vR];exact same.symm
  rintro m T H' ⟨j,hY,fl,rfl,hw,rfl,rfl⟩;subst hn;unfold O2 TZ;obtain ⟨bk,b8⟩:∃ c,O1=c:=⟨_,rfl⟩;rw [b8];conv=>whnf
  refine IG (fun h=>?_) (fun h=>?_)
  ·(have hZ:j<cur.length:=by omega);(conv=>whnf);refine ⟨by omega,?_⟩;(conv=>whnf);refine DW (gs _) ?_;(conv=>whnf);refine DW (x:=hP (cur.getD j 0)) (by rw [show 0+(j:Int).toNat*1=j by simp];exact Wd _ cur rest j (by omega) hZ) ?_;(conv=>whnf);subst b8;refine I9 fun mT Kb=>?_;unfold O1;obtain ⟨a',cb⟩:∃ c,O0=c:=⟨_,rfl⟩;rw [cb];(conv=>whnf);refine ⟨_,_,call6 (bs:=hP (cur.getD j 0)::cs) ?_ ?_ (av (cur.getD j 0)) rfl,?_⟩
   ·show (_::rO.map (ij _)).map I.cr=_;rw [aQ,ss,KG.cr];rfl
   ·show (_::rO.map (ij _)).all (cq 8)=true;rw [aQ];exact pY rfl KG.MO
   (conv=>whnf);(have Se:cur.getD j 0=cur[j]:=by simp [hZ]);have ck:(cur.take (j+1)).filter (fun x=>!p x)=(cur.take j).filter (fun x=>!p x)++if (!p (cur.getD j 0))=true then [cur.getD j 0] else []:=by
    rw [tX hZ,tW,Se];simp only [tp,vj]
   cases ag:p (cur.getD j 0) with
   | false =>
     rw [ag,if_pos (show (!false)=true from rfl)] at ck;(conv=>whnf);subst cb;unfold O0;(conv=>whnf);refine ⟨by omega,?_⟩;(conv=>whnf);rw [show Nat.ble lo id=true from t_ bD];(conv=>whnf);refine DW (gs _) ?_;(conv=>whnf);refine A_ (by simp;omega) ?_;(conv=>whnf);refine Kb _ _ _ ?_;(conv=>whnf);refine ⟨cur.length-(j+1),by omega,j+1,by omega,by omega,rfl,by rw [ck,su,tL];omega,?_,?_⟩
     ·rw [ck,su,tL,←rD j (by omega),←rD ((cur.take j).filter (fun x=>!p x)).length (by omega)];rfl
     ·rw [sR,ck,show 0+(((cur.take j).filter (fun x=>!p x)).length:Int).toNat*1=((cur.take j).filter (fun x=>!p x)).length by simp,YK cur rest ((cur.take j).filter (fun x=>!p x)) _ (by omega)]
   | true =>
     rw [ag,if_neg (by decide),sP] at ck;(conv=>whnf);refine Kb _ _ _ ?_;(conv=>whnf);refine ⟨cur.length-(j+1),by omega,j+1,by omega,by omega,rfl,by rw [ck];omega,?_,by rw [ck]⟩;rw [ck,←rD j (by omega)];rfl
  ·(obtain rfl:j=cur.length:=by omega);rw [tQ] at hw ⊢;(conv=>whnf);subst G5;unfold O4;obtain ⟨dX,B1⟩:∃ c,O3=c:=⟨_,rfl⟩;rw [B1];(conv=>whnf);refine ⟨rfl,⟨by omega,by omega⟩,fun _=>?_,fun h=>absurd h (by omega)⟩;(conv=>whnf);refine ⟨_,_,fun C=>(OB rfl).trans (Wo lo id _ _ _ _ bD (gs _) (by simp <;> omega)),?_⟩;(conv=>whnf);subst B1;unfold O3;(conv=>whnf);refine ⟨rfl,⟨by omega,by omega⟩,?_⟩;(conv=>whnf);refine bl _ _ _ ⟨.inr rfl,?_,rfl⟩;rw [sR];generalize cur.filter (fun x=>!p x)=A at hw bl ⊢;have e:(List.take (0+(A.length:Int).toNat*1) ((A++cur.drop A.length++rest).map hP)++List.replicate (cur.length-(A.length:Int).toNat) (hP 0)++List.drop (0+(A.length:Int).toNat*1+(cur.length-(A.length:Int).toNat)) ((A++cur.drop A.length++rest).map hP))=(A++List.replicate (cur.length-A.length) 0++rest).map hP:=by
    rw [show 0+(A.length:Int).toNat*1=A.length by simp,show (A.length:Int).toNat=A.length by simp];rw [←ui,←uj,sj A,vk rfl,show A.length+(cur.length-A.length)=cur.length by omega,←sj,wC (by simp;omega)];simp
   rw [e];exact ⟨rfl,fun j o aw=>.inr aw⟩
end

section
variable {id lo:Nat} {H:List au}
theorem adw (l r:List Int) (aS:0<l.length) (ak:l.length≤1000) (ah:H[id]?=some (.cells ((l++r).map hP))) :
  Sem Go.Proofs.Tryz.prog (.fn 75) [.ref id 0 l.length none 1] H lo (.ay (l.map hP) l.length (.uniq 1)) H:=by
 refine Ig dI afK rfl ⟨sd _,fun j _ _=>rfl⟩ fun Q bl=>?_;unfold Yo Yp;conv=>whnf
 refine ⟨.bool false,H,fun C=>by kernel_rfl,?_⟩;conv=>whnf
 refine DW ah ?_;conv=>whnf
 refine ⟨by simp,?_⟩;rw [show List.map I.view (List.take (l.length*1) (List.drop 0 (List.map hP (l++r))))=l.map hP by rw [sQ,tA,td,vk (by simp),tx];rfl];conv=>whnf
 refine ⟨by simp,by omega,rfl,by omega,?_⟩;conv=>whnf
 exact bl _ _ _ ⟨.inr rfl,⟨rfl,fun j o aw=>.inr aw⟩,by rw [sO];rfl⟩
theorem abR {t:p4} (aS:0<t.2.length) (ak:t.2.length≤1000) :
  Sem Go.Proofs.Tryz.prog (.fn 77) [G1 t] H lo (.ay ((upto t.2.length).map hP) t.2.length (.uniq 1)) H:=by
 refine Ig dI XQ rfl ⟨sd _,fun j _ _=>rfl⟩ fun Q bl=>?_;unfold Vd PH;conv=>whnf
 refine .intro (fun m T H'=>∃ i:Nat,i≤t.2.length∧m=t.2.length-i∧T=GG 20 [(3,(.ay ((upto i).map hP) (upto i).length (.uniq 1))),(10,(hP (t.2.length:Int))),(11,(hP (i:Int)))]∧H'=H) _ ⟨0,by omega,rfl,rfl,rfl⟩ ?_;rintro m T H' ⟨i,hi,rfl,rfl,rfl⟩;conv=>whnf
 refine IG (fun h=>?_) (fun h=>?_)
 ·conv=>whnf
  refine ⟨rfl,by omega,rfl,?_,?_⟩
  ·rw [rF];omega
  erw [Lb hP (upto i) (i:Int)];conv=>whnf
  refine ⟨t.2.length-(i+1),by omega,i+1,by omega,rfl,?_,rfl⟩;rw [←rD i (by omega),Nl];rfl
 ·obtain rfl:i=t.2.length:=by omega
  conv=>whnf
  exact bl _ _ _ ⟨.inr rfl,⟨rfl,fun j o aw=>.inr aw⟩,by rw [rF];rfl⟩
theorem ad2 {P:Program} {C:b6} {o:Oper} {x:Operand} {l r:List Int} (aq:o.op=.assign x) (bD:lo≤id) (ah:H[id]?=some (.cells ((l++r).map hP))) :
  a8 P C lo o 2 [.ref id 0 l.length none 1] H=some (.ay (l.map hP) l.length .shared,H.set id .dead):=by
 unfold a8;rw [aq];show eQ P lo 2 o.type x H [.ref id 0 l.length none 1]=_;unfold eQ;simp only [bD,if_true,YA l r ah,sb,lenOf,sf,gT]
end

noncomputable def Ri:ez :=
 .loop (some (Ez false [1,1,2,2,6,3,10])) (Gz [gM 15 [.sl 14,.sl 13] (.bin .lss)] (.seq (.cond (.sl 15) .skip (.exit 0)) (.seq (.block 1 (Gz [gM 16 [.sl 12,.sl 14] (.pM 2),gM 17 [.hJ 16] (.pT (.str 2)),gM 7 [] (.alloc [.int .i64 0,.int .i64 0]),⟨none,[.sl 7,.hG 17],none,none,.st 2⟩] (Gz [Gn 18 1,gM 19 [.sl 7] (.pT (.str 2)),gM 20 [.sl 5] (.pT (.str 2)),gM 21 [.sl 18,.sl 19,.sl 20] (.call 6)] (.cond (.sl 21) (Gs [gM 22 [.hJ 7] (.pT (.str 2)),⟨none,[.sl 5,.hG 22],none,none,.st 2⟩]) .skip)))) (Gs [FZ 23 14 1,Gp 14 23]))))
noncomputable def aa0:ez :=
 Gz [gM 4 [] (.alloc [.int .i64 0,.int .i64 0])] (Gz [Gn 8 0,gM 9 [.hJ 8,.iA (.int .i64 0)] (.pM 2),gM 10 [.hJ 9] (.pT (.str 2)),gM 5 [] (.alloc [.int .i64 0,.int .i64 0]),⟨none,[.sl 5,.hG 10],none,none,.st 2⟩] (.seq (Gz [Gp 11 0,gM 12 [.hG 11,.iA (.int .i64 1)] (.AX 2 true false false),gM 13 [.sl 12] .pV,Gm 14 0] (.block 0 Ri)) (Gz [gM 24 [.hJ 5] (.pT (.str 2)),⟨none,[.sl 4,.hG 24],none,none,.st 2⟩] .ret)))
theorem afV:zf Tryz.prog RW 110=some (aa0,25,[.cell 4 (.str 2)]):=by kernel_rfl
def LG (l:qb) (better:((Int×Int)→(Int×Int)→Option Bool)) (p9:Int→Int→Option (Int×Int)):Nat→Int→Int→Int→Option (Int×Int)
 | 0,_,_,_=>none
 | m+1,s1,s2,s3 =>
   if (decide (s1<((l.drop (1:Int).toNat).length:Int)))=true then
    p8 (0≤s1∧s1<((l.drop (1:Int).toNat).length:Int)) <|
    (better (ix (l.drop (1:Int).toNat) s1) (s2,s3)).bind fun r1 =>
    if r1=true then
     LG l better p9 m (w (s1+(1:Int))) ((ix (l.drop (1:Int).toNat) s1).1) ((ix (l.drop (1:Int).toNat) s1).2)
    else
     LG l better p9 m (w (s1+(1:Int))) s2 s3
   else
    p9 s2 s3
def Q3 (l:qb) (better:((Int×Int)→(Int×Int)→Option Bool)):Option (Int×Int) :=
 p8 (0≤(0:Int)∧(0:Int)<(l.length:Int)) <|
 p8 (0≤(1:Int)∧(1:Int)≤(l.length:Int)) <|
 LG l better (fun xZ oi =>
   some (xZ,oi)) p_ (0:Int) ((ix l (0:Int)).1) ((ix l (0:Int)).2)
theorem aj8 {l:qb} {better:((Int×Int)→(Int×Int)→Option Bool)} {p9:Int→Int→Option (Int×Int)} {s1:Int} {s2:Int} {s3:Int} {M':FuncId} {KA:List I} (M1:rS KA) (SY:∀ (qA:(Int×Int)) (Bg:(Int×Int)) (r:Bool),better qA Bg=some r→ql M' ((.agg [(hP qA.1),(hP qA.2)])::(.agg [(hP Bg.1),(hP Bg.2)])::KA) (B r)) {v:(Int×Int)} {Q:q'}   (q8:∀ (xZ oi:Int) (q_:List au) (p6:List I),p9 xZ oi=some v→qU 25 [(4,(.ptr 0 0)),(5,(.ptr 1 0))] p6→Q (.exit 0) p6 (au.cells [(hP (0:Int)),(hP (0:Int))]::au.cells [(hP xZ),(hP oi)]::q_)) {T:List I} (bX:eR (Ez false [1,1,2,2,6,3,10]) T=GG 25 [(1,(.func M' [] KA)),(4,(.ptr 0 0)),(5,(.ptr 1 0)),(12,(p3 (l.drop (1:Int).toNat) .shared)),(13,(hP ((l.drop (1:Int).toNat).length:Int))),(14,(hP s1))]) (h:LG l better p9 p_ s1 s2 s3=some v) :
  dC Tryz.prog RW 110 0 none Ri T [au.cells [(hP (0:Int)),(hP (0:Int))],au.cells [(hP s2),(hP s3)]] Q:=by
 unfold Ri;refine wp_loop bX ?_;refine .intro (fun m T H=>∃ (s1 s2 s3:Int) (Vn:List au),T=GG 25 [(1,(.func M' [] KA)),(4,(.ptr 0 0)),(5,(.ptr 1 0)),(12,(p3 (l.drop (1:Int).toNat) .shared)),(13,(hP ((l.drop (1:Int).toNat).length:Int))),(14,(hP s1))]∧H=(au.cells [(hP (0:Int)),(hP (0:Int))]::au.cells [(hP s2),(hP s3)]::Vn)∧LG l better p9 m s1 s2 s3=some v) p_ ⟨s1,s2,s3,[],rfl,rfl,h⟩ ?_;clear h bX;rintro m T H ⟨s1,s2,s3,Vn,rfl,rfl,h⟩;cases m
 ·exact q7 h
 rename_i m;rw [LG.eq_2] at h;conv=>whnf
 refine bs h (fun qf h=>?_) fun qf h=>?_
 ·rw [qf];conv=>whnf
  refine qk h id fun qo h=>?_;rw [qW p1 2 qw (l.drop (1:Int).toNat) s1 qo];conv=>whnf
  refine DW (x:=au.cells [(hP (0:Int)),(hP (0:Int))]) (by first | exact qi.h | rfl | (simp [sc,I.settle];done)) ?_
  conv=>whnf
  rw [rk];refine DW (x:=au.cells [(hP (ix (l.drop (1:Int).toNat) s1).1),(hP (ix (l.drop (1:Int).toNat) s1).2)]) (by first | exact qi.h | rfl | (simp [sc,I.settle];done)) ?_
  conv=>whnf
  obtain ⟨r1,qD,h⟩:=qd h;refine ⟨_,_,call6 (bs:=((.agg [(hP (ix (l.drop (1:Int).toNat) s1).1),(hP (ix (l.drop (1:Int).toNat) s1).2)])::(.agg [(hP s2),(hP s3)])::KA)) (by simp only [ss,M1.ij,M1.cr];rfl) (by simp only [ss,M1.ij];exact (pY (I1 (pY rfl (pY rfl rfl))) (pY (I1 (pY rfl (pY rfl rfl))) M1.MO))) (SY _ _ _ qD) rfl,?_⟩;conv=>whnf
  cases r1
  ·(conv=>whnf);replace h:=Hf rfl h;exact ⟨m,sm m,(w (s1+(1:Int))),s2,s3,_,rfl,rfl,h⟩
  ·(conv=>whnf);replace h:=Hg rfl h;refine DW (x:=au.cells [(hP (ix (l.drop (1:Int).toNat) s1).1),(hP (ix (l.drop (1:Int).toNat) s1).2)]) (by first | exact qi.h | rfl | (simp [sc,I.settle];done)) ?_
   (conv=>whnf);exact ⟨m,sm m,(w (s1+(1:Int))),(ix (l.drop (1:Int).toNat) s1).1,(ix (l.drop (1:Int).toNat) s1).2,_,rfl,rfl,h⟩
 ·rw [qf];conv=>whnf
  exact q8 _ _ _ _ h ⟨rfl,rfl⟩
theorem aj9 {l:qb} {better:((Int×Int)→(Int×Int)→Option Bool)} {M':FuncId} {KA:List I} (M1:rS KA) (SY:∀ (qA:(Int×Int)) (Bg:(Int×Int)) (r:Bool),better qA Bg=some r→ql M' ((.agg [(hP qA.1),(hP qA.2)])::(.agg [(hP Bg.1),(hP Bg.2)])::KA) (B r)) {v:(Int×Int)} (h:Q3 l better=some v):ql 110 [(.ay (l.flatMap p1) l.length .shared),(.func M' [] KA)] (.agg [(hP v.1),(hP v.2)]):=by
 refine qM dI afV rfl (I1 (pY rfl (pY rfl rfl))) fun Q bl=>?_;have jw:qu [.cell 4 (.str 2)] Q (fun v=>(.agg [(hP v.1),(hP v.2)])) v:=fun T H bI=>bl _ T H bI;unfold Q3 at h;unfold aa0;obtain ⟨Ho,qz⟩:∃ c,Ri=c:=⟨_,rfl⟩;rw [qz];conv=>whnf
 refine qk h id fun eU h=>?_;rw [qW p1 2 qw l (0:Int) eU];conv=>whnf
 refine qk h id fun fk h=>?_;erw [QQ p1 2 qw l (1:Int) fk];conv=>whnf
 subst qz;refine aj8 M1 SY ?_ (by exact rfl) h;intro xZ oi q_ p6 h qh;obtain ⟨qS,rfl⟩:=qh.ex;conv=>whnf
 exact p7 h jw rfl rfl

noncomputable def aaY:ez :=
 Gz [gM 3 [.iA (.bool false)] .iQ] (Gz [Gp 4 0,Gl 5 1,F1 6 4 5 .eql,Gp 3 6] .ret)
theorem afT:zf Tryz.prog VA 108=some (aaY,7,[.tmp 3]):=by kernel_rfl
def ZY (k c0:Int):Option Bool :=
 some (decide (k=c0))
theorem aj6 {k:Int} {c0:Int} {v:Bool} (h:ZY k c0=some v):ql 108 [(hP k),(.bU [(hP c0)])] (B v):=by
 refine qM dI afT rfl rfl fun Q bl=>?_;have jw:qu [.tmp 3] Q (fun v=>(B v)) v:=fun T H bI=>bl _ T H bI;unfold ZY at h;unfold aaY;conv=>whnf
 exact p7 h jw rfl rfl

noncomputable def aa1:ez :=
 Gz [gM 2 [.hG 0] .box,gM 3 [.hG 1] .box,gM 4 [.iA (.bool false)] .iQ] (Gz [F6 5 2 0,Gl 6 5,F6 7 3 0,Gl 8 7,F1 9 6 8 .lss,Gp 4 9] .ret)
theorem afW:zf Tryz.prog VC 111=some (aa1,10,[.tmp 4]):=by kernel_rfl
def Pf (x:(Int×Int)) (y:(Int×Int)):Option Bool :=
 some (decide (x.1<y.1))
theorem aj_ {x:(Int×Int)} {y:(Int×Int)} {v:Bool} (h:Pf x y=some v):ql 111 [(.agg [(hP x.1),(hP x.2)]),(.agg [(hP y.1),(hP y.2)])] (B v):=by
 refine qM dI afW rfl rfl fun Q bl=>?_;have jw:qu [.tmp 4] Q (fun v=>(B v)) v:=fun T H bI=>bl _ T H bI;unfold Pf at h;unfold aa1;conv=>whnf
 exact p7 h jw rfl rfl

noncomputable def aa2:ez :=
 Gz [gM 3 [.iA (.bool false)] .iQ] (Gz [Gp 4 0,F6 5 1 0,Gl 6 5,F1 7 4 6 .eql,Gp 3 7] .ret)
theorem afX:zf Tryz.prog VD 112=some (aa2,8,[.tmp 3]):=by kernel_rfl
def Z0 (k:Int) (c0:(Int×Int)):Option Bool :=
 some (decide (k=c0.1))
theorem aka {k:Int} {c0:(Int×Int)} {v:Bool} (h:Z0 k c0=some v):ql 112 [(hP k),(.bU [(hP c0.1),(hP c0.2)])] (B v):=by
 refine qM dI afX rfl rfl fun Q bl=>?_;have jw:qu [.tmp 3] Q (fun v=>(B v)) v:=fun T H bI=>bl _ T H bI;unfold Z0 at h;unfold aa2;conv=>whnf
 exact p7 h jw rfl rfl

theorem Qw (t:p4):cq 8 (G1 t)=true:=by
 show (([hP t.1,.ay (t.2.flatMap p1) t.2.length .shared]:List I).all (cq 7))=true;exact pY rfl (pY (qL (fun _=>(pY rfl (pY rfl rfl))) _ _ _) rfl)
section
variable {t:p4} {S:List Int} {H:List au} {bi k:Nat} {at_ i:Int} {can out:Row} {G3 Hs Ht:I} {K:cB→List I→List au→Prop}
theorem agW (pZ:qm t) (cm:q6 t S) (aN:S.Nodup) (hi:i∈S) (ao:can.length≤1000) (ag:H[bi]?=some (.cells [hP i]))
 (fC:∀ (Y:List au),K .normal (GG 81 [(0,G1 t),(3,.ay (out.flatMap p1) out.length (.uniq 2)),(4,.ref 0 0 S.length none 1),(5,hP at_),(6,.ay ((can++IE t S at_ i).flatMap p1) (can++IE t S at_ i).length (.uniq 2)),(8,.ptr bi 0),(9,.ay ((rY S i).map hP) (rY S i).length .shared),(20,.ref 0 0 S.length none 1),(21,hP S.length),(22,hP (k:Int)),(30,hP 2),(31,B false)]) (H++Y)) :
  dC Tryz.prog R5 85 0 none QI (GG 81 [(0,G1 t),(3,.ay (out.flatMap p1) out.length (.uniq 2)),(4,.ref 0 0 S.length none 1),(5,hP at_),(6,.ay (can.flatMap p1) can.length (.uniq 2)),(8,.ptr bi 0),(9,.ay ((rY S i).map hP) (rY S i).length .shared),(20,.ref 0 0 S.length none 1),(21,hP S.length),(22,hP (k:Int)),(23,G3),(26,Hs),(29,Ht)]) H K:=by
 have gX:=cm i hi;unfold QI;obtain ⟨dX,B1⟩:∃ c,Us=c:=⟨_,rfl⟩;rw [B1];conv=>whnf
 refine .intro (fun m T H'=>∃ (e:Nat) (Y:List au),e≤2∧m=2-e∧T=GG 81 [(0,G1 t),(3,.ay (out.flatMap p1) out.length (.uniq 2)),(4,.ref 0 0 S.length none 1),(5,hP at_),(6,.ay ((can++([(i,0),(i,1)].take e).filter (GR t S at_)).flatMap p1) (can++([(i,0),(i,1)].take e).filter (GR t S at_)).length (.uniq 2)),(8,.ptr bi 0),(9,.ay ((rY S i).map hP) (rY S i).length .shared),(20,.ref 0 0 S.length none 1),(21,hP S.length),(22,hP (k:Int)),(30,hP (e:Int))]∧H'=H++Y) 2 ⟨0,[],by omega,rfl,?_,by simp⟩ ?_
 ·rw [tg,vj,sP];rfl
 rintro m T H' ⟨e,Y,he,rfl,rfl,rfl⟩;conv=>whnf
 refine IG (fun h=>?_) (fun h=>?_)
 ·subst B1;unfold Us;obtain ⟨b7,hn⟩:∃ c,Ur=c:=⟨_,rfl⟩;rw [hn];conv=>whnf
  subst hn;unfold Ur;obtain ⟨bq,dZ⟩:∃ c,Uq=c:=⟨_,rfl⟩;rw [dZ];conv=>whnf
  refine DW (qF ag) ?_;conv=>whnf
  refine DW (x:=au.cells [(hP (0:Int)),(hP (0:Int))]) (by first | exact qi.h | rfl | (simp [sc,I.settle];done)) ?_
  conv=>whnf
  rw [rk];subst dZ;unfold Uq;obtain ⟨bk,b8⟩:∃ c,Up=c:=⟨_,rfl⟩;rw [b8];conv=>whnf
  refine DW (x:=au.cells [hP i,hP (e:Int)]) (by first | exact qi.h | rfl | (simp [sc,I.settle];done)) ?_
  conv=>whnf
  refine ⟨pY (Qw t) (pY rfl rfl),_,Jv (JL (p:=(i,(e:Int))) gX),?_⟩;conv=>whnf
  subst b8;unfold Up;obtain ⟨a',cb⟩:∃ c,QG=c:=⟨_,rfl⟩;rw [cb];conv=>whnf
  have I0:Mj t (rY S i) (fin t (i,(e:Int)))=some (Lj t (rY S i) (fin t (i,(e:Int)))):=(Sn pZ (Np cm i) (Pd aN i) _).1;have Da:∀ q:Bool,GR t S at_ (i,(e:Int))=q→([(i,0),(i,1)].take (e+1)).filter (GR t S at_)=([(i,0),(i,1)].take e).filter (GR t S at_)++if q=true then [(i,(e:Int))] else []:=fun q a3=>by
   subst a3;rcases (show e=0∨e=1 by omega) with rfl | rfl
   ·simp [tp]
   ·simp only [ve,tg,tp,vj];split <;> simp
  have M9:GR t S at_ (i,(e:Int))=true→_:=fun a3=>Da true a3;have fV:GR t S at_ (i,(e:Int))=false→([(i,0),(i,1)].take (e+1)).filter (GR t S at_)=([(i,0),(i,1)].take e).filter (GR t S at_):=fun a3=>by
   have:=Da false a3;rw [if_neg (by decide),sP] at this;exact this
  rw [if_pos rfl] at M9;have cC:(can++([(i,0),(i,1)].take e).filter (GR t S at_)).length≤1002:=by
   have ad:=tq (GR t S at_) ([(i,0),(i,1)].take e);rw [sV] at ad;simp only [su,sI,List.length_nil] at ad ⊢;omega
  rcases Je (decide (at_<0)) with eU | eU
  ·rw [eU];(conv=>whnf);refine ⟨pY (Qw t) (pY (rp (fun _=>rfl) _ _ _) (pY rfl rfl)),_,ZZ I0,?_⟩;(conv=>whnf);rcases Je (Lj t (rY S i) (fin t (i,(e:Int)))) with fk | fk
   ·rw [fk];(have a3:GR t S at_ (i,(e:Int))=true:=by unfold GR;rw [eU,fk];rfl);(conv=>whnf);subst cb;unfold QG;(conv=>whnf);refine DW (x:=au.cells [hP i,hP (e:Int)]) (by first | exact qi.h | rfl | (simp [sc,I.settle];done)) ?_
    (conv=>whnf);refine ⟨rfl,by omega,rfl,by omega,?_⟩;erw [Jd p1 _ (i,(e:Int))];(conv=>whnf);exact ⟨2-(e+1),by omega,e+1,Y++[au.cells [hP i,hP (e:Int)]],by omega,rfl,by rw [M9 a3,←sj,←rD e (by omega)] <;> rfl,by rw [sj] <;> rfl⟩
   ·rw [fk];(have a3:GR t S at_ (i,(e:Int))=false:=by unfold GR;rw [eU,fk];rfl);(conv=>whnf);exact ⟨2-(e+1),by omega,e+1,Y++[au.cells [hP i,hP (e:Int)]],by omega,rfl,by rw [fV a3,←rD e (by omega)] <;> rfl,by rw [sj] <;> rfl⟩
  ·rw [eU];(conv=>whnf);rcases Je (decide (qy t (i,(e:Int))=at_)) with qf | qf
   ·rw [qf];(conv=>whnf);refine ⟨pY (Qw t) (pY (rp (fun _=>rfl) _ _ _) (pY rfl rfl)),_,ZZ I0,?_⟩;(conv=>whnf);rcases Je (Lj t (rY S i) (fin t (i,(e:Int)))) with fk | fk
    ·rw [fk];(have a3:GR t S at_ (i,(e:Int))=true:=by unfold GR;rw [eU,fk,qf];rfl);(conv=>whnf);subst cb;unfold QG;(conv=>whnf);refine DW (x:=au.cells [hP i,hP (e:Int)]) (by first | exact qi.h | rfl | (simp [sc,I.settle];done)) ?_
     (conv=>whnf);refine ⟨rfl,by omega,rfl,by omega,?_⟩;erw [Jd p1 _ (i,(e:Int))];(conv=>whnf);exact ⟨2-(e+1),by omega,e+1,Y++[au.cells [hP i,hP (e:Int)]],by omega,rfl,by rw [M9 a3,←sj,←rD e (by omega)] <;> rfl,by rw [sj] <;> rfl⟩
    ·rw [fk];(have a3:GR t S at_ (i,(e:Int))=false:=by unfold GR;rw [eU,fk,qf];rfl);(conv=>whnf);exact ⟨2-(e+1),by omega,e+1,Y++[au.cells [hP i,hP (e:Int)]],by omega,rfl,by rw [fV a3,←rD e (by omega)] <;> rfl,by rw [sj] <;> rfl⟩
   ·rw [qf];(have a3:GR t S at_ (i,(e:Int))=false:=by unfold GR;rw [eU,qf];rfl);(conv=>whnf);exact ⟨2-(e+1),by omega,e+1,Y++[au.cells [hP i,hP (e:Int)]],by omega,rfl,by rw [fV a3,←rD e (by omega)] <;> rfl,by rw [sj] <;> rfl⟩
 ·obtain rfl:e=2:=by omega
  conv=>whnf
  exact fC Y
theorem YM {G:List au} {bi:Nat} {cs:List I} (h:G[bi]?=some (.cells cs)) (aC:(cs.map I.view).map (j6 G)=cs):[I.ptr bi 0].map (ij G)=[.bU cs]:=by
 simp only [ss,tz,ij,hF,h,sQ];rw [aC]
theorem YN {G:List au} {bi:Nat} {cs:List I} (h:G[bi]?=some (.cells cs)) (aC:(cs.map I.view).map (j6 G)=cs):[I.ptr bi 0].map (hF G)=[.bU cs]:=by
 simp only [ss,tz,hF,h,sQ];rw [aC]
theorem Wf {cs:List I} (h:cs.all (cq 6)=true):rS [.bU cs]:=⟨by
 simp only [tt,ua,tU];show cs.all (cq 6)=true
 exact h,by simp⟩
theorem ZT (S:List Int) (i:Int):(S.filter fun x=>!decide (x=i))=rY S i:=by
 unfold rY;congr 1;funext x;simp
theorem UF (G:List au) (a c:au):(G++[a]).set G.length c=G++[c]:=rk G a c
theorem Sa {b:p4} {S:List Int} {at_:Int}:∀ L:List Int,(L.flatMap (IE b S at_)).length≤2*L.length
 | []=>by simp
 | i::L=>by
   have a_:=Sa (b:=b) (S:=S) (at_:=at_) L;have ad:(IE b S at_ i).length≤2:=tq _ _;rw [List.flatMap_cons,su,sI];omega
theorem adk {b:p4} {S:List Int} {at_:Int} (ai:S.Pairwise (·<·)):(He b S at_).Pairwise fun p q=>p.1≤q.1:=by
 unfold He;have ad:∀ i,∀ x∈IE b S at_ i,x.1=i:=fun i x al=>by
  have:=(sK.1 al).1;simp only [sk,ug,or_false] at this;rcases this with rfl | rfl <;> rfl
 refine List.pairwise_flatMap.2 ⟨fun i _=>?_,ai.imp fun jy x al y a0=>?_⟩
 ·exact List.Pairwise.sublist List.filter_sublist (by simp)
 ·rw [ad _ x al,ad _ y a0];omega
theorem We {l:Row} (ak:l.length≤1000) {p:Int×Int}:∀ (m i:Nat) (z:Int),z=i→i≤(l.drop 1).length→(l.drop 1).length-i<m→(∀ q∈l.drop 1,p.1≤q.1)→LG l Pf (fun xZ oi=>some (xZ,oi)) m z p.1 p.2=some p
 | 0,_,_,_,_,h,_=>absurd h (by omega)
 | m+1,i,_,rfl,hi,hm,a3=>by
   rw [LG,show (1:Int).toNat=1 from rfl];by_cases h:(i:Int)<((l.drop 1).length:Int)
   ·(have ra:i<(l.drop 1).length:=by omega);have hle:=a3 _ (sD ra);(have Gb:(l.drop 1).length≤1000:=by simp;omega);rw [if_pos (decide_eq_true h),qc ⟨by omega,h⟩,re ra,Pf,sb,if_neg (by simp;simpa using hle),rz i (by omega)];exact We ak m (i+1) _ rfl (by omega) (by omega) a3
   ·rw [if_neg (by simpa using h)]
theorem ac6 {b:p4} {S:List Int} {at_:Int} (ai:S.Pairwise (·<·)) {p:Int×Int} {r:Row} (h:He b S at_=p::r) (ak:(p::r).length≤1000):Q3 (He b S at_) Pf=some p:=by
 have aj:=adk (b:=b) (at_:=at_) ai;rw [h] at aj ⊢;have jE:0<(p::r).length:=by simp
 have a3:∀ q∈(p::r).drop 1,p.1≤q.1:=(tc.1 aj).1;rw [Q3,qc ⟨by omega,by omega⟩,qc ⟨by omega,by omega⟩];have Cl:((p::r).drop 1).length≤(p::r).length:=by simp
 exact We ak p_ 0 0 rfl (by omega) (rn (by omega)) a3
theorem agU (pZ:qm t) (cm:q6 t S) (ai:S.Pairwise (·<·)) (aS:S≠[]) {Z:List Int} (ah:H[0]?=some (.cells ((S++Z).map hP))) (aq:out.length≤1000)
 (G8:∀ (a7:List I) (G:List au),He t S at_=[]→(jZ G a7 [.tmp 2]).map g'=some (.ay (out.flatMap p1) out.length (.uniq 2))→K .ret a7 G)
 (Kb:∀ (p:Int×Int) (r:Row) (RV:List Int) (RQ:List au) (Hj Hk Hl G3 JG Zu Zv Zw Zx:I),He t S at_=p::r→RQ[0]?=some (.cells ((rY S p.1++RV).map hP))→K .normal (GG 81 [(0,G1 t),(3,.ay ((out++[p]).flatMap p1) (out++[p]).length (.uniq 2)),(4,.ref 0 0 (rY S p.1).length none 1),(5,hP (fin t p)),(20,Hj),(21,Hk),(22,Hl),(23,G3),(63,Zu),(65,JG),(75,Zv),(76,Zw),(78,Zx)]) RQ) :
  dC Tryz.prog R5 85 0 none QH (GG 81 [(0,G1 t),(3,.ay (out.flatMap p1) out.length (.uniq 2)),(4,.ref 0 0 S.length none 1),(5,hP at_),(6,.ay [] 0 (.uniq 2))]) H K:=by
 have aN:S.Nodup:=ai.imp fun h e=>by omega
 have aee:S.length≤10:=sH (KM aN cm) pZ.len;unfold QH;obtain ⟨alF,WZ⟩:∃ c,Um=c:=⟨_,rfl⟩;obtain ⟨m0,IX⟩:∃ c,Uu=c:=⟨_,rfl⟩;rw [WZ,IX];conv=>whnf
 refine .intro (fun m T H'=>∃ (k:Nat) (Y:List au),k≤S.length∧m=S.length-k∧T=GG 81 [(0,G1 t),(3,.ay (out.flatMap p1) out.length (.uniq 2)),(4,.ref 0 0 S.length none 1),(5,hP at_),(6,.ay (((S.take k).flatMap (IE t S at_)).flatMap p1) ((S.take k).flatMap (IE t S at_)).length (.uniq 2)),(20,.ref 0 0 S.length none 1),(21,hP S.length),(22,hP (k:Int))]∧H'=H++Y) _ ⟨0,[],by omega,rfl,rfl,by simp⟩ ?_;rintro m T H' ⟨k,Y,av,rfl,rfl,rfl⟩;conv=>whnf
 refine IG (fun h=>?_) (fun h=>?_)
 ·have Qb:k<S.length:=by omega
  subst IX;unfold Uu;obtain ⟨mZ,Hp⟩:∃ c,Ut=c:=⟨_,rfl⟩;rw [Hp];conv=>whnf
  refine ⟨by omega,?_⟩;conv=>whnf
  refine DW (qF ah) ?_;conv=>whnf
  refine DW (x:=hP S[k]) (by rw [show 0+(k:Int).toNat*1=k by simp,td,sB (by simpa using Qb),sA,sq Qb];rfl) ?_;conv=>whnf
  refine DW (x:=au.cells [(hP (0:Int))]) (by first | exact qi.h | rfl | (simp [sc,I.settle];done)) ?_
  conv=>whnf
  rw [rk];subst Hp;unfold Ut;obtain ⟨fP,G5⟩:∃ c,QI=c:=⟨_,rfl⟩;rw [G5];conv=>whnf
  refine ⟨_,_,PT (rp (fun _=>rfl) _ _ _) (adw S Z (by omega) (by omega) (qF (qF ah))),?_⟩;conv=>whnf
  obtain ⟨bi,M0⟩:∃ bi,bi=(H++Y).length:=⟨_,rfl⟩;obtain ⟨G,G7⟩:∃ G,G=H++Y++[au.cells [I.int .i64 S[k]]]:=⟨_,rfl⟩;have MX:G[bi]?=some (.cells [hP S[k]]):=by rw [G7,M0];simp
  rw [←G7,←M0];have aQ:∀ c:au,[I.ptr bi 0].map (ij ((G++[au.cells (S.map hP)]).set G.length c))=[.bU [hP S[k]]]:=fun c=>by
   rw [UF];exact YM (qF MX) rfl
  have Cn:[I.ptr bi 0].map (hF (G++[au.cells (S.map hP)]))=[.bU [hP S[k]]]:=YN (qF MX) rfl;refine ⟨_,_,Is (adE (id:=G.length) (rest:=[]) (cur:=S) (p:=fun x=>decide (x=S[k])) rfl rfl rfl (by omega) (sr _) aQ Cn (Wf rfl) (by omega) fun x=>aj6 rfl),?_⟩;rw [UF,ZT];conv=>whnf
  refine ⟨_,_,fun C=>ad2 (l:=rY S S[k]) (r:=List.replicate (S.length-(rY S S[k]).length) 0++[]) (id:=G.length) (H:=G++[au.cells ((rY S S[k]++List.replicate (S.length-(rY S S[k]).length) 0++[]).map hP)]) rfl (sr _) (by simp),?_⟩;rw [UF];conv=>whnf
  subst G5;refine agW (k:=k) (can:=(S.take k).flatMap (IE t S at_)) (out:=out) (at_:=at_) pZ cm aN (sD Qb) ?_ (qF MX) fun qq=>?_
  ·have:=Sa (b:=t) (S:=S) (at_:=at_) (S.take k);rw [sV] at this;omega
  conv=>whnf
  have aex:(S.take (k+1)).flatMap (IE t S at_)=(S.take k).flatMap (IE t S at_)++IE t S at_ S[k]:=by
   rw [tX Qb,List.flatMap_append];simp
  refine ⟨S.length-(k+1),by omega,k+1,Y++[au.cells [I.int .i64 S[k]]]++[au.dead]++qq,by omega,rfl,by rw [aex,←rD k (by omega)] <;> rfl,by rw [G7];simp only [sj]⟩
 ·obtain rfl:k=S.length:=by omega
  conv=>whnf
  rw [tQ,show S.flatMap (IE t S at_)=He t S at_ from rfl];subst WZ;unfold Um;obtain ⟨alE,WY⟩:∃ c,Ul=c:=⟨_,rfl⟩;rw [WY];conv=>whnf
  rcases Je (decide (((He t S at_).length:Int)=0)) with eU | eU
  ·rw [eU];(conv=>whnf);exact G8 _ _ (tf.1 (by have:=of_decide_eq_true eU;omega)) rfl
  ·rw [eU];(conv=>whnf);have eU:=of_decide_eq_false eU;obtain ⟨p,r,L'⟩:∃ p r,He t S at_=p::r:=by
    cases e:He t S at_ with
    | nil=>rw [e] at eU;exact absurd rfl eU
    | cons p r=>exact ⟨p,r,rfl⟩
   have aC:=Ql.1 (show p∈He t S at_ by rw [L'];simp);have Qf:=cm p.1 aC.1;subst WY;unfold Ul;obtain ⟨ac9,N5⟩:∃ c,Uk=c:=⟨_,rfl⟩;rw [N5];(conv=>whnf);refine ⟨pY (qL (fun _=>(pY rfl (pY rfl rfl))) _ _ _) (pY rfl rfl),_,aj9 rS.nil (fun qA Bg r h=>aj_ h) (ac6 ai L' (by have:=Sa (b:=t) (S:=S) (at_:=at_) S;rw [show S.flatMap (IE t S at_)=He t S at_ from rfl,L'] at this;omega)),?_⟩;(conv=>whnf);refine DW (x:=au.cells [(hP (0:Int)),(hP (0:Int))]) (by first | exact qi.h | rfl | (simp [sc,I.settle];done)) ?_
   (conv=>whnf);rw [rk];subst N5;unfold Uk;obtain ⟨ac8,N4⟩:∃ c,Uj=c:=⟨_,rfl⟩;rw [N4];(conv=>whnf);refine DW (x:=au.cells [hP p.1,hP p.2]) (by first | exact qi.h | rfl | (simp [sc,I.settle];done)) ?_
   (conv=>whnf);refine ⟨rfl,by omega,rfl,by omega,?_⟩;erw [Jd p1 _ p];(conv=>whnf);subst N4;unfold Uj;obtain ⟨BH,N7⟩:∃ c,Uv=c:=⟨_,rfl⟩;rw [N7];(conv=>whnf);have fB:0<H.length:=(sa.1 ah).1;obtain ⟨bi,M0⟩:∃ bi,bi=(H++Y).length:=⟨_,rfl⟩;(have aev:bi≠0:=by rw [M0,su];omega);obtain ⟨G,G7⟩:∃ G,G=H++Y++[au.cells [(hP p.1).gR.settle,(hP p.2).gR.settle]]:=⟨_,rfl⟩;(have MX:G[bi]?=some (.cells [hP p.1,hP p.2]):=by rw [G7,M0];simp;exact ⟨rfl,rfl⟩);(have KC:G[0]?=some (.cells ((S++Z).map hP)):=by rw [G7];exact qF (qF ah));(have W_:∀ c:au,(G.set 0 c)[bi]?=some (.cells [hP p.1,hP p.2]):=fun c=>by rw [sg (Ne.symm aev)];exact MX);rw [←G7,←M0];have aQ:∀ c:au,[I.ptr bi 0].map (ij (G.set 0 c))=[.bU [hP p.1,hP p.2]]:=fun c=>YM (W_ c) rfl;have Cn:[I.ptr bi 0].map (hF G)=[.bU [hP p.1,hP p.2]]:=YN MX rfl;refine ⟨_,_,Is (adB (id:=0) (cur:=S) (rest:=Z) (p:=fun x=>decide (x=p.1)) (sr _) aQ Cn (Wf rfl) (by omega) (fun x=>aka (c0:=p) rfl) KC),?_⟩;rw [ZT];(conv=>whnf);subst N7;unfold Uv;(conv=>whnf);refine DW (W_ _) ?_;(conv=>whnf);refine ⟨pY (Qw t) (pY rfl rfl),_,Jv (JL (p:=p) Qf),?_⟩;(conv=>whnf);exact Kb p r (List.replicate (S.length-(rY S p.1).length) 0++Z) _ _ _ _ _ _ _ _ _ _ L' (by rw [←sj];exact si (sa.1 KC).1)
def Rb (t:p4):Option Row:=if rX t=0∧0<t.2.length then some (Hh t) else none
theorem alj {v:Row} (h:Rb t=some v):ql 85 [G1 t] (.ay (v.flatMap p1) v.length .shared):=by
 unfold Rb at h;split at h
 ·rename_i ao;obtain rfl:=Option.some.inj h;have pZ:=ID.1 ao.1;have dz:=pZ.len;clear h;refine qM dI afM rfl (qL (fun _=>(pY rfl (pY rfl rfl))) _ _ _) fun Q bl=>?_;have jw:∀ T H,Jx [.tmp 2] (.ay ((Hh t).flatMap p1) (Hh t).length .shared) .ret T H→Q .ret T H:=fun T H bI=>bl _ T H bI;unfold Yr;obtain ⟨alI,W2⟩:∃ c,Uo=c:=⟨_,rfl⟩;rw [W2];conv=>whnf
  subst W2;unfold Uo Ys;obtain ⟨alH,W1⟩:∃ c,Un=c:=⟨_,rfl⟩;rw [W1];conv=>whnf
  refine ⟨_,_,PT (rp (fun _=>rfl) _ _ _) (abR ao.2 (by omega)),?_⟩;conv=>whnf
  refine .inl ⟨by omega,?_⟩;conv=>whnf
  refine .intro (fun m T H'=>∃ (S Z:List Int) (out:Row) (at_:Int),S.length<m∧Lu t m S out at_=Hh t∧q6 t S∧S.Pairwise (·<·)∧out.length+S.length≤10∧T=GG 81 [(0,G1 t),(3,.ay (out.flatMap p1) out.length (.uniq 2)),(4,.ref 0 0 S.length none 1),(5,hP at_)]∧H'[0]?=some (.cells ((S++Z).map hP))) (t.2.length+1) ⟨upto t.2.length,[],[],-1,by rw [rF];omega,rfl,Kr,Zz _,by rw [rF];simpa using dz,by rw [rF] <;> rfl,by rw [sP];rfl⟩ ?_;rintro m T H' ⟨S,Z,out,at_,hm,ae,cm,ai,aq,rfl,ah⟩;obtain ⟨m,rfl⟩:∃ g4,m=g4+1:=⟨m-1,by omega⟩;subst W1;unfold Un;obtain ⟨alG,W0⟩:∃ c,QH=c:=⟨_,rfl⟩;rw [W0];conv=>whnf
  rcases Je (decide ((0:Int)<(S.length:Int))) with eU | eU
  ·rw [eU];(conv=>whnf);subst W0;(have aS:S≠[]:=fun e=>by rw [e] at eU;simp at eU);refine agU (at_:=at_) (out:=out) pZ cm ai aS ah (by omega) ?_ ?_
   ·intro a7 G ao aj;(conv=>whnf);(have bc:out=Hh t:=by rw [Lu,ao] at ae;exact ae);rw [bc] at aj;obtain ⟨vs,ad,af⟩:=Option.map_eq_some_iff.1 aj;exact jw _ _ ⟨.inr rfl,vs,ad,_,by rw [af];exact oR (qL (fun _=>(pY rfl (pY rfl rfl))) _ _ _),rfl⟩
   ·intro p r RV RQ Hj Hk Hl G3 JG Zu Zv Zw Zx L' G7;(conv=>whnf);have aC:=(Ql.1 (show p∈He t S at_ by rw [L'];simp)).1;(have aN:S.Nodup:=ai.imp fun h e=>by omega);have aU:=(Q2 aN aC).length_eq;rw [sI] at aU;refine ⟨m,by omega,rY S p.1,RV,out++[p],fin t p,by omega,?_,Np cm _,ai.filter _,by simp only [su,tL];omega,rfl,G7⟩;rw [Lu,L'] at ae;exact ae
  ·rw [eU];(conv=>whnf);have aS:S=[]:=tf.1 (by have:=of_decide_eq_false eU;omega);(have bc:out=Hh t:=by rw [Lu,aS] at ae;exact ae);rw [bc];exact jw _ _ ⟨.inr rfl,_,rfl,_,oR (qL (fun _=>(pY rfl (pY rfl rfl))) _ _ _),rfl⟩
 ·cases h
end

noncomputable def abg:ez :=
 Gz [gM 1 [.hG 0] .box,gM 2 [.iA (.ay [] 0 .full)] (.nil 2),Gm 3 0] (Gz [gM 7 [.sl 1] (.pT (.str 2)),gM 8 [.iA (.func 64 [] []),.sl 7] (.call 3),Gp 6 8,GJ 9 6 0,gM 10 [.hJ 6] (.ext 1),Gp 4 9,Gp 5 10] (.seq (.block 0 (Gz [Gn 12 5,F0 13 12 0 .neq,Gp 11 13] (.cond (.sl 11) (Gz [Gp 14 5,gM 2 [.iA (.ay [] 0 .full)] (.nil 2),Gp 3 14] .ret) (Gz [F6 16 1 1,Gl 17 16,Gk 18 17,F0 19 18 0 .eql,Gp 15 19] (.cond (.sl 15) (Gz [gM 2 [.iA (.ay [] 0 .full)] (.nil 2),Gm 3 5] .ret) (Gz [Gn 21 4,gM 22 [.iA (.func 83 [] []),.sl 21] (.call 3),Gk 23 22,F0 24 23 1 .gtr,Gp 20 24] (.cond (.sl 20) (Gz [gM 2 [.iA (.ay [] 0 .full)] (.nil 2),Gm 3 27] .ret) .skip))))))) (Gz [Gp 25 4,gM 26 [.iA (.func 85 [] []),.sl 25] (.call 3),Gp 2 26,Gm 3 0] .ret)))
theorem aga:zf Tryz.prog VS 37=some (abg,27,[.tmp 2,.tmp 3]):=by kernel_rfl
def Pn (b:qa):Option (qb×Int) :=
 (I_ b).bind fun r1 =>
 match r1 with
 | (none,q1) =>
   if (decide (q1≠(0:Int)))=true then
    some ([],q1)
   else
    if (decide ((b.2.length:Int)=(0:Int)))=true then
     some ([],(5:Int))
    else
     none
 | (some bR,q1) =>
   if (decide (q1≠(0:Int)))=true then
    some ([],q1)
   else
    if (decide ((b.2.length:Int)=(0:Int)))=true then
     some ([],(5:Int))
    else
     (Pw bR).bind fun r2 =>
     if (decide ((1:Int)<(r2.length:Int)))=true then
      some ([],(27:Int))
     else
      (Rb bR).bind fun r3 =>
      some (r3,(0:Int))
theorem akH {b:qa} {v:(qb×Int)} (h:Pn b=some v):ql 37 [(.agg [(hP b.1),(.ay (b.2.flatMap p1) b.2.length .shared)])] (.tuple [(.ay (v.1.flatMap p1) v.1.length .shared),(hP v.2)]):=by
 refine qM dI aga rfl (Kl (pY (qL (fun _=>(pY rfl (pY rfl rfl))) _ _ _) (pY rfl rfl))) fun Q bl=>?_;have jw:qu [.tmp 2,.tmp 3] Q (fun v=>(.tuple [(p3 v.1 .shared),(hP v.2)])) v:=fun T H bI=>bl _ T H bI;unfold Pn at h;unfold abg;conv=>whnf
 obtain ⟨r1,eU,h⟩:=qd h;rcases r1 with ⟨_ | bR,q1⟩
 ·refine ⟨qj.pl,_,Ks eU,?_⟩;conv=>whnf
  refine bs h (fun fk h=>?_) fun fk h=>?_
  ·rw [fk];(conv=>whnf);exact p7 h jw rfl rfl
  ·rw [fk];(conv=>whnf);refine bs h (fun qf h=>?_) fun qf h=>?_
   ·rw [qf];(conv=>whnf);exact p7 h jw rfl rfl
   ·rw [qf];(conv=>whnf);exact q7 h
 ·refine ⟨qj.pl,_,Ks eU,?_⟩;conv=>whnf
  refine bs h (fun qo h=>?_) fun qo h=>?_
  ·rw [qo];(conv=>whnf);exact p7 h jw rfl rfl
  ·rw [qo];(conv=>whnf);refine bs h (fun qD h=>?_) fun qD h=>?_
   ·rw [qD];(conv=>whnf);exact p7 h jw rfl rfl
   ·rw [qD];(conv=>whnf);obtain ⟨r2,rr,h⟩:=qd h;refine ⟨qj.pl,_,ali rr,?_⟩;(conv=>whnf);refine bs h (fun qN h=>?_) fun qN h=>?_
    ·rw [qN];(conv=>whnf);exact p7 h jw rfl rfl
    ·rw [qN];(conv=>whnf);obtain ⟨r3,qQ,h⟩:=qd h;refine ⟨qj.pl,_,alj qQ,?_⟩;(conv=>whnf);exact p7 h jw rfl rfl

noncomputable def abh:ez :=
 Gz [gM 1 [.hG 0] .box,gM 2 [.iA (.ay [] 0 .full)] (.nil 2),Gm 3 0] (Gz [gM 7 [.sl 1] (.pT (.str 2)),gM 8 [.iA (.func 37 [] []),.sl 7] (.call 3),Gp 6 8,GJ 9 6 0,gM 10 [.hJ 6] (.ext 1),Gp 4 9,Gp 5 10] (.seq (Gz [Gn 11 5,F0 12 11 0 .neq] (.cond (.sl 12) (Gz [Gp 13 5,gM 2 [.iA (.ay [] 0 .full)] (.nil 2),Gp 3 13] .ret) .skip)) (.seq (Gz [gM 14 [.hJ 1] (.pT (.str 2)),Gn 15 4,gM 16 [.iA (.func 22 [] []),.sl 14,.sl 15] (.call 3),F0 17 16 0 .neq] (.cond (.sl 17) (Gz [gM 2 [.iA (.ay [] 0 .full)] (.nil 2),Gm 3 27] .ret) .skip)) (Gz [Gp 18 4,Gp 2 18,Gm 3 0] .ret))))
theorem agb:zf Tryz.prog VT 42=some (abh,19,[.tmp 2,.tmp 3]):=by kernel_rfl
def Po (b:qa):Option (qb×Int) :=
 (Pn b).bind fun r1 =>
 if (decide (r1.2≠(0:Int)))=true then
  some ([],r1.2)
 else
  (Nv b r1.1).bind fun r2 =>
  if (decide (r2≠(0:Int)))=true then
   some ([],(27:Int))
  else
   some (r1.1,(0:Int))
theorem akJ {b:qa} {v:(qb×Int)} (h:Po b=some v):ql 42 [(.agg [(hP b.1),(.ay (b.2.flatMap p1) b.2.length .shared)])] (.tuple [(.ay (v.1.flatMap p1) v.1.length .shared),(hP v.2)]):=by
 refine qM dI agb rfl (Kl (pY (qL (fun _=>(pY rfl (pY rfl rfl))) _ _ _) (pY rfl rfl))) fun Q bl=>?_;have jw:qu [.tmp 2,.tmp 3] Q (fun v=>(.tuple [(p3 v.1 .shared),(hP v.2)])) v:=fun T H bI=>bl _ T H bI;unfold Po at h;unfold abh;conv=>whnf
 obtain ⟨r1,eU,h⟩:=qd h;refine ⟨qj.pl,_,akH eU,?_⟩;conv=>whnf
 refine bs h (fun fk h=>?_) fun fk h=>?_
 ·rw [fk];conv=>whnf
  exact p7 h jw rfl rfl
 ·rw [fk];conv=>whnf
  obtain ⟨r2,qf,h⟩:=qd h;refine ⟨qj.pl,_,aky qf,?_⟩;conv=>whnf
  refine bs h (fun qo h=>?_) fun qo h=>?_
  ·rw [qo];(conv=>whnf);exact p7 h jw rfl rfl
  ·rw [qo];(conv=>whnf);exact p7 h jw rfl rfl

end Go.Proofs.YtfakoboiahbhaaaGreat.Ab


namespace Go.Proofs.YtfakoboiahbhaaaGreat.Ab
open Go
set_option maxRecDepth 20000
set_option maxHeartbeats 4000000

end Go.Proofs.YtfakoboiahbhaaaGreat.Ab


namespace Go.Proofs.YtfakoboiahbhaaaGreat.Ab
open Go
set_option maxRecDepth 20000
set_option maxHeartbeats 4000000

end Go.Proofs.YtfakoboiahbhaaaGreat.Ab


namespace Go.Proofs.YtfakoboiahbhaaaGreat.Ab
open Go
section
variable {b:p4}
def Ly (b:p4):Int:=if Il b=0 then (if 0<(Iy b).length then 27 else 0) else Il b
def QL (b:p4):Row×Int:=if Ly b=0 then (Hh b,0) else ([],Ly b)
theorem Tq (h:Il b=0):(Hh b).length=b.2.length:=by
 obtain ⟨pZ,aS,ad⟩:=Tp.1 h;obtain ⟨f,c,bX⟩:=X0 pZ aS ad;have:=bX.all.length_eq
 rwa [sZ,rF] at this
theorem agT (h:Il b=0):∃ f c,Ir b (upto b.2.length) f c (Hh b)∧Hh b≠[]∧It b (Hh b)=(f,c,0)∧Lz b (Hh b)=if f=c then 0 else 27:=by
 obtain ⟨pZ,aS,ad⟩:=Tp.1 h;obtain ⟨f,c,bX⟩:=X0 pZ aS ad;have bM:Hh b≠[]:=fun e=>by
  have:=Tq h;rw [e] at this;simp at this;omega
 have ao:=adt pZ bM bX.ok (bX.all.nodup_iff.2 (Ju _)) bX.go;refine ⟨f,c,bX,bM,ao,?_⟩;unfold Lz;simp only [ao];rw [if_neg (by simp),if_neg (by rw [Tq h];omega)];by_cases e:f=c
 ·rw [if_neg (by simp [e]),if_pos e]
 ·rw [if_pos e,if_neg e]
theorem agS (h:Il b=0):(Lz b (Hh b)=0↔Iy b=[])∧(Lz b (Hh b)=0∨Lz b (Hh b)=27):=by
 obtain ⟨pZ,aS,ad⟩:=Tp.1 h;obtain ⟨f,c,bX,bM,ao,aj⟩:=agT h;have Jm:=bX.Tm pZ bM;rw [aj];by_cases e:f=c
 ·rw [if_pos e];exact ⟨⟨fun _=>Jm.1 e,fun _=>rfl⟩,.inl rfl⟩
 ·rw [if_neg e];refine ⟨⟨fun h=>absurd h (by decide),fun h=>?_⟩,.inr rfl⟩;have:=(Jm.2 e).length_eq;have aX:q2 b (upto b.2.length)=[]:=h;rw [aX] at this;simp at this
theorem akG (ag:b.2.length≤1000):Pn b=some (Nc b):=by
 rw [Pn];unfold Nc Il;by_cases h:rX b=0
 ·have pZ:=ID.1 h;obtain ⟨R,ad,af⟩:=aaL pZ;rw [U2 pZ,sb];dsimp only;rw [if_neg (show ¬ decide ((0:Int)≠0)=true by decide)];simp only [h,ne_eq,not_true_eq_false,if_false];by_cases aS:b.2.length=0
  ·rw [if_pos (show decide ((b.2.length:Int)=0)=true by simp [aS]),if_pos aS];rfl
  ·rw [if_neg (show ¬ decide ((b.2.length:Int)=0)=true by simp only [decide_eq_true_eq];omega),if_neg aS,ad,sb,af.len];by_cases aG:1<IV b
   ·rw [if_pos (show decide ((1:Int)<(IV b:Int))=true by simp only [decide_eq_true_eq];omega),if_pos aG];rfl
   ·rw [if_neg (show ¬ decide ((1:Int)<(IV b:Int))=true by simp only [decide_eq_true_eq];omega),if_neg aG,Rb,if_pos ⟨h,by omega⟩,sb];rfl
 ·rw [U1 ag h,sb];dsimp only;simp only [h,ne_eq,not_false_eq_true,if_true,decide_true]
theorem agQ (h:Il b=0):Nc b=(Hh b,0):=by unfold Nc;rw [if_neg (by simp [h])]
theorem agP (h:Il b≠0):Nc b=([],Il b):=by unfold Nc;rw [if_pos h]
theorem akI (ag:b.2.length≤1000):Po b=some (QL b):=by
 rw [Po,akG ag,sb];unfold QL Ly;by_cases h:Il b=0
 ·rw [agQ h];dsimp only;rw [if_neg (show ¬ decide ((0:Int)≠0)=true by decide),akx b _ ag (by rw [Tq h];exact ag),sb];obtain ⟨ad,af⟩:=agS h;simp only [h,if_true];by_cases aG:Iy b=[]
  ·rw [ad.2 aG,aG];rfl
  ·have a6:0<(Iy b).length:=uc.2 aG;have bL:Lz b (Hh b)=27:=af.resolve_left fun e=>aG (ad.1 e);rw [bL];simp [a6]
 ·rw [agP h];dsimp only;rw [if_pos (show decide (Il b≠0)=true by simpa using h)];simp only [h,if_false]
theorem aii:(QL b).2=Ly b:=by
 unfold QL;split
 ·rename_i h;exact h.symm
 ·rfl
theorem RowsOf.each {S:List Int} {R:List Row} (h:RowsOf b S R) (aN:S.Nodup) {r:Row} (aj:r∈R):(r.map (·.1)).Nodup∧r.length≤S.length:=by
 have yX:(r.map (·.1)).Sublist ((R.flatten).map (·.1)):=by
  refine List.Sublist.map _ ?_;obtain ⟨s,t,rfl⟩:=List.append_of_mem aj;simp
 have ad:=yX.length_le;rw [sZ,h.all.length_eq] at ad;exact ⟨yX.nodup (h.all.nodup_iff.2 aN),ad⟩
theorem RT.short (pZ:qm b) {R:List Row} (h:RT b R):R.length≤10∧∀ r∈R,r.length≤10:=by
 have dz:=pZ.len;refine ⟨?_,fun r aj=>?_⟩
 ·have ad:R.length≤R.flatten.length:=by
   have bM:=h.ne
   have:∀ l:List Row,(∀ r∈l,r≠[])→l.length≤l.flatten.length:=fun l=>by
    induction l with
    | nil=>intro _;simp
    | cons r l a_ =>
      intro ak;have ad:=uc.2 (ak r (by simp));have af:=a_ fun q a3=>ak q (by simp [a3]);rw [List.flatten_cons,su,sI];omega
   exact this R bM
  have af:=h.all.length_eq;rw [sZ,rF] at af;omega
 ·have:=(h.toRowsOf.each (Ju _) aj).2;rw [rF] at this;omega
end
end Go.Proofs.YtfakoboiahbhaaaGreat.Ab


namespace Go.Proofs.YtfakoboiahbhaaaGreat.Ab
open Go
set_option maxRecDepth 20000
set_option maxHeartbeats 4000000
noncomputable def abj:ez :=
 Gz [gM 1 [.hG 0] .box,gM 2 [.iA (.bool false)] .iQ] (Gz [gM 3 [.sl 1] (.pT (.str 2)),gM 4 [.iA (.func 16 [] []),.sl 3] (.call 3),gM 5 [.hJ 4] (.un .not),Gp 6 5,cP 7 [.hJ 1] 6 true (.pT (.str 2)),⟨some 8,[.iA (.func 21 [] []),.sl 7],some (6,true),none,.call 3⟩,cP 9 [.hJ 8,.iA (.int .i64 0)] 6 true (.bin .eql),gM 10 [.hJ 6,.hJ 9,.iA (.bool false)] .pick,Gp 2 10] .ret)
theorem agd:zf Tryz.prog VU 47=some (abj,11,[.tmp 2]):=by kernel_rfl
def Pp (b:qa):Option Bool :=
 (Ph b).bind fun r1 =>
 if r1=true then
  some false
 else
  (LJ b).bind fun r2 =>
  some (decide (r2=(0:Int)))
theorem akP {b:qa} {v:Bool} (h:Pp b=some v):ql 47 [(.agg [(hP b.1),(.ay (b.2.flatMap p1) b.2.length .shared)])] (B v):=by
 refine qM dI agd rfl rfl fun Q bl=>?_;have jw:qu [.tmp 2] Q (fun v=>(B v)) v:=fun T H bI=>bl _ T H bI;unfold Pp at h;unfold abj;conv=>whnf
 obtain ⟨r1,eU,h⟩:=qd h;refine ⟨qj.pl,_,akl eU,?_⟩;conv=>whnf
 cases r1
 ·conv=>whnf
  replace h:=Hf rfl h;obtain ⟨r2,fk,h⟩:=qd h;refine ⟨qj.pl,_,UY fk,?_⟩;conv=>whnf
  exact p7 h jw rfl rfl
 ·conv=>whnf
  replace h:=Hg rfl h;exact p7 h jw rfl rfl

noncomputable def Ry:ez :=
 .loop (some (Ez false [0,2,3,1,12])) (.seq (Gz [Gn 6 5,Gn 7 0,Gk 8 7,F1 9 6 8 .lss] (.cond (.sl 9) .skip (.exit 0))) (.seq (.block 1 (Gz [Gn 12 0,Gn 13 5,Gh 14 12 13 1,Gl 15 14,Gn 16 1,F1 17 15 16 .eql] (.cond (.sl 17) (Gz [gM 4 [.iA (.bool true)] .iQ] .ret) .skip))) (Gs [Gp 10 5,FZ 11 10 1,Gp 5 11])))
noncomputable def abm:ez :=
 Gz [gM 4 [.iA (.bool false)] .iQ] (.seq (Gz [Gm 5 0] (.block 0 Ry)) (Gz [gM 4 [.iA (.bool false)] .iQ] .ret))
theorem agh:zf Tryz.prog R1 53=some (abm,18,[.tmp 4]):=by kernel_rfl
def Mw (l:p5) (n:Int) (p9:Unit→Option Bool):Nat→Int→Option Bool
 | 0,_=>none
 | m+1,s1 =>
   if (decide (s1<(l.length:Int)))=true then
    p8 (0≤s1∧s1<(l.length:Int)) <|
    if (decide ((ix l s1)=n))=true then
     some true
    else
     Mw l n p9 m (w (s1+(1:Int)))
   else
    p9 ()
def Nx (l:p5) (n:Int):Option Bool :=
 Mw l n (fun _ =>
   some false) p_ (0:Int)
theorem akV {l:p5} {n:Int} {p9:Unit→Option Bool} {s1:Int} {v:Bool} {Q:q'}   (jw:qu [.tmp 4] Q (fun v=>(B v)) v) (q8:∀ (p6:List I),p9 ()=some v→qU 18 [] p6→Q (.exit 0) p6 []) {T:List I} (bX:eR (Ez false [0,2,3,1,12]) T=GG 18 [(0,(qe l .shared)),(1,(hP n)),(5,(hP s1))]) (h:Mw l n p9 p_ s1=some v) :
  dC Tryz.prog R1 53 0 none Ry T [] Q:=by
 unfold Ry;refine wp_loop bX ?_;refine .intro (fun m T H=>∃ (s1:Int),T=GG 18 [(0,(qe l .shared)),(1,(hP n)),(5,(hP s1))]∧H=[]∧Mw l n p9 m s1=some v) p_ ⟨s1,rfl,rfl,h⟩ ?_;clear h bX;rintro m T H ⟨s1,rfl,rfl,h⟩;cases m
 ·exact q7 h
 rename_i m;rw [Mw.eq_2] at h;conv=>whnf
 refine bs h (fun eU h=>?_) fun eU h=>?_
 ·rw [eU];conv=>whnf
  refine qk h id fun fk h=>?_;rw [rT hP l s1 fk];conv=>whnf
  refine bs h (fun qf h=>?_) fun qf h=>?_
  ·rw [qf];(conv=>whnf);exact p7 h jw rfl rfl
  ·rw [qf];(conv=>whnf);exact ⟨m,sm m,(w (s1+(1:Int))),rfl,rfl,h⟩
 ·rw [eU];conv=>whnf
  exact q8  _ h ⟨rfl,rfl⟩
theorem Q8 {l:p5} {n:Int} {v:Bool} (h:Nx l n=some v):ql 53 [(.ay (l.map hP) l.length .shared),(hP n)] (B v):=by
 refine qM dI agh rfl rfl fun Q bl=>?_;have jw:qu [.tmp 4] Q (fun v=>(B v)) v:=fun T H bI=>bl _ T H bI;unfold Nx at h;unfold abm;obtain ⟨Ho,qz⟩:∃ c,Ry=c:=⟨_,rfl⟩;rw [qz];conv=>whnf
 subst qz;refine akV ?_ ?_ (by exact rfl) h
 ·exact fun T H bI=>jw T H bI
 ·intro  p6 h qh;obtain ⟨qS,rfl⟩:=qh.ex;conv=>whnf
  exact p7 h jw rfl rfl

end Go.Proofs.YtfakoboiahbhaaaGreat.Ab


namespace Go.Proofs.YtfakoboiahbhaaaGreat.Ab
open Go
structure RL (b:p4) (D:List Int) (n:Nat) (f t:Int) (r:Row):Prop where
 len:r.length=n
 run:qE b f r=some t
 ok:∀ p∈r,Hi b p=false∧ix D (qy b p)≤(n:Int)∧1≤ix D (qy b p)∧ix D (fin b p)=ix D (qy b p)-1
 down:r.Pairwise fun p q=>ix D (qy b q)<ix D (qy b p)
 first:∀ p l,r=p::l→qy b p=f
theorem Wn {b:p4} (pZ:qm b) {t:Int} {D:List Int} (qt:Kw b (-1) t D):∀ (n:Nat) (f:Int),0≤f→f<b.1→ix D f=(n:Int)→RL b D n f t (Jz b D n f)
 | 0,f,ad,af,aG=>by
   have bV:=pZ.f6;have hw:=qt.walk f.toNat (by omega) (by rw [tb ad];omega);rw [tb ad,aG] at hw;have hw:t=f:=hw;exact ⟨rfl,by rw [Jz,qE,hw],fun p aC=>absurd aC (by simp [Jz]),by simp [Jz],fun p l h=>by simp [Jz] at h⟩
 | n+1,f,ad,af,aG=>by
   have bV:=pZ.f6;obtain ⟨p,bR,_,b4⟩:=Tk pZ qt ⟨ad,by omega⟩ aG;rw [Jz];cases a3:(places b f).find? (Ls b D f) with
   | none=>exact absurd (decide_eq_true (by rw [b4,aG];omega)) (List.find?_eq_none.1 a3 p bR)
   | some q =>
     have q1:=List.mem_of_find?_eq_some a3;have aW:ix D (fin b q)=ix D f-1:=of_decide_eq_true (p:=ix D (fin b q)=ix D f-1) (List.find?_some (p:=Ls b D f) a3);have cz:=LZ pZ q1;have dQ:=OJ q1;have a_:=Wn pZ qt n (fin b q) cz.1 cz.2 (by rw [aW,aG];omega);dsimp only;refine ⟨by simp [a_.len],?_,fun x al=>?_,tc.2 ⟨fun x al=>?_,a_.down⟩,fun x l al=>?_⟩
     ·rw [qE,if_pos dQ.2.2.2.2,a_.run]
     ·rcases sk.1 al with rfl | al
      ·exact ⟨Pa.2 ⟨dQ.1,dQ.2.1,dQ.2.2.1,dQ.2.2.2.1⟩,by rw [dQ.2.2.2.2,aG];omega,by rw [dQ.2.2.2.2,aG];omega,by rw [dQ.2.2.2.2,aW]⟩
      ·have:=a_.ok x al;exact ⟨this.1,by omega,this.2.2.1,this.2.2.2⟩
     ·have:=a_.ok x al;rw [dQ.2.2.2.2,aG];omega
     ·simp only [List.cons.injEq] at al;obtain ⟨rfl,_⟩:=al;exact dQ.2.2.2.2
theorem Wy:∀ (r pre:Row),(∀ p∈pre,∀ q∈r,p.1≠q.1)→r.Pairwise (fun p q=>p.1≠q.1)→IH pre r=false
 | [],_,_,_=>rfl
 | p::r,pre,ad,af=>by
   have af:=tc.1 af;rw [IH,if_neg]
   ·refine Wy r (pre++[p]) (fun x al q a3=>?_) af.2;rcases List.mem_append.1 al with al | al
    ·exact ad x al q (by simp [a3])
    ·simp only [sN] at al;subst al;exact af.1 q a3
   ·intro e;obtain ⟨x,al,e⟩:=uw.1 e;exact ad x al p (by simp) (of_decide_eq_true e)
theorem RL.check {b:p4} (pZ:qm b) {D:List Int} {n:Nat} {f t:Int} {r:Row} (h:RL b D n f t r) (aN:0<n):It b r=(f,t,0):=by
 cases r with
 | nil=>exact absurd h.len (by simp;omega)
 | cons p l =>
   (have aQ:=h.first p l rfl);unfold It;rw [if_neg (by simp [ID.2 pZ])];dsimp only;rw [if_neg,if_neg,aQ,h.run]
   ·rw [Wy (p::l) [] (fun x al=>absurd al (by simp)) (h.down.imp_of_mem fun {x y} al a0 Ix e=>?_)]
    ·decide
    ·have al6:=h.ok x al;have ag0:=h.ok y a0;rcases adP (b:=b) e.symm with ck | ck <;> rw [ck] at ag0 <;> omega
   ·intro e;obtain ⟨x,al,e⟩:=uw.1 e;rw [(h.ok x al).1] at e;exact absurd e (by decide)
theorem WD {b:p4} {wo f t:Int} {D:List Int} (h:Kw b wo t D) (aQ:0≤f∧f<6):0≤ix D f↔rI b wo f t:=by
 refine ⟨fun ad=>?_,fun ⟨n,aN⟩=>(h.least n f aN.symm).2.2.1⟩;have:=h.walk f.toNat (by omega) (by rw [tb aQ.1];exact ad);rw [tb aQ.1] at this;exact ⟨_,this.symm⟩
theorem aar {l:List Int} {n:Int} (ak:l.length≤1000):∀ (m i:Nat) (z:Int),z=i→i≤l.length→l.length-i<m→Mw l n (fun _=>some false) m z=some ((l.drop i).any fun x=>decide (x=n))
 | 0,i,_,_,_,h=>absurd h (by omega)
 | m+1,i,_,rfl,hi,hm=>by
   rw [Mw];by_cases h:i<l.length
   ·rw [Jp h,G6 h,re h,sW h,List.any_cons];by_cases ad:l[i]=n
    ·rw [if_pos (decide_eq_true ad),decide_eq_true ad,Bool.true_or]
    ·rw [if_neg (by simpa using ad),decide_eq_false ad,Bool.false_or,rz i (by omega),aar ak m (i+1) _ rfl (by omega) (by omega)]
   ·rw [Jo h,tu (by omega)];rfl
theorem aaq (l:List Int) (n:Int) (ak:l.length≤1000):Nx l n=some (l.any fun x=>decide (x=n)):=by
 rw [Nx,aar ak p_ 0 0 rfl (sr _) (rn (by omega)),sQ]
theorem akO (b:p4):Pp b=some (decide (b.2.length≤14) && decide (rX b=0)):=by
 rw [Pp,Ph,sb];by_cases h:(14:Int)<(b.2.length:Int)
 ·rw [if_pos (decide_eq_true h),decide_eq_false (by omega)];rfl
 ·rw [if_neg (by simpa using h),aag b (by omega),sb,decide_eq_true (show b.2.length≤14 by omega)];rfl
theorem Z_:JJ=some true:=rfl
theorem agJ {x n:Int} (al:0≤x) (aN:1≤n):0≤x.tmod n∧x.tmod n<n:=⟨Int.tmod_nonneg _ al,Int.tmod_lt_of_pos _ (by omega)⟩
end Go.Proofs.YtfakoboiahbhaaaGreat.Ab


namespace Go.Proofs.YtfakoboiahbhaaaGreat.Ab
open Go
set_option maxRecDepth 20000
set_option maxHeartbeats 4000000

end Go.Proofs.YtfakoboiahbhaaaGreat.Ab


namespace Go.Proofs.YtfakoboiahbhaaaGreat.Ab
open Go
set_option maxRecDepth 20000
set_option maxHeartbeats 4000000
noncomputable def PB:ez :=
 .cond (.sl 16) (Gz [Gp 17 5,gM 2 [.iA (.ay [] 0 .full)] (.nil 1),Gp 3 17] .ret) .skip
noncomputable def Va:ez :=
 .cond (.sl 35) (Gs [Gp 36 6,Gp 37 7,gM 38 [.hJ 37] (.x' 1 1 [.int .i64 0] [0]),gM 39 [.hG 36,.hG 38] (.app 1 8),Gp 6 39]) .skip
noncomputable def Rr:ez :=
 Gz [F6 31 8 0,Gl 32 31,gM 33 [.hJ 9,.hJ 32] (.y3 6 1),Gl 34 33,F0 35 34 0 .lss] Va
noncomputable def Pz:ez :=
 Gz [Gn 26 4,gM 27 [.sl 8] (.oP 1),Gl 28 27,Gn 29 7,gM 30 [.iA (.func 81 [] []),.sl 26,.sl 28,.sl 29] (.call 3),gM 9 [] (.alloc [.int .i64 0,.int .i64 0,.int .i64 0,.int .i64 0,.int .i64 0,.int .i64 0]),⟨none,[.sl 9,.hG 30],none,none,.st 6⟩] Rr
noncomputable def Py:ez :=
 .j0 false [FZ 40 21 1,Gp 21 40]
noncomputable def PG:ez :=
 .seq (.block 1 (Gz [Gn 23 21,gM 24 [.sl 19,.sl 21] (.pM 2),gM 25 [.hJ 24] (.pT (.str 2)),gM 8 [] (.alloc [.int .i64 0,.int .i64 0]),Gp 7 23,⟨none,[.sl 8,.hG 25],none,none,.st 2⟩] Pz)) Py
noncomputable def PF:ez :=
 .seq (.cond (.sl 22) .skip (.exit 0)) PG
noncomputable def MK:ez :=
 .loop (some (Ez false [4,1,1,1,12,3,20])) (Gz [gM 22 [.sl 21,.sl 20] (.bin .lss)] PF)
noncomputable def PE:ez :=
 .block 0 MK
noncomputable def PD:ez :=
 Gz [Gp 41 6,Gp 2 41,Gm 3 0] .ret
noncomputable def PC:ez :=
 .seq (Gz [F6 18 1 1,Gl 19 18,gM 20 [.sl 19] .pV,Gm 21 0] PE) PD
noncomputable def PA:ez :=
 Gz [gM 6 [.iA (.ay [] 0 .full)] (.nil 1)] PC
noncomputable def Rs:ez :=
 .seq (Gz [Gn 15 5,F0 16 15 0 .neq] PB) PA
noncomputable def U':ez :=
 Gz [gM 11 [.sl 1] (.pT (.str 2)),gM 12 [.iA (.func 64 [] []),.sl 11] (.call 3),Gp 10 12,GJ 13 10 0,gM 14 [.hJ 10] (.ext 1),Gp 4 13,Gp 5 14] Rs
noncomputable def abf:ez :=
 Gz [gM 1 [.hG 0] .box,gM 2 [.iA (.ay [] 0 .full)] (.nil 1),Gm 3 0] U'
theorem af_:zf Tryz.prog PN 31=some (abf,42,[.tmp 2,.tmp 3]):=by kernel_rfl
def Q6 (b:qa) (p9:Unit→Option (p5×Int)):Nat→Option (p5×Int)
 | 0=>none
 | m+1 =>
   if (decide ((0:Int)<(b.2.length:Int)))=true then
    p8 (0≤(0:Int)∧(0:Int)<(b.2.length:Int)) <|
    none
   else
    p9 ()
def LK (b bR:qa) (qB:p5→Option (p5×Int)):Nat→p5→Int→Option (p5×Int)
 | 0,_,_=>none
 | m+1,s1,s2 =>
   if (decide (s2<(b.2.length:Int)))=true then
    p8 (0≤s2∧s2<(b.2.length:Int)) <|
    (NG bR ((ix b.2 s2).2) s2).bind fun r2 =>
    p8 (r2.length=6∧(List.replicate 6 (0:Int)).length=6) <|
    p8 (0≤(ix b.2 s2).1∧(ix b.2 s2).1<(6:Int)∧6=r2.length) <|
    if (decide ((ix r2 ((ix b.2 s2).1))<(0:Int)))=true then
     p8 ((s1.length+1)*8≤140737488355328) <|
     LK b bR qB m (s1++[s2]) (w (s2+(1:Int)))
    else
     LK b bR qB m s1 (w (s2+(1:Int)))
   else
    qB s1
def Pm (b:qa):Option (p5×Int) :=
 (I_ b).bind fun r1 =>
 match r1 with
 | (none,q1) =>
   if (decide (q1≠(0:Int)))=true then
    some ([],q1)
   else
    Q6 b (fun _ =>
      some ([],(0:Int))) p_
 | (some bR,q1) =>
   if (decide (q1≠(0:Int)))=true then
    some ([],q1)
   else
    LK b bR (fun xZ =>
      some (xZ,(0:Int))) p_ ([]:List Int) (0:Int)
theorem akD {b:qa} {p9:Unit→Option (p5×Int)} {v:(p5×Int)} {Q:q'} {bA:au}  (q8:∀ (p6:List I),p9 ()=some v→qU 42 [(6,(.ay [] 0 (.uniq 1)))] p6→Q (.exit 0) p6 [bA]) {T:List I} (bX:eR (Ez false [4,1,1,1,12,3,20]) T=GG 42 [(4,.eC),(6,(.ay [] 0 (.uniq 1))),(19,(p3 b.2 .shared)),(20,(hP (b.2.length:Int))),(21,(hP (0:Int)))]) (h:Q6 b p9 p_  = some v) :
  dC Tryz.prog PN 31 0 none MK T [bA] Q:=by
 unfold MK;obtain ⟨adh,Ob⟩:∃ c,PF=c:=⟨_,rfl⟩;rw [Ob];refine wp_loop bX ?_;refine .intro (fun m T H=>T=GG 42 [(4,.eC),(6,(.ay [] 0 (.uniq 1))),(19,(p3 b.2 .shared)),(20,(hP (b.2.length:Int))),(21,(hP (0:Int)))]∧H=[bA]∧Q6 b p9 m  = some v) p_ ⟨rfl,rfl,h⟩ ?_;clear h bX;rintro m T H ⟨rfl,rfl,h⟩;cases m
 ·exact q7 h
 rename_i m;rw [Q6.eq_2] at h;conv=>whnf
 subst Ob;unfold PF;obtain ⟨adi,Oc⟩:∃ c,PG=c:=⟨_,rfl⟩;rw [Oc];conv=>whnf
 refine bs h (fun qf h=>?_) fun qf h=>?_
 ·rw [qf];conv=>whnf
  subst Oc;unfold PG;obtain ⟨ac_,N8⟩:∃ c,Py=c:=⟨_,rfl⟩;rw [N8];obtain ⟨ada,N9⟩:∃ c,Pz=c:=⟨_,rfl⟩;rw [N9];conv=>whnf
  refine qk h id fun qo h=>?_;rw [qW p1 2 qw b.2 (0:Int) qo];conv=>whnf
  subst N9;unfold Pz;obtain ⟨adb,P0⟩:∃ c,Rr=c:=⟨_,rfl⟩;rw [P0];conv=>whnf
  exact q7 h
 ·rw [qf];conv=>whnf
  exact q8  _ h ⟨rfl,rfl⟩
theorem akE {b:qa} {bR:qa} {qB:p5→Option (p5×Int)} {s1:p5} {s2:Int} {v:(p5×Int)} {Q:q'} {bA:au}  (IK:∀ (xZ:p5) (q_:List au) (p6:List I),qB xZ=some v→qU 42 [(6,(qe xZ (.uniq 1)))] p6→Q (.exit 0) p6 (bA::q_)) {T:List I} (bX:eR (Ez false [4,1,1,1,12,3,20]) T=GG 42 [(4,(.bU [(hP bR.1),(p3 bR.2 .shared)])),(6,(qe s1 (.uniq 1))),(19,(p3 b.2 .shared)),(20,(hP (b.2.length:Int))),(21,(hP s2))]) (h:LK b bR qB p_ s1 s2=some v) :
  dC Tryz.prog PN 31 0 none MK T [bA] Q:=by
 unfold MK;obtain ⟨adh,Ob⟩:∃ c,PF=c:=⟨_,rfl⟩;rw [Ob];refine wp_loop bX ?_;refine .intro (fun m T H=>∃ (s1:p5) (s2:Int) (Vq:List au),T=GG 42 [(4,(.bU [(hP bR.1),(p3 bR.2 .shared)])),(6,(qe s1 (.uniq 1))),(19,(p3 b.2 .shared)),(20,(hP (b.2.length:Int))),(21,(hP s2))]∧H=(bA::Vq)∧LK b bR qB m s1 s2=some v) p_ ⟨s1,s2,[],rfl,rfl,h⟩ ?_;clear h bX;rintro m T H ⟨s1,s2,Vq,rfl,rfl,h⟩;cases m
 ·exact q7 h
 rename_i m;rw [LK.eq_2] at h;conv=>whnf
 subst Ob;unfold PF;obtain ⟨adi,Oc⟩:∃ c,PG=c:=⟨_,rfl⟩;rw [Oc];conv=>whnf
 refine bs h (fun rr h=>?_) fun rr h=>?_
 ·rw [rr];conv=>whnf
  subst Oc;unfold PG;obtain ⟨ac_,N8⟩:∃ c,Py=c:=⟨_,rfl⟩;rw [N8];obtain ⟨ada,N9⟩:∃ c,Pz=c:=⟨_,rfl⟩;rw [N9];conv=>whnf
  refine qk h id fun qN h=>?_;rw [qW p1 2 qw b.2 s2 qN];conv=>whnf
  refine DW (x:=au.cells [(hP (0:Int)),(hP (0:Int))]) (by first | exact qi.h | rfl | (simp [sc,I.settle];done)) ?_
  conv=>whnf
  rw [rk];subst N9;unfold Pz;obtain ⟨adb,P0⟩:∃ c,Rr=c:=⟨_,rfl⟩;rw [P0];conv=>whnf
  refine DW (x:=au.cells [(hP (ix b.2 s2).1),(hP (ix b.2 s2).2)]) (by first | exact qi.h | rfl | (simp [sc,I.settle];done)) ?_
  conv=>whnf
  obtain ⟨r2,qQ,h⟩:=qd h;refine ⟨qj.pl,_,aaK qQ,?_⟩;conv=>whnf
  obtain ⟨q5,h⟩:=qn h;refine DW (x:=au.cells ((List.replicate 6 (0:Int)).map hP)) (by first | exact qi.h | rfl | (simp [sc,I.settle];done)) ?_
  conv=>whnf
  try rw [show List.map I.gR (List.map hP r2)=List.map hP r2 from by rw [tx];rfl]
  first | (refine UJ hP r2 (n:=6) (l:=(List.replicate 6 (0:Int))) (sr _) (fun _=>rfl) (by first | exact qi.h | rfl | (simp [sc,I.settle];done)) q5.1 q5.2 (by decide) ?_) | (rw [show Nat.beq (List.map hP r2).length 6=true from by rw [sZ,q5.1] <;> exact Nat.beq_refl _];refine QZ hP (List.replicate 6 (0:Int)) r2 (fun _=>rfl) (by rw [q5.1,q5.2]) ?_)
  conv=>whnf
  rw [rk];conv=>whnf
  subst P0;unfold Rr;obtain ⟨alM,W5⟩:∃ c,Va=c:=⟨_,rfl⟩;rw [W5];conv=>whnf
  refine DW (x:=au.cells [(hP (ix b.2 s2).1),(hP (ix b.2 s2).2)]) (by first | exact qi.h | rfl | (simp [sc,I.settle];done)) ?_
  conv=>whnf
  obtain ⟨qV,h⟩:=qn h;refine ⟨⟨qV.1,qV.2.1⟩,?_⟩;replace qV:0≤(ix b.2 s2).1∧(ix b.2 s2).1<(r2.length:Int):=⟨qV.1,by have:=qV.2;omega⟩;conv=>whnf
  refine DW (x:=au.cells (r2.map hP)) (by first | exact qi.h | rfl | (simp [sc,I.settle];done)) ?_
  conv=>whnf
  refine IL hP r2 ((ix b.2 s2).1) qV ?_;conv=>whnf
  subst W5;unfold Va;conv=>whnf
  refine bs h (fun rK h=>?_) fun rK h=>?_
  ·rw [rK];(conv=>whnf);obtain ⟨rj,h⟩:=qn h;refine ⟨by first | rfl | simp,by have:=rj;omega,rfl,rj,?_⟩
   erw [Lb hP s1 s2];(conv=>whnf);subst N8;unfold Py;(conv=>whnf);exact ⟨m,sm m,(s1++[s2]),(w (s2+(1:Int))),_,rfl,rfl,h⟩
  ·rw [rK];(conv=>whnf);subst N8;unfold Py;(conv=>whnf);exact ⟨m,sm m,s1,(w (s2+(1:Int))),_,rfl,rfl,h⟩
 ·rw [rr];conv=>whnf
  exact IK _ _ _ h ⟨rfl,rfl⟩
theorem akF {b:qa} {v:(p5×Int)} (h:Pm b=some v):ql 31 [(.agg [(hP b.1),(.ay (b.2.flatMap p1) b.2.length .shared)])] (.tuple [(.ay (v.1.map hP) v.1.length .shared),(hP v.2)]):=by
 refine qM dI af_ rfl (Kl (pY (rp (fun _=>rfl) _ _ _) (pY rfl rfl))) fun Q bl=>?_;have jw:qu [.tmp 2,.tmp 3] Q (fun v=>(.tuple [(qe v.1 .shared),(hP v.2)])) v:=fun T H bI=>bl _ T H bI;unfold Pm at h;unfold abf;obtain ⟨Ho,qz⟩:∃ c,U'=c:=⟨_,rfl⟩;rw [qz];conv=>whnf
 subst qz;unfold U';obtain ⟨J8,rm⟩:∃ c,Rs=c:=⟨_,rfl⟩;rw [rm];conv=>whnf
 obtain ⟨r1,eU,h⟩:=qd h;rcases r1 with ⟨_ | bR,q1⟩
 ·refine ⟨qj.pl,_,Ks eU,?_⟩;conv=>whnf
  subst rm;unfold Rs;obtain ⟨NZ,Hq⟩:∃ c,PA=c:=⟨_,rfl⟩;rw [Hq];obtain ⟨Wj,Jh⟩:∃ c,PB=c:=⟨_,rfl⟩;rw [Jh];conv=>whnf
  subst Jh;unfold PB;conv=>whnf
  refine bs h (fun fk h=>?_) fun fk h=>?_
  ·rw [fk];(conv=>whnf);exact p7 h jw rfl rfl
  ·rw [fk];(conv=>whnf);subst Hq;unfold PA;obtain ⟨Wk,Lg⟩:∃ c,PC=c:=⟨_,rfl⟩;rw [Lg];(conv=>whnf);subst Lg;unfold PC;obtain ⟨adf,N'⟩:∃ c,PD=c:=⟨_,rfl⟩;rw [N'];obtain ⟨adg,Oa⟩:∃ c,PE=c:=⟨_,rfl⟩;rw [Oa];(conv=>whnf);subst Oa;unfold PE;obtain ⟨ade,N_⟩:∃ c,MK=c:=⟨_,rfl⟩;rw [N_];(conv=>whnf);subst N_;refine akD ?_ (by exact rfl) h;intro  p6 h qh;obtain ⟨qS,rfl⟩:=qh.ex;(conv=>whnf);subst N';unfold PD;(conv=>whnf);exact p7 h jw rfl rfl
 ·refine ⟨qj.pl,_,Ks eU,?_⟩;conv=>whnf
  subst rm;unfold Rs;obtain ⟨NZ,Hq⟩:∃ c,PA=c:=⟨_,rfl⟩;rw [Hq];obtain ⟨Wj,Jh⟩:∃ c,PB=c:=⟨_,rfl⟩;rw [Jh];conv=>whnf
  subst Jh;unfold PB;conv=>whnf
  refine bs h (fun qD h=>?_) fun qD h=>?_
  ·rw [qD];(conv=>whnf);exact p7 h jw rfl rfl
  ·rw [qD];(conv=>whnf);subst Hq;unfold PA;obtain ⟨Wk,Lg⟩:∃ c,PC=c:=⟨_,rfl⟩;rw [Lg];(conv=>whnf);subst Lg;unfold PC;obtain ⟨adf,N'⟩:∃ c,PD=c:=⟨_,rfl⟩;rw [N'];obtain ⟨adg,Oa⟩:∃ c,PE=c:=⟨_,rfl⟩;rw [Oa];(conv=>whnf);subst Oa;unfold PE;obtain ⟨ade,N_⟩:∃ c,MK=c:=⟨_,rfl⟩;rw [N_];(conv=>whnf);subst N_;refine akE ?_ (by exact rfl) h;intro xZ q_ p6 h qh;obtain ⟨qS,rfl⟩:=qh.ex;(conv=>whnf);subst N';unfold PD;(conv=>whnf);exact p7 h jw rfl rfl

def Ra (b:qa) (r0:Int):Option Bool :=
 (UZ b r0).bind fun r1 =>
 p8 (0≤r0∧r0<(b.2.length:Int)) <|
 p8 (0≤(ix b.2 r0).1∧(ix b.2 r0).1<(r1.length:Int)) <|
 p8 (0≤r0∧r0<(b.2.length:Int)) <|
 p8 (0≤(ix b.2 r0).2∧(ix b.2 r0).2<(r1.length:Int)) <|
 some (decide ((ix r1 ((ix b.2 r0).1))≠(ix r1 ((ix b.2 r0).2))))

end Go.Proofs.YtfakoboiahbhaaaGreat.Ab


namespace Go.Proofs.YtfakoboiahbhaaaGreat.Ab
open Go
section
variable {b:p4}
def OG (b:p4):List (List Int)×Int:=if rX b=0 then (parts b,0) else ([],rX b)
theorem X8 (pZ:qm b):OG b=(parts b,0):=by unfold OG;rw [if_pos (ID.2 pZ)]
theorem ag5 (h:rX b≠0):OG b=([],rX b):=by unfold OG;rw [if_neg h]
theorem akA (ag:b.2.length≤1000):Pl b=some (OG b):=by
 rw [Pl];by_cases h:rX b=0
 ·have pZ:=ID.1 h;rw [U2 pZ,sb,X8 pZ];dsimp only;rw [if_neg (by simp),aaF ag,sb,(Ku pZ).1,sb]
 ·rw [U1 ag h,sb,ag5 h];dsimp only;rw [if_pos (by simpa using h)]
def JU (b:p4) (i:Int):Bool:=(Ra b i).getD false
theorem XA (pZ:qm b) {i:Int} (hi:0≤i∧i<(b.2.length:Int)):Ra b i=some (JU b i)∧(JU b i=true↔¬ rI b i (ix b.2 i).1 (ix b.2 i).2):=by
 obtain ⟨N,B9,qt⟩:=akY pZ i;obtain ⟨n,rfl⟩:∃ n:Nat,i=n:=⟨i.toNat,by omega⟩;have ai:=Ko pZ (i:=n) (by omega);have ak:=qt.len;have e:Ra b (n:Int)=some (decide (ix N (ix b.2 (n:Int)).1≠ix N (ix b.2 (n:Int)).2)):=by
  rw [Ra,B9,sb,qc hi,qc ⟨ai.1,by omega⟩,qc hi,qc ⟨ai.2.2.1,by omega⟩]
 refine ⟨by unfold JU;rw [e];rfl,?_⟩;unfold JU;rw [e];show decide _=true↔_;rw [decide_eq_true_eq];exact not_congr (qt.iff ⟨ai.1,ai.2.1⟩ ⟨ai.2.2.1,ai.2.2.2⟩)
def JV (b:p4):List Int:=(upto b.2.length).filter (JU b)
theorem afy:(JV b).length≤b.2.length:=by
 have:=tq (JU b) (upto b.2.length)
 rwa [rF] at this
def Ox (b:p4):List Int×Int:=if rX b=0 then (JV b,0) else ([],rX b)
theorem XB (pZ:qm b):Ox b=(JV b,0):=by unfold Ox;rw [if_pos (ID.2 pZ)]
theorem afx (h:rX b≠0):Ox b=([],rX b):=by unfold Ox;rw [if_neg h]
theorem aai (pZ:qm b) {k:List Int→Option (List Int×Int)}:∀ (m i:Nat) (z:Int),z=i→i≤b.2.length→b.2.length-i<m→LK b b k m ((upto i).filter (JU b)) z=k (JV b)
 | 0,_,_,_,_,h=>absurd h (by omega)
 | m+1,i,_,rfl,hi,hm=>by
   rw [LK];have dz:=pZ.len;have bV:=pZ.f6;by_cases h:(i:Int)<(b.2.length:Int)
   ·have ak:=tq (JU b) (upto i);rw [rF] at ak;have a_:=aai (k:=k) pZ m (i+1) _ rfl (by omega) (by omega);rw [Q1] at a_;have ai:=Ko pZ (i:=i) (by omega);obtain ⟨D,al,qt⟩:=U6 pZ (wo:=(i:Int)) (to:=(ix b.2 (i:Int)).2) ⟨ai.2.2.1,ai.2.2.2⟩;have ao:=WD qt (f:=(ix b.2 (i:Int)).1) ⟨ai.1,by omega⟩;have aw:=(XA pZ (i:=(i:Int)) ⟨by omega,h⟩).2;rw [if_pos (decide_eq_true h),qc ⟨by omega,h⟩,al,sb,qc ⟨qt.len,by simp⟩,qc ⟨ai.1,by omega,qt.len.symm⟩,rz i (by omega)];by_cases aQ:ix D (ix b.2 (i:Int)).1<0
    ·(have aeM:JU b (i:Int)=true:=aw.2 fun Ci=>by have:=ao.2 Ci;omega);rw [aeM,if_pos rfl] at a_;rw [if_pos (decide_eq_true aQ),qc (by omega)];exact a_
    ·have aeL:JU b (i:Int)=false:=by
      cases e:JU b (i:Int) with
      | false=>rfl
      | true=>exact absurd (ao.1 (by omega)) (aw.1 e)
     rw [aeL,if_neg (by decide),sP] at a_;rw [if_neg (by simpa using aQ)];exact a_
   ·rw [if_neg (by simpa using h),show i=b.2.length by omega];rfl
theorem akC (ag:b.2.length≤1000):Pm b=some (Ox b):=by
 rw [Pm];by_cases h:rX b=0
 ·have pZ:=ID.1 h;rw [U2 pZ,sb,XB pZ];dsimp only;rw [if_neg (by simp)];exact aai pZ p_ 0 0 rfl (by omega) (rn (by omega))
 ·rw [U1 ag h,sb,afx h];dsimp only;rw [if_pos (by simpa using h)]
end
end Go.Proofs.YtfakoboiahbhaaaGreat.Ab
