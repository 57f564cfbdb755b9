
import Derived.Test.YtfakoboiahbhaaaGreatJp4
import Derived.KernelRfl
import Derived.Test.YtfakoboiahbhaaaGreatJp9
import Derived.Test.YtfakoboiahbhaaaGreatJp8
import Derived.Test.YtfakoboiahbhaaaGreatJp5
import Derived.Test.YtfakoboiahbhaaaGreatProg
set_option linter.unusedSimpArgs false
set_option linter.unusedVariables false
set_option linter.unusedSectionVars false

namespace Go.Proofs.YtfakoboiahbhaaaGreat.Ab
open Go
set_option maxRecDepth 20000
set_option maxHeartbeats 4000000
noncomputable def PN:eM :=
 .loop (some (DX false [1,2,1,3,23])) (.seq (FY [FN 10 6,FN 11 1,FK 12 11,Fo 13 10 12 .lss] (.cond (.sl 13) .skip (.exit 0))) (.seq (.block 1 (FT [gO 16 [.sl 5] (.ov 1),gO 17 [.hD 16] .take,gO 18 [.sl 2] (.ov 1),FL 19 18,FN 20 1,FN 21 6,FH 22 20 21 1,FL 23 22,FH 24 19 23 2,gO 25 [.hD 24] (.px (.str 2)),gO 26 [.hD 25] (.xG 1 2 [.int .i64 0,.int .i64 0] [0]),gO 27 [.hA 17,.hA 26] (.app 2 16),gO 28 [.sl 5] (.ov 1),⟨none,[.hA 28,.hA 27],none,none,.st 1⟩])) (FR [FO 14 6,Fk 15 14 1,FO 6 15])))
noncomputable def Z_:eM :=
 FY [gO 2 [.hA 0] .box,gO 4 [] (.alloc [.int .i64 0,.ax [] 0 .full])] (FY [gO 7 [.sl 2] (.ov 0),FL 8 7,gO 9 [.hD 8] (.build [.int .i64 0,.ax [] 0 .full] [(0,1)]),gO 5 [] (.alloc [.int .i64 0,.ax [] 0 .full]),⟨none,[.sl 5,.hA 9],none,none,.st 2⟩] (.seq (FY [FM 6 0] (.block 0 PN)) (FY [gO 29 [.hD 5] (.px (.str 2)),⟨none,[.sl 4,.hA 29],none,none,.st 2⟩] .ret)))
theorem aeZ:yQ Tryz.prog Ql 51=some (Z_,30,[.cell 4 (.str 2)]):=by kernel_rfl
def KY (b:qn) (qo:qa) (qh:qe→Option qn):Nat→Int→qe→Option qn
 | 0,_,_=>none
 | m+1,s1,s2 =>
   if (decide (s1<(qo.length:Int)))=true then
    qd (0≤s1∧s1<(qo.length:Int)) <|
    qd (0≤(ix qo s1)∧(ix qo s1)<(b.2.length:Int)) <|
    qd ((s2.length+1)*16≤140737488355328) <|
    KY b qo qh m (w (s1+(1:Int))) (s2++[(ix b.2 (ix qo s1))])
   else
    qh s2
def L5 (b:qn) (qo:qa):Option qn :=
 KY b qo (fun xt =>
   some (b.1,xt)) p' (0:Int) ([]:List (Int×Int))
theorem ajx {b:qn} {qo:qa} {qh:qe→Option qn} {s1:Int} {s2:qe} {v:qn} {Q:ra}   {JB:h9} (rf:∀ (xt:qe) (bC:au) (p_:List I),qh xt=some v→qV 30 [(4,(.ptr 1 0)),(5,(.ptr 2 0))] p_→Q (.exit 0) p_ [bC,au.cells [(hG (0:Int)),(.ax [] 0 .full)],au.cells [(hG b.1),(qf xt .full)]]) (adB:∀ (xt:qe) (bC:au) (p_:List I),qh xt=some v→qV 30 [(4,(.ptr 1 0)),(5,(.ptr 2 0))] p_→Q (.exit 0) p_ [bC,au.cells [(hG (0:Int)),(.ax [] 0 .full)],au.cells [(hG b.1),(qf xt (.own 2))]]) (Rf:(JB=h9.full∨JB=(.own 2))) {T:List I} (bW:eL (DX false [1,2,1,3,23]) T=F2 30 [(1,(qq qo .shared)),(2,(.ptr 0 0)),(4,(.ptr 1 0)),(5,(.ptr 2 0)),(6,(hG s1))]) (h:KY b qo qh p' s1 s2=some v) :
  dB Tryz.prog Ql 51 0 none PN T [qv b,au.cells [(hG (0:Int)),(.ax [] 0 .full)],au.cells [(hG b.1),(.ax (s2.flatMap p6) s2.length JB)]] Q:=by
 unfold PN;refine wp_loop bW ?_;refine .intro (fun m T H=>∃ (s1:Int) (s2:qe) (JB:h9),(JB=h9.full∨JB=(.own 2))∧T=F2 30 [(1,(qq qo .shared)),(2,(.ptr 0 0)),(4,(.ptr 1 0)),(5,(.ptr 2 0)),(6,(hG s1))]∧H=[qv b,au.cells [(hG (0:Int)),(.ax [] 0 .full)],au.cells [(hG b.1),(.ax (s2.flatMap p6) s2.length JB)]]∧KY b qo qh m s1 s2=some v) p' ⟨s1,s2,_,Rf,rfl,rfl,h⟩ ?_;clear h bW;rintro m T H ⟨s1,s2,JB,Rf,rfl,rfl,h⟩;cases m
 ·exact q3 h
 rename_i m;rw [KY.eq_2] at h;rcases Rf with rfl | rfl
 ·conv=>whnf
  refine bs h (fun eQ h=>?_) fun eQ h=>?_
  ·rw [eQ];(conv=>whnf);refine qy h id fun fi h=>?_;rw [rA hG qo s1 fi];(conv=>whnf);refine qy h id fun qu h=>?_;rw [qQ p6 2 qz b.2 (ix qo s1) qu];(conv=>whnf);obtain ⟨qA,h⟩:=qD h;refine ⟨by first | rfl | (simp;done) | exact r9 p6 _ qz _,by have:=qA;omega,by decide,qA,by first | rfl | (simp;done) | exact r9 p6 _ qz _,?_⟩
   erw [F_ p6 s2 (ix b.2 (ix qo s1))];(conv=>whnf);exact ⟨m,Nat.lt_succ_self m,(w (s1+(1:Int))),(s2++[(ix b.2 (ix qo s1))]),_,(.inr rfl),rfl,rfl,h⟩
  ·rw [eQ];(conv=>whnf);exact rf _ _ _ h ⟨rfl,rfl⟩
 ·conv=>whnf
  refine bs h (fun eQ h=>?_) fun eQ h=>?_
  ·rw [eQ];(conv=>whnf);refine qy h id fun fi h=>?_;rw [rA hG qo s1 fi];(conv=>whnf);refine qy h id fun qu h=>?_;rw [qQ p6 2 qz b.2 (ix qo s1) qu];(conv=>whnf);obtain ⟨qA,h⟩:=qD h;refine ⟨by first | rfl | (simp;done) | exact r9 p6 _ qz _,by have:=qA;omega,rfl,qA,?_⟩
   erw [F_ p6 s2 (ix b.2 (ix qo s1))];(conv=>whnf);exact ⟨m,Nat.lt_succ_self m,(w (s1+(1:Int))),(s2++[(ix b.2 (ix qo s1))]),_,(.inr rfl),rfl,rfl,h⟩
  ·rw [eQ];(conv=>whnf);exact adB _ _ _ h ⟨rfl,rfl⟩
theorem Za {b:qn} {qo:qa} {v:qn} (h:L5 b qo=some v):qC 51 [(.agg [(hG b.1),(.ax (b.2.flatMap p6) b.2.length .shared)]),(.ax (qo.map hG) qo.length .shared)] (.agg [(hG v.1),(.ax (v.2.flatMap p6) v.2.length .shared)]):=by
 refine qN dD aeZ rfl (H8 (p5 rfl (p5 (q4 (fun _=>(p5 rfl (p5 rfl rfl))) _ _ _) rfl))) fun Q bz=>?_;have lj:qE [.cell 4 (.str 2)] Q (fun v=>(abW v)) v:=fun T H bJ=>bz _ T H bJ;unfold L5 at h;unfold Z_;obtain ⟨Gi,qF⟩:∃ c,PN=c:=⟨_,rfl⟩;rw [qF];conv=>whnf
 subst qF;refine ajx ?_ ?_ (.inl rfl) (by exact rfl) h
 ·intro xt bC p_ h qt;obtain ⟨qT,rfl⟩:=qt.ex;conv=>whnf
  exact qj h lj rfl rfl
 ·intro xt bC p_ h qt;obtain ⟨qT,rfl⟩:=qt.ex;conv=>whnf
  exact qj h lj rfl rfl

noncomputable def P3:eM :=
 .loop (some (DX false [1,1,1,3,21])) (.seq (FY [FN 8 5,FN 9 4,FK 10 9,Fo 11 8 10 .lss] (.cond (.sl 11) .skip (.exit 0))) (.seq (.block 1 (FT [FO 14 3,gO 15 [.sl 1] (.px (.str 2)),FN 16 4,FN 17 5,FH 18 16 17 1,FL 19 18,gO 20 [.ij (.func 51 [] []),.sl 15,.sl 19] (.call 3),gO 21 [.ij (.func 78 [] []),.sl 20] (.call 3),FK 22 21,Fm 23 22 2 .quo,gO 24 [.ij (.int .i64 1),.hA 23] .max,Fo 25 14 24 .add,FO 3 25])) (FR [FO 12 5,Fk 13 12 1,FO 5 13])))
noncomputable def aar:eM :=
 FY [gO 1 [.hA 0] .box,FM 2 0] (FY [FM 3 0] (FY [gO 6 [.sl 1] (.px (.str 2)),gO 7 [.ij (.func 80 [] []),.sl 6] (.call 3),FO 4 7] (.seq (FY [FM 5 0] (.block 0 P3)) (FY [FO 26 3,FO 2 26] .ret))))
theorem aff:yQ Tryz.prog Qq 84=some (aar,27,[.tmp 2]):=by kernel_rfl
def K9 (b:qn) (aR:rX) (qh:Int→Option Int):Nat→Int→Int→Option Int
 | 0,_,_=>none
 | m+1,s1,s2 =>
   if (decide (s2<(aR.length:Int)))=true then
    qd (0≤s2∧s2<(aR.length:Int)) <|
    (L5 b (ix aR s2)).bind fun r2 =>
    (K6 r2).bind fun ew =>
    qd ((2:Int)≠0) <|
    K9 b aR qh m (w (s1+(max (1:Int) (w ((ew.length:Int).tdiv (2:Int)))))) (w (s2+(1:Int)))
   else
    qh s1
def K8 (b:qn):Option Int :=
 (L_ b).bind fun aR =>
 K9 b aR (fun xt =>
   some xt) p' (0:Int) (0:Int)
theorem aj3 {b:qn} {aR:rX} {qh:Int→Option Int} {s1:Int} {s2:Int} {v:Int} {Q:ra}   (rf:∀ (xt:Int) (bC:au) (p_:List I),qh xt=some v→qV 27 [(3,(hG xt))] p_→Q (.exit 0) p_ [bC]) {T:List I} (bW:eL (DX false [1,1,1,3,21]) T=F2 27 [(1,(.ptr 0 0)),(3,(hG s1)),(4,(.ax (aR.map i') aR.length .shared)),(5,(hG s2))]) (h:K9 b aR qh p' s1 s2=some v) :
  dB Tryz.prog Qq 84 0 none P3 T [qv b] Q:=by
 unfold P3;refine wp_loop bW ?_;refine .intro (fun m T H=>∃ (s1 s2:Int),T=F2 27 [(1,(.ptr 0 0)),(3,(hG s1)),(4,(.ax (aR.map i') aR.length .shared)),(5,(hG s2))]∧H=[qv b]∧K9 b aR qh m s1 s2=some v) p' ⟨s1,s2,rfl,rfl,h⟩ ?_;clear h bW;rintro m T H ⟨s1,s2,rfl,rfl,h⟩;cases m
 ·exact q3 h
 rename_i m;rw [K9.eq_2] at h;conv=>whnf
 refine bs h (fun fi h=>?_) fun fi h=>?_
 ·rw [fi];conv=>whnf
  refine qy h id fun qu h=>?_;rw [rA i' aR s2 qu];conv=>whnf
  obtain ⟨r2,qA,h⟩:=qi h;refine ⟨qm.pl,_,Za qA,F7,?_⟩;conv=>whnf
  obtain ⟨ew,qG,h⟩:=qi h;refine ⟨qm.pl,_,Tu qG,rH rfl,?_⟩;conv=>whnf
  refine qy h id fun q7 h=>?_;conv=>whnf
  exact ⟨m,Nat.lt_succ_self m,(w (s1+(max (1:Int) (w ((ew.length:Int).tdiv (2:Int)))))),(w (s2+(1:Int))),rfl,rfl,h⟩
 ·rw [fi];conv=>whnf
  exact rf _ _ _ h ⟨rfl,rfl⟩
theorem TB {b:qn} {v:Int} (h:K8 b=some v):qC 84 [(.agg [(hG b.1),(.ax (b.2.flatMap p6) b.2.length .shared)])] (hG v):=by
 refine qN dD aff rfl rfl fun Q bz=>?_;have lj:qE [.tmp 2] Q (fun v=>(hG v)) v:=fun T H bJ=>bz _ T H bJ;unfold K8 at h;unfold aar;obtain ⟨Gi,qF⟩:∃ c,P3=c:=⟨_,rfl⟩;rw [qF];conv=>whnf
 obtain ⟨aR,eQ,h⟩:=qi h;refine ⟨qm.pl,_,Zp eQ,?_⟩;conv=>whnf
 subst qF;refine aj3 ?_ (by exact rfl) h;intro xt bC p_ h qt;obtain ⟨qT,rfl⟩:=qt.ex;conv=>whnf
 exact qj h lj rfl rfl

noncomputable def ZZ:eM :=
 FY [gO 1 [.hA 0] .box,FM 2 0,FM 3 0] (FY [gO 7 [.hD 1] (.px (.str 2)),gO 8 [.ij (.func 64 [] []),.sl 7] (.call 3),FO 6 8,F5 9 6 0,gO 10 [.hD 6] (.ext 1),FO 4 9,FO 5 10] (.seq (FY [FN 11 5,Fm 12 11 0 .neq] (.cond (.sl 12) (FY [FO 13 5,FM 2 0,FO 3 13] .ret) .skip)) (FY [FO 14 4,gO 15 [.ij (.func 83 [] []),.sl 14] (.call 3),FK 16 15,FO 2 16,FM 3 0] .ret)))
theorem aeO:yQ Tryz.prog Uf 35=some (ZZ,17,[.tmp 2,.tmp 3]):=by kernel_rfl
def L1 (b:qn):Option (Int×Int) :=
 (Iw b).bind fun aR =>
 match aR with
 | (none,aW) =>
   if (decide (aW≠(0:Int)))=true then
    some ((0:Int),aW)
   else
    none
 | (some bP,aW) =>
   if (decide (aW≠(0:Int)))=true then
    some ((0:Int),aW)
   else
    (I4 bP).bind fun r2 =>
    some ((r2.length:Int),(0:Int))
theorem YY {b:qn} {v:(Int×Int)} (h:L1 b=some v):qC 35 [(.agg [(hG b.1),(.ax (b.2.flatMap p6) b.2.length .shared)])] (.tuple [(hG v.1),(hG v.2)]):=by
 refine qN dD aeO rfl (HX (p5 rfl (p5 rfl rfl))) fun Q bz=>?_;have lj:qE [.tmp 2,.tmp 3] Q (fun v=>(.tuple [(hG v.1),(hG v.2)])) v:=fun T H bJ=>bz _ T H bJ;unfold L1 at h;unfold ZZ;conv=>whnf
 obtain ⟨aR,eQ,h⟩:=qi h;rcases aR with ⟨_ | bP,aW⟩
 ·refine ⟨qm.pl,_,J1 eQ,?_⟩;conv=>whnf
  refine bs h (fun fi h=>?_) fun fi h=>?_
  ·rw [fi];(conv=>whnf);exact qj h lj rfl rfl
  ·rw [fi];(conv=>whnf);exact q3 h
 ·refine ⟨qm.pl,_,J1 eQ,?_⟩;conv=>whnf
  refine bs h (fun qu h=>?_) fun qu h=>?_
  ·rw [qu];(conv=>whnf);exact qj h lj rfl rfl
  ·rw [qu];(conv=>whnf);obtain ⟨r2,qA,h⟩:=qi h;refine ⟨qm.pl,_,Tz qA,?_⟩;(conv=>whnf);exact qj h lj rfl rfl

noncomputable def Z0:eM :=
 FY [gO 1 [.hA 0] .box,FM 2 0,FM 3 0] (.seq (FY [gO 4 [.sl 1] (.px (.str 2)),gO 5 [.ij (.func 21 [] []),.sl 4] (.call 3),Fm 6 5 0 .neq] (.cond (.sl 6) (FY [gO 7 [.hD 1] (.px (.str 2)),gO 8 [.ij (.func 21 [] []),.sl 7] (.call 3),FM 2 0,FO 3 8] .ret) .skip)) (FY [gO 9 [.hD 1] (.px (.str 2)),gO 10 [.ij (.func 84 [] []),.sl 9] (.call 3),FO 2 10,FM 3 0] .ret))
theorem aeP:yQ Tryz.prog Ug 36=some (Z0,11,[.tmp 2,.tmp 3]):=by kernel_rfl
def ND (b:qn):Option (Int×Int) :=
 (Hq b).bind fun aR =>
 if (decide (aR≠(0:Int)))=true then
  (Hq b).bind fun r2 =>
  some ((0:Int),r2)
 else
  (K8 b).bind fun ew =>
  some (ew,(0:Int))
theorem ajc {b:qn} {v:(Int×Int)} (h:ND b=some v):qC 36 [(.agg [(hG b.1),(.ax (b.2.flatMap p6) b.2.length .shared)])] (.tuple [(hG v.1),(hG v.2)]):=by
 refine qN dD aeP rfl (HX (p5 rfl (p5 rfl rfl))) fun Q bz=>?_;have lj:qE [.tmp 2,.tmp 3] Q (fun v=>(.tuple [(hG v.1),(hG v.2)])) v:=fun T H bJ=>bz _ T H bJ;unfold ND at h;unfold Z0;conv=>whnf
 obtain ⟨aR,eQ,h⟩:=qi h;refine ⟨qm.pl,_,I1 eQ,?_⟩;conv=>whnf
 refine bs h (fun fi h=>?_) fun fi h=>?_
 ·rw [fi];conv=>whnf
  obtain ⟨r2,qu,h⟩:=qi h;refine ⟨qm.pl,_,I1 qu,?_⟩;conv=>whnf
  exact qj h lj rfl rfl
 ·rw [fi];conv=>whnf
  obtain ⟨ew,qA,h⟩:=qi h;refine ⟨qm.pl,_,TB qA,?_⟩;conv=>whnf
  exact qj h lj rfl rfl
end Go.Proofs.YtfakoboiahbhaaaGreat.Ab


namespace Go.Proofs.YtfakoboiahbhaaaGreat.Ab
open Go
def HW (b:qb) (S:List Int):qb:=(b.1,S.map (ix b.2))
section
variable {b:qb} {S:List Int}
theorem RH:(HW b S).2.length=S.length:=by simp [HW]
theorem Ky {i:Nat} (h:i<S.length):ix (HW b S).2 (i:Int)=ix b.2 S[i]:=by
 have af:i<(S.map (ix b.2)).length:=by simpa using h
 show ix (S.map (ix b.2)) (i:Int)=_;rw [rn af,List.getElem_map]
theorem Ws (p8:qJ b) (cg:rm b S) (aq:S.length≤10):qJ (HW b S):=by
 refine ⟨p8.f1,p8.f6,by rw [RH];exact aq,fun s ai=>?_,fun s ai=>?_⟩
 all_goals
  obtain ⟨i,hi,rfl⟩:=List.mem_map.1 ai;have hm:=MV (l:=b.2) (i:=i) (cg i hi)
 ·exact p8.left _ hm
 ·exact p8.right _ hm
theorem Wu (v:Int):q2 (HW b S) (upto (HW b S).2.length) v=q2 b S v:=by
 rw [U3,QC];rfl
theorem Wv:H7 (HW b S)=rj b S:=by
 unfold H7 rj;simp only [Wu]
theorem Y' (cg:rm b S) (aq:S.length≤1000) {k:Row→Option qb}:∀ (m i:Nat) (z:Int),z=i→i≤S.length→S.length-i<m→KY b S k m z ((S.take i).map (ix b.2))=k (S.map (ix b.2))
 | 0,_,_,_,_,h=>absurd h (by omega)
 | m+1,i,_,rfl,hi,hm=>by
   rw [KY];by_cases h:(i:Int)<(S.length:Int)
   ·(have rb:i<S.length:=by omega);have ai:=cg _ (List.getElem_mem rb);(have e:(S.take i).map (ix b.2)++[ix b.2 S[i]]=(S.take (i+1)).map (ix b.2):=by rw [Jo rb,List.map_append];rfl);have aj:=Y' cg aq (k:=k) m (i+1) _ rfl (by omega) (by omega);rw [if_pos (decide_eq_true h),qp ⟨by omega,h⟩,rn rb,qp ai,qp (by simp;omega),rq i (by omega),e];exact aj
   ·rw [if_neg (by simpa using h),show i=S.length by omega,List.take_length]
theorem Y_ (cg:rm b S) (aq:S.length≤1000):L5 b S=some (HW b S):=by
 rw [L5];have:=Y' cg aq (k:=fun xt=>some (b.1,xt)) p' 0 0 rfl (by omega) (ru (by omega));rw [List.take_zero,List.map_nil] at this;exact this
theorem ahW (n:Nat):(n:Int).tdiv 2=((n / 2:Nat):Int):=by
 rw [Int.tdiv_eq_ediv_of_nonneg (by omega)];rfl
theorem Zw (p8:qJ b) {P:List (List Int)} (r_:∀ r∈P,rm b r∧r.length≤10) (acY:P.length≤10) {k:Int→Option Int}:∀ (m i:Nat) (z:Int) (a:Nat),z=i→i≤P.length→P.length-i<m→a≤3*i →
  K9 b P k m (a:Int) z=k ((a+((P.drop i).map (HA b)).sum:Nat):Int)
 | 0,_,_,_,_,_,h,_=>absurd h (by omega)
 | m+1,i,_,a,rfl,hi,hm,cu=>by
   rw [K9];by_cases h:(i:Int)<(P.length:Int)
   ·(have rb:i<P.length:=by omega);obtain ⟨ad,af⟩:=r_ _ (List.getElem_mem rb);have aH:=We (b:=b) P[i];have ar:(rj b P[i]).length≤6:=Nat.le_trans (List.length_filter_le _ _) (by rw [r3];omega);rw [if_pos (decide_eq_true h),qp ⟨by omega,h⟩,rn rb,Y_ ad (by omega),Option.bind_some,Ts (Ws p8 ad af),Option.bind_some,qp (by decide),Wv,ahW,Ia (n:=(((rj b P[i]).length / 2:Nat):Int)) (by omega),rq i (by omega)];(have e:max (1:Int) (((rj b P[i]).length / 2:Nat):Int)=(HA b P[i]:Int):=by unfold HA;omega);rw [e,Ia (by omega),show (a:Int)+(HA b P[i]:Int)=((a+HA b P[i]:Nat):Int) by omega,Zw p8 r_ acY m (i+1) _ (a+HA b P[i]) rfl (by omega) (by omega) (by omega),List.drop_eq_getElem_cons rb,List.map_cons,List.sum_cons,Nat.add_assoc]
   ·rw [if_neg (by simpa using h),List.drop_eq_nil_of_le (by omega)];simp
theorem afJ (p8:qJ b):∀ r∈parts b,rm b r∧r.length≤10:=fun r aj=>by
 have h:=(NO p8).2.1;have dq:=p8.len;have ad:=h.MU It r aj;exact ⟨ad,Nat.le_trans (HV ((h.Ho r aj).imp fun h e=>by omega) ad) dq⟩
theorem Wz (p8:qJ b):(parts b).length≤10:=Nat.le_trans ((NO p8).2.1.I_ It) p8.len
theorem TA (p8:qJ b):K8 b=some (G' b:Int):=by
 rw [K8,Zo p8,Option.bind_some];have:=Zw p8 (afJ p8) (Wz p8) (k:=fun xt=>some xt) p' 0 0 0 rfl (by omega) (ru (by have:=Wz p8;omega)) (by omega);rw [List.drop_zero,Nat.zero_add] at this;exact this
theorem To (p8:qJ b):Iw b=some (some b,0):=by
 rw [Iw,Tk b (by have:=p8.len;omega),Option.bind_some,GM.2 p8];rfl
theorem Tn (ag:b.2.length≤1000) (h:q9 b≠0):Iw b=some (none,q9 b):=by
 rw [Iw,Tk b ag,Option.bind_some,if_pos (by simpa using h)]
def I' (b:qb):Int×Int:=if q9 b≠0 then (0,q9 b) else (G' b,0)
theorem My (p8:qJ b):I' b=((G' b:Int),0):=by unfold I';rw [if_neg (by rw [GM.2 p8];simp)]
theorem Mx (h:q9 b≠0):I' b=(0,q9 b):=by unfold I';rw [if_pos h]
theorem YX (ag:b.2.length≤1000):L1 b=some (I' b):=by
 rw [L1];by_cases h:q9 b=0
 ·have p8:=GM.1 h;obtain ⟨R,ad,af⟩:=Pq p8;rw [To p8,Option.bind_some,My p8];show (if decide ((0:Int)≠0)=true then _ else (I4 b).bind fun r2=>some ((r2.length:Int),(0:Int)))=_;rw [if_neg (by decide),ad,Option.bind_some,af.len]
 ·rw [Tn ag h,Option.bind_some,Mx h];show (if decide (q9 b≠0)=true then some ((0:Int),q9 b) else none)=_;rw [if_pos (by simpa using h)]
theorem ajb (ag:b.2.length≤1000):ND b=some (I' b):=by
 rw [ND,NB b ag,Option.bind_some];by_cases h:q9 b=0
 ·have p8:=GM.1 h;rw [if_neg (by simp [h]),TA p8,Option.bind_some,My p8]
 ·rw [if_pos (by simpa using h),Option.bind_some,Mx h]
def I7 (b:qb) (S:List Int):Prop:=∀ x∈S,∀ y∈S,∀ f g,qW b x f→qW b y g→rB b S f g
theorem rC.one {out:List (List Int)} (h:rC b S out) (aT:S≠[]):out.length=1↔I7 b S:=by
 constructor
 ·intro ad;obtain ⟨r,rfl⟩:∃ r,out=[r]:=List.length_eq_one_iff.1 ad;intro x al y aZ f g aN aK;have hm:∀ z∈S,z∈r:=fun z bn=>by
   obtain ⟨q,bl,VT⟩:=(h.mem z).1 bn;rw [List.mem_singleton.1 bl] at VT;exact VT
  exact h.HL r (by simp) x (hm x al) y (hm y aZ) f g aN aK
 ·intro bJ;obtain ⟨x,al⟩:=List.exists_mem_of_ne_nil S aT;obtain ⟨r,aj,Io⟩:=(h.mem x).1 al;have all:∀ q∈out,q=r:=fun q bl=>by
   obtain ⟨y,aZ⟩:=List.exists_mem_of_ne_nil q (h.ne q bl);have VS:=(h.mem y).2 ⟨q,bl,aZ⟩;have:=h.closed aj Io (f:=(ix b.2 x).1) (g:=(ix b.2 y).1) (.inl rfl) (bJ x al y VS _ _ (.inl rfl) (.inl rfl)) y VS (.inl rfl);exact h.uniq bl aj aZ this
  match out,aj,all,h with
  | [q],_,_,_=>rfl
  | q::fK::l,_,all,h =>
    exfalso;have e1:=all q (by simp);have cd:=all fK (by simp);obtain ⟨y,aZ⟩:=List.exists_mem_of_ne_nil q (h.ne q (by simp));exact (List.pairwise_cons.1 h.rN).1 fK (by simp) y aZ (by rw [cd,←e1];exact aZ)
theorem Wt {f g:Int}:rB (HW b S) (upto S.length) f g↔rB b S f g:=by
 constructor
 ·intro h
  induction h with
  | refl=>exact .refl
  | step i _ hi aB aF a9 =>
    have hi:=Gc.1 hi;obtain ⟨k,rfl⟩:∃ k:Nat,i=(k:Int):=⟨i.toNat,by omega⟩;(have av:k<S.length:=by omega);unfold qW at aB aF;rw [Ky av] at aB aF;exact .step S[k] a9 (List.getElem_mem av) aB aF
 ·intro h
  induction h with
  | refl=>exact .refl
  | step i _ hi aB aF a9 =>
    obtain ⟨k,av,e⟩:=List.getElem_of_mem hi;refine .step (k:Int) a9 (Gc.2 ⟨by omega,by omega⟩) ?_ ?_
    ·unfold qW at aB ⊢;rw [Ky av,e];exact aB
    ·unfold qW at aF ⊢;rw [Ky av,e];exact aF
theorem afH:I7 (HW b S) (upto S.length)↔I7 b S:=by
 constructor
 ·intro h x al y aZ f g aN aK;obtain ⟨i,hi,rfl⟩:=List.getElem_of_mem al;obtain ⟨j,az,rfl⟩:=List.getElem_of_mem aZ;refine Wt.1 (h (i:Int) (Gc.2 ⟨by omega,by omega⟩) (j:Int) (Gc.2 ⟨by omega,by omega⟩) f g ?_ ?_)
  ·unfold qW;rw [Ky hi];exact aN
  ·unfold qW;rw [Ky az];exact aK
 ·intro h x al y aZ f g aN aK;have al:=Gc.1 al;have aZ:=Gc.1 aZ;obtain ⟨i,rfl⟩:∃ i:Nat,x=(i:Int):=⟨x.toNat,by omega⟩;obtain ⟨j,rfl⟩:∃ j:Nat,y=(j:Int):=⟨y.toNat,by omega⟩;have hi:i<S.length:=by omega
  have az:j<S.length:=by omega
  unfold qW at aN aK;rw [Ky hi] at aN;rw [Ky az] at aK;exact Wt.2 (h _ (List.getElem_mem hi) _ (List.getElem_mem az) f g aN aK)
end
end Go.Proofs.YtfakoboiahbhaaaGreat.Ab


namespace Go.Proofs.YtfakoboiahbhaaaGreat.Ab
open Go
set_option maxRecDepth 20000
set_option maxHeartbeats 4000000
noncomputable def ZN:eM :=
 FY [gO 4 [.ij (.bool false)] .iH] (.seq (FT [gO 5 [.sl 1] (.px .one),gO 6 [.hD 5] .za,Fu 7 6 0,Fu 8 7 1,FL 9 8,FN 10 0,FH 11 9 10 2,Fu 12 11 0,FL 13 12,gO 14 [.sl 2] (.px .one),Fo 15 13 14 .eql,FO 16 15,dZ 17 [.sl 1] 16 false (.px .one),dZ 18 [.hD 17] 16 false .za,dZ 19 [.hD 18] 16 false (.ov 0),dZ 20 [.hD 19] 16 false (.ov 1),dZ 21 [.hD 20] 16 false (.px .one),dZ 22 [.sl 0] 16 false .iH,dZ 23 [.hD 21,.hD 22] 16 false (.pq 2),dZ 24 [.hD 23] 16 false (.ov 1),dZ 25 [.hD 24] 16 false (.px .one),dZ 26 [.sl 2] 16 false (.px .one),dZ 27 [.hD 25,.hD 26] 16 false (.bin .eql),gO 28 [.sl 16,.ij (.bool true),.hD 27] .pick,FO 4 28]) .ret)
theorem aeC:yQ Tryz.prog T9 130=some (ZN,29,[.tmp 4]):=by kernel_rfl
def LX (i:Int) (c0:qn) (a':Int):Option Bool :=
 qd (0≤i∧i<(c0.2.length:Int)) <|
 if (decide ((ix c0.2 i).1=a'))=true then
  some true
 else
  qd (0≤i∧i<(c0.2.length:Int)) <|
  some (decide ((ix c0.2 i).2=a'))
theorem YI {i:Int} {c0:qn} {a':Int} {v:Bool} (h:LX i c0 a'=some v):qC 130 [(hG i),(.bT [(.bT [(hG c0.1),(.ax (c0.2.flatMap p6) c0.2.length .shared)])]),(.bT [(hG a')])] (B v):=by
 refine qN dD aeC rfl rfl fun Q bz=>?_;have lj:qE [.tmp 4] Q (fun v=>(B v)) v:=fun T H bJ=>bz _ T H bJ;unfold LX at h;unfold ZN;conv=>whnf
 refine qy h id fun eQ h=>?_;rw [qQ p6 2 qz c0.2 i eQ];conv=>whnf
 refine bs h (fun fi h=>?_) fun fi h=>?_
 ·rw [fi];conv=>whnf
  exact qj h lj rfl rfl
 ·rw [fi];conv=>whnf
  refine qy h id fun qu h=>?_;rw [qQ p6 2 qz c0.2 i qu];conv=>whnf
  exact qj h lj rfl rfl

noncomputable def PB:eM :=
 .loop (some (DX false [0,2,5,2,10])) (FY [gO 9 [.sl 8,.sl 7] (.bin .lss)] (.seq (.cond (.sl 9) .skip (.exit 0)) (.seq (.block 1 (FY [FN 10 8,FO 5 10] (FY [FN 11 1,FN 12 0,FN 13 5,FH 14 12 13 1,FL 15 14,Fo 16 11 15 .eql] (.cond (.sl 16) (FY [FO 17 5,FO 4 17] .ret) .skip)))) (FR [Fk 18 8 1,FO 8 18]))))
noncomputable def ZP:eM :=
 FY [FM 4 0] (.seq (FY [FN 6 0,FK 7 6,FM 8 0] (.block 0 PB)) (FY [FM 4 (-1)] .ret))
theorem aeE:yQ Tryz.prog Qf 146=some (ZP,19,[.tmp 4]):=by kernel_rfl
def KH (s:qa) (G7:Int) (qh:Unit→Option Int):Nat→Int→Option Int
 | 0,_=>none
 | m+1,s1 =>
   if (decide (s1<(s.length:Int)))=true then
    qd (0≤s1∧s1<(s.length:Int)) <|
    if (decide (G7=(ix s s1)))=true then
     some s1
    else
     KH s G7 qh m (w (s1+(1:Int)))
   else
    qh ()
def Pg (s:qa) (G7:Int):Option Int :=
 KH s G7 (fun _ =>
   some (-1:Int)) p' (0:Int)
theorem aiP {s:qa} {G7:Int} {qh:Unit→Option Int} {s1:Int} {v:Int} {Q:ra}   (lj:qE [.tmp 4] Q (fun v=>(hG v)) v) (rf:∀ (p_:List I),qh ()=some v→qV 19 [] p_→Q (.exit 0) p_ []) {T:List I} (bW:eL (DX false [0,2,5,2,10]) T=F2 19 [(0,(qq s .shared)),(1,(hG G7)),(7,(hG (s.length:Int))),(8,(hG s1))]) (h:KH s G7 qh p' s1=some v) :
  dB Tryz.prog Qf 146 0 none PB T [] Q:=by
 unfold PB;refine wp_loop bW ?_;refine .intro (fun m T H=>∃ (s1:Int),T=F2 19 [(0,(qq s .shared)),(1,(hG G7)),(7,(hG (s.length:Int))),(8,(hG s1))]∧H=[]∧KH s G7 qh m s1=some v) p' ⟨s1,rfl,rfl,h⟩ ?_;clear h bW;rintro m T H ⟨s1,rfl,rfl,h⟩;cases m
 ·exact q3 h
 rename_i m;rw [KH.eq_2] at h;conv=>whnf
 refine bs h (fun eQ h=>?_) fun eQ h=>?_
 ·rw [eQ];conv=>whnf
  refine qy h id fun fi h=>?_;rw [rA hG s s1 fi];conv=>whnf
  refine bs h (fun qu h=>?_) fun qu h=>?_
  ·rw [qu];(conv=>whnf);exact qj h lj rfl rfl
  ·rw [qu];(conv=>whnf);exact ⟨m,Nat.lt_succ_self m,(w (s1+(1:Int))),rfl,rfl,h⟩
 ·rw [eQ];conv=>whnf
  exact rf  _ h ⟨rfl,rfl⟩
theorem aiQ {s:qa} {G7:Int} {v:Int} (h:Pg s G7=some v):qC 146 [(.ax (s.map hG) s.length .shared),(hG G7)] (hG v):=by
 refine qN dD aeE rfl rfl fun Q bz=>?_;have lj:qE [.tmp 4] Q (fun v=>(hG v)) v:=fun T H bJ=>bz _ T H bJ;unfold Pg at h;unfold ZP;obtain ⟨Gi,qF⟩:∃ c,PB=c:=⟨_,rfl⟩;rw [qF];conv=>whnf
 subst qF;refine aiP ?_ ?_ (by exact rfl) h
 ·exact fun T H bJ=>lj T H bJ
 ·intro  p_ h qt;obtain ⟨qT,rfl⟩:=qt.ex;conv=>whnf
  exact qj h lj rfl rfl

noncomputable def ZO:eM :=
 FY [gO 4 [.ij (.bool false)] .iH] (FY [FO 5 0,FO 6 1,gO 7 [.ij (.func 146 [] []),.sl 5,.sl 6] (.call 3),Fm 8 7 0 .geq,FO 4 8] .ret)
theorem aeD:yQ Tryz.prog T_ 131=some (ZO,9,[.tmp 4]):=by kernel_rfl
def Ny (s:qa) (G7:Int):Option Bool :=
 (Pg s G7).bind fun aR =>
 some (decide ((0:Int)≤aR))
theorem aiO {s:qa} {G7:Int} {v:Bool} (h:Ny s G7=some v):qC 131 [(.ax (s.map hG) s.length .shared),(hG G7)] (B v):=by
 refine qN dD aeD rfl rfl fun Q bz=>?_;have lj:qE [.tmp 4] Q (fun v=>(B v)) v:=fun T H bJ=>bz _ T H bJ;unfold Ny at h;unfold ZO;conv=>whnf
 obtain ⟨aR,eQ,h⟩:=qi h;refine ⟨qm.pl,_,aiQ eQ,?_⟩;conv=>whnf
 exact qj h lj rfl rfl

noncomputable def ZI:eM :=
 FY [gO 3 [.hA 0] .box,gO 5 [.hA 2] .box,gO 6 [.ij (.bool false)] .iH] (FY [gO 9 [.sl 3,.sl 5] (.y6 130 0 2),FO 7 9] (FY [gO 10 [.sl 3] (.px .one),FN 11 1,gO 12 [.ij (.func 76 [] []),.sl 10,.sl 11] (.call 3),FO 8 12] (.seq (.block 0 (FY [FN 14 1,FK 15 14,Fm 16 15 0 .eql,FO 13 16] (.cond (.sl 13) (FY [gO 6 [.ij (.bool true)] .iH] .ret) (FY [FN 18 8,FK 19 18,Fm 20 19 2 .gtr,FO 21 20,dZ 22 [.sl 8] 21 false .iH,dZ 23 [.hA 22] 21 false .pz,dZ 24 [.hD 23,.ij (.int .i64 2)] 21 false (.bin .eql),dZ 25 [.hA 24] 21 false .iH,dZ 26 [.hA 8] 25 true .iH,dZ 27 [.hD 5] 25 true (.px .one),⟨some 28,[.ij (.func 131 [] []),.sl 26,.sl 27],some (25,true),none,.call 3⟩,dZ 29 [.hD 28] 25 true (.un .not),dZ 30 [.hD 25,.hD 29,.ij (.bool false)] 21 false .pick,gO 31 [.hD 21,.ij (.bool true),.hD 30] .pick,FO 32 31,dZ 33 [.sl 1] 32 false .iH,dZ 34 [.hA 7] 32 false .iH,⟨some 35,[.ij (.func 92 [] []),.sl 33,.sl 34],some (32,false),none,.call 6⟩,dZ 36 [.hD 35] 32 false (.un .not),gO 37 [.hD 32,.ij (.bool true),.hD 36] .pick,FO 17 37] (.cond (.sl 17) (FY [gO 6 [.ij (.bool false)] .iH] .ret) .skip))))) (FY [FL 38 3,FO 39 1,gO 40 [.ij (.func 79 [] []),.sl 38,.sl 39] (.call 3),FK 41 40,Fm 42 41 1 .eql,FO 6 42] .ret))))
theorem aex:yQ Tryz.prog T0 109=some (ZI,43,[.tmp 6]):=by kernel_rfl
def KF (t:qn) (qo:qa) (figure:Int):Option Bool :=
 (K3 t qo).bind fun aR =>
 if (decide ((qo.length:Int)=(0:Int)))=true then
  some true
 else
  if (decide ((2:Int)<(aR.length:Int)))=true then
   some false
  else
   if (decide ((aR.length:Int)=(2:Int)))=true then
    (Ny aR figure).bind fun r2 =>
    if r2=true then
     (Js qo (fun qR=>LX qR t figure)).bind fun ew =>
     if ew=true then
      (J5 t qo).bind fun qH =>
      some (decide ((qH.length:Int)=(1:Int)))
     else
      some false
    else
     some false
   else
    (Js qo (fun qR=>LX qR t figure)).bind fun q6 =>
    if q6=true then
     (J5 t qo).bind fun Gp =>
     some (decide ((Gp.length:Int)=(1:Int)))
    else
     some false
theorem YF {t:qn} {qo:qa} {figure:Int} {v:Bool} (h:KF t qo figure=some v):qC 109 [(.bT [(hG t.1),(.ax (t.2.flatMap p6) t.2.length .shared)]),(.ax (qo.map hG) qo.length .shared),(hG figure)] (B v):=by
 refine qN dD aex rfl rfl fun Q bz=>?_;have lj:qE [.tmp 6] Q (fun v=>(B v)) v:=fun T H bJ=>bz _ T H bJ;unfold KF at h;unfold ZI;conv=>whnf
 obtain ⟨aR,eQ,h⟩:=qi h;refine ⟨qm.pl,_,Tr eQ,?_⟩;conv=>whnf
 refine bs h (fun fi h=>?_) fun fi h=>?_
 ·rw [fi];conv=>whnf
  exact qj h lj rfl rfl
 ·rw [fi];conv=>whnf
  refine bs h (fun qu h=>?_) fun qu h=>?_
  ·rw [qu];(conv=>whnf);exact qj h lj rfl rfl
  ·rw [qu];(conv=>whnf);refine bs h (fun qA h=>?_) fun qA h=>?_
   ·rw [qA];(conv=>whnf);obtain ⟨r2,qG,h⟩:=qi h;refine ⟨qm.pl,_,aiO qG,?_⟩;(conv=>whnf);cases r2
    ·(conv=>whnf);replace h:=r5 rfl h;exact qj h lj rfl rfl
    ·(conv=>whnf);replace h:=r4 rfl h;obtain ⟨ew,q7,h⟩:=qi h;refine ⟨_,_,Hv (cs:=[(qq qo .shared),(.func 130 [] [(.bT [(.bT [(hG t.1),(qf t.2 .shared)])]),(.bT [(hG figure)])])]) (bs:=[(qq qo .shared),(.func 130 [] [(.bT [(.bT [(hG t.1),(qf t.2 .shared)])]),(.bT [(hG figure)])])]) (rp rfl (rp (I0 rT (rp (HF (cs:=[(.bT [(hG t.1),(qf t.2 .shared)])]) (by first | exact qs.h | rfl | (simp [List.getElem?_append,I.settle];done)) rfl) (rp (HF (cs:=[(hG figure)]) (by first | exact qs.h | rfl | (simp [List.getElem?_append,I.settle];done)) rfl) rT))) rT)) (by rfl) (by exact (p5 (rF (fun _=>rfl) _ _ _) (p5 (Ip rfl (p5 (q' (p5 (q' (p5 rfl (p5 (q4 (fun _=>(p5 rfl (p5 rfl rfl))) _ _ _) rfl))) rfl)) (p5 (q' (p5 rfl rfl)) rfl))) rfl))) (Pt ⟨(p5 (q' (p5 (q' (p5 rfl (p5 (q4 (fun _=>(p5 rfl (p5 rfl rfl))) _ _ _) rfl))) rfl)) (p5 (q' (p5 rfl rfl)) rfl)),by simp⟩ (fun _ _ aZ=>YI aZ) q7) rfl,?_⟩
     (conv=>whnf);cases ew
     ·(conv=>whnf);replace h:=r5 rfl h;exact qj h lj rfl rfl
     ·(conv=>whnf);replace h:=r4 rfl h;obtain ⟨qH,qM,h⟩:=qi h;refine ⟨qm.pl,_,Tv qM,?_⟩;(conv=>whnf);exact qj h lj rfl rfl
   ·rw [qA];(conv=>whnf);obtain ⟨q6,qI,h⟩:=qi h;refine ⟨_,_,Hv (cs:=[(qq qo .shared),(.func 130 [] [(.bT [(.bT [(hG t.1),(qf t.2 .shared)])]),(.bT [(hG figure)])])]) (bs:=[(qq qo .shared),(.func 130 [] [(.bT [(.bT [(hG t.1),(qf t.2 .shared)])]),(.bT [(hG figure)])])]) (rp rfl (rp (I0 rT (rp (HF (cs:=[(.bT [(hG t.1),(qf t.2 .shared)])]) (by first | exact qs.h | rfl | (simp [List.getElem?_append,I.settle];done)) rfl) (rp (HF (cs:=[(hG figure)]) (by first | exact qs.h | rfl | (simp [List.getElem?_append,I.settle];done)) rfl) rT))) rT)) (by rfl) (by exact (p5 (rF (fun _=>rfl) _ _ _) (p5 (Ip rfl (p5 (q' (p5 (q' (p5 rfl (p5 (q4 (fun _=>(p5 rfl (p5 rfl rfl))) _ _ _) rfl))) rfl)) (p5 (q' (p5 rfl rfl)) rfl))) rfl))) (Pt ⟨(p5 (q' (p5 (q' (p5 rfl (p5 (q4 (fun _=>(p5 rfl (p5 rfl rfl))) _ _ _) rfl))) rfl)) (p5 (q' (p5 rfl rfl)) rfl)),by simp⟩ (fun _ _ aZ=>YI aZ) qI) rfl,?_⟩
    (conv=>whnf);cases q6
    ·(conv=>whnf);replace h:=r5 rfl h;exact qj h lj rfl rfl
    ·(conv=>whnf);replace h:=r4 rfl h;obtain ⟨Gp,rh,h⟩:=qi h;refine ⟨qm.pl,_,Tv rh,?_⟩;(conv=>whnf);exact qj h lj rfl rfl

noncomputable def aat:eM :=
 FY [gO 3 [.hA 0] .box,gO 6 [.ij (.bool false)] .iH] (FY [gO 9 [.hD 3] (.px (.str 2)),FN 10 1,gO 11 [.ij (.func 51 [] []),.sl 9,.sl 10] (.call 3),gO 7 [] (.alloc [.int .i64 0,.ax [] 0 .full]),⟨none,[.sl 7,.hA 11],none,none,.st 2⟩] (.seq (FY [FO 12 1,FK 13 12,Fm 14 13 0 .eql] (.cond (.sl 14) (FY [gO 6 [.ij (.bool true)] .iH] .ret) .skip)) (FY [gO 15 [.sl 7] (.px (.str 2)),gO 16 [.ij (.func 78 [] []),.sl 15] (.call 3),FO 8 16] (FY [gO 17 [.sl 7] (.px (.str 2)),gO 18 [.ij (.func 80 [] []),.sl 17] (.call 3),FK 19 18,Fm 20 19 1 .eql,FO 21 20,dZ 22 [.hD 7] 21 true (.px (.str 2)),⟨some 23,[.ij (.func 55 [] []),.sl 22],some (21,true),none,.call 3⟩,dZ 24 [.sl 2] 21 true .iH,dZ 25 [.hD 23,.hD 24] 21 true (.pq 1),dZ 26 [.hD 25] 21 true (.px .one),dZ 27 [.hD 26,.ij (.int .i64 0)] 21 true (.bin .gtr),gO 28 [.hD 21,.hD 27,.ij (.bool false)] .pick,FO 29 28,dZ 30 [.sl 8] 29 true .iH,dZ 31 [.hA 30] 29 true .pz,dZ 32 [.hD 31,.ij (.int .i64 0)] 29 true (.bin .eql),dZ 33 [.hA 32] 29 true .iH,dZ 34 [.sl 8] 33 false .iH,dZ 35 [.hA 34] 33 false .pz,dZ 36 [.hD 35,.ij (.int .i64 2)] 33 false (.bin .eql),dZ 37 [.hA 36] 33 false .iH,dZ 38 [.sl 8] 37 true .iH,dZ 39 [.hD 38,.ij (.int .i64 0)] 37 true (.pq 1),dZ 40 [.hD 39] 37 true (.px .one),dZ 41 [.sl 2] 37 true .iH,dZ 42 [.hD 40,.hD 41] 37 true (.bin .eql),dZ 43 [.hA 42] 37 true .iH,dZ 44 [.hA 8] 43 false .iH,dZ 45 [.hD 44,.ij (.int .i64 1)] 43 false (.pq 1),dZ 46 [.hD 45] 43 false (.px .one),dZ 47 [.hA 2] 43 false .iH,dZ 48 [.hD 46,.hD 47] 43 false (.bin .eql),dZ 49 [.hD 43,.ij (.bool true),.hD 48] 37 true .pick,dZ 50 [.hD 37,.hD 49,.ij (.bool false)] 33 false .pick,dZ 51 [.hD 33,.ij (.bool true),.hD 50] 29 true .pick,gO 52 [.hD 29,.hD 51,.ij (.bool false)] .pick,FO 6 52] .ret))))
theorem afh:yQ Tryz.prog Uz 87=some (aat,53,[.tmp 6]):=by kernel_rfl
def K' (b:qn) (left:qa) (figure:Int):Option Bool :=
 (L5 b left).bind fun aR =>
 if (decide ((left.length:Int)=(0:Int)))=true then
  some true
 else
  (K6 aR).bind fun r2 =>
  (L_ aR).bind fun ew =>
  if (decide ((ew.length:Int)=(1:Int)))=true then
   (L6 aR).bind fun qH =>
   qd (0≤figure∧figure<(qH.length:Int)) <|
   if (decide ((0:Int)<(ix qH figure)))=true then
    if (decide ((r2.length:Int)=(0:Int)))=true then
     some true
    else
     if (decide ((r2.length:Int)=(2:Int)))=true then
      qd (0≤(0:Int)∧(0:Int)<(r2.length:Int)) <|
      if (decide ((ix r2 (0:Int))=figure))=true then
       some true
      else
       qd (0≤(1:Int)∧(1:Int)<(r2.length:Int)) <|
       some (decide ((ix r2 (1:Int))=figure))
     else
      some false
   else
    some false
  else
   some false
theorem Ie {b:qn} {left:qa} {figure:Int} {v:Bool} (h:K' b left figure=some v):qC 87 [(.agg [(hG b.1),(.ax (b.2.flatMap p6) b.2.length .shared)]),(.ax (left.map hG) left.length .shared),(hG figure)] (B v):=by
 refine qN dD afh rfl rfl fun Q bz=>?_;have lj:qE [.tmp 6] Q (fun v=>(B v)) v:=fun T H bJ=>bz _ T H bJ;unfold K' at h;unfold aat;conv=>whnf
 obtain ⟨aR,eQ,h⟩:=qi h;refine ⟨qm.pl,_,Za eQ,?_⟩;conv=>whnf
 refine bs h (fun fi h=>?_) fun fi h=>?_
 ·rw [fi];conv=>whnf
  exact qj h lj rfl rfl
 ·rw [fi];conv=>whnf
  obtain ⟨r2,qu,h⟩:=qi h;refine ⟨qm.pl,_,Tu qu,?_⟩;conv=>whnf
  obtain ⟨ew,qA,h⟩:=qi h;refine ⟨qm.pl,_,Zp qA,?_⟩;conv=>whnf
  refine bs h (fun qG h=>?_) fun qG h=>?_
  ·rw [qG];(conv=>whnf);obtain ⟨qH,q7,h⟩:=qi h;refine ⟨qm.pl,_,Zd q7,?_⟩;(conv=>whnf);refine qy h id fun qM h=>?_;rw [rA hG qH figure qM];(conv=>whnf);refine bs h (fun qI h=>?_) fun qI h=>?_
   ·rw [qI];(conv=>whnf);refine bs h (fun rh h=>?_) fun rh h=>?_
    ·rw [rh];(conv=>whnf);exact qj h lj rfl rfl
    ·rw [rh];(conv=>whnf);refine bs h (fun qS h=>?_) fun qS h=>?_
     ·rw [qS];(conv=>whnf);refine qy h id fun q8 h=>?_;rw [rA hG r2 (0:Int) q8];(conv=>whnf);refine bs h (fun rr h=>?_) fun rr h=>?_
      ·rw [rr];(conv=>whnf);exact qj h lj rfl rfl
      ·rw [rr];(conv=>whnf);refine qy h id fun ry h=>?_;rw [rA hG r2 (1:Int) ry];(conv=>whnf);exact qj h lj rfl rfl
     ·rw [qS];(conv=>whnf);exact qj h lj rfl rfl
   ·rw [qI];(conv=>whnf);exact qj h lj rfl rfl
  ·rw [qG];(conv=>whnf);exact qj h lj rfl rfl
end Go.Proofs.YtfakoboiahbhaaaGreat.Ab


namespace Go.Proofs.YtfakoboiahbhaaaGreat.Ab
open Go
def Ln (l:Row):Row:=(l.map fun p=>(p.1,1-p.2)).reverse
section
variable {b:qb} {S:List Int}
theorem ahY {p:Int×Int} (h:0≤p.2∧p.2≤1):qX b (p.1,1-p.2)=fin b p∧fin b (p.1,1-p.2)=qX b p:=by
 unfold qX fin;rcases show p.2=0∨p.2=1 by omega with e | e
 ·simp [e]
 ·simp [e]
theorem Xh:∀ (l:Row) (a c:Int),(∀ p∈l,0≤p.2∧p.2≤1)→q1 b a l=some c→q1 b c (Ln l)=some a
 | [],a,c,_,h=>by
   have:a=c:=by simpa [q1] using h
   subst this;rfl
 | p::l,a,c,ad,h=>by
   obtain ⟨cn,cp⟩:=HY.1 h;have a9:=Xh l _ c (fun q bl=>ad q (by simp [bl])) cp;have aw:=ahY (b:=b) (ad p (by simp));unfold Ln at a9 ⊢;rw [List.map_cons,List.reverse_cons,IZ,a9,Option.bind_some];exact LL.2 ⟨aw.1,by rw [aw.2];exact cn⟩
theorem abS (l:Row):((Ln l).map (·.1)).Perm (l.map (·.1)):=by
 unfold Ln;rw [List.map_reverse,List.map_map];exact List.reverse_perm _
theorem SP:∀ (l:Row) (a c:Int),q1 b a l=some c→∀ p∈l,rB b (l.map (·.1)) a (qX b p)∧rB b (l.map (·.1)) a (fin b p)
 | [],_,_,_,p,aD=>by simp at aD
 | q::l,a,c,h,p,aD=>by
   obtain ⟨cn,cp⟩:=HY.1 h;have bl:rB b ((q::l).map (·.1)) a (fin b q):=.one (i:=q.1) (by simp) ((Ja q a).2 (.inl cn)) ((Ja q _).2 (.inr rfl));rcases List.mem_cons.1 aD with rfl | aD
   ·exact ⟨by rw [cn];exact .refl,bl⟩
   ·have a9:=SP l _ c cp p aD;(have hm:∀ x∈l.map (·.1),x∈(q::l).map (·.1):=fun x al=>by simp only [List.map_cons,List.mem_cons];exact .inr al);exact ⟨bl.trans (a9.1.mono hm),bl.trans (a9.2.mono hm)⟩
theorem ag6 {l:Row} {a c:Int} (h:q1 b a l=some c):I7 b (l.map (·.1)):=by
 intro x al y aZ f g aN aK;obtain ⟨p,aD,rfl⟩:=List.mem_map.1 al;obtain ⟨q,bl,rfl⟩:=List.mem_map.1 aZ;have ak:∀ p∈l,∀ f,qW b p.1 f→rB b (l.map (·.1)) a f:=fun p aD f aN=>by
  rcases (Ja p f).1 aN with rfl | rfl
  ·exact (SP l a c h p aD).1
  ·exact (SP l a c h p aD).2
 exact (ak p aD f aN).symm.trans (ak q bl g aK)
theorem I7.perm {S S':List Int} (h:I7 b S) (aD:S.Perm S'):I7 b S':=fun x al y aZ f g aN aK=>(h x (aD.mem_iff.2 al) y (aD.mem_iff.2 aZ) f g aN aK).mono fun z bn=>aD.mem_iff.1 bn
def Ig (b:qb) (S:List Int) (f:Int):Prop:=S=[]∨(I7 b S∧(∃ i∈S,qW b i f)∧(rj b S=[]∨((rj b S).length=2∧f∈rj b S)))
structure G8 (b:qb) (S:List Int) (a c:Int) (l:Row):Prop where
 ok:∀ p∈l,Hc b p
 go:q1 b a l=some c
 all:(l.map (·.1)).Perm S
theorem Mp (p8:qJ b) {p:Int×Int} (aD:Hc b p):(0≤qX b p∧qX b p<b.1)∧0≤fin b p∧fin b p<b.1:=by
 have hm:=Gc.2 ⟨aD.1,aD.2.1⟩;exact ⟨Mz p8 hm ((Ja p _).2 (.inl rfl)),Mz p8 hm ((Ja p _).2 (.inr rfl))⟩
theorem Xi:∀ (l:Row) (a c:Int),l≠[]→q1 b a l=some c→∃ p∈l,fin b p=c
 | [],_,_,h,_=>absurd rfl h
 | [p],a,c,_,h=>⟨p,by simp,(LL.1 h).2⟩
 | p::q::l,a,c,_,h=>by
   obtain ⟨r,aj,e⟩:=Xi (q::l) _ c (by simp) (HY.1 h).2;exact ⟨r,List.mem_cons_of_mem _ aj,e⟩
theorem G8.ends (p8:qJ b) {a c:Int} {l:Row} (h:G8 b S a c l) (aT:l≠[]):(0≤a∧a<b.1)∧(0≤c∧c<b.1)∧(∃ i∈S,qW b i a)∧∃ i∈S,qW b i c:=by
 obtain ⟨p,aD,e⟩:=Xi l a c aT h.go
 match l,aT,h with
 | q::l,_,h =>
   have cd:=(HY.1 h.go).1;have ad:=Mp p8 (h.ok q (by simp));have af:=Mp p8 (h.ok p aD);rw [cd] at ad;rw [e] at af;exact ⟨ad.1,af.2,⟨q.1,h.all.mem_iff.1 (by simp),(Ja q _).2 (.inl cd)⟩,⟨p.1,h.all.mem_iff.1 (List.mem_map_of_mem aD),(Ja p _).2 (.inr e)⟩⟩
theorem G8.odd (p8:qJ b) {a c:Int} {l:Row} (h:G8 b S a c l) (aT:l≠[]):(a=c→rj b S=[])∧(a≠c→(rj b S).Perm [a,c]):=by
 have VO:=fun v=>Ns l a c v h.go;have bU:=p8.f6;obtain ⟨cu,ak,_,_⟩:=h.ends p8 aT;have a2:∀ v,q2 b (l.map (·.1)) v=q2 b S v:=fun v=>N8 h.all v;constructor
 ·rintro rfl;refine List.eq_nil_iff_forall_not_mem.2 fun v ae=>?_;have ad:=(Kw.1 ae).2;have af:=VO v;rw [a2] at af;split at af <;> omega
 ·intro bY;refine (List.perm_ext_iff_of_nodup ((OI S).imp fun h e=>by omega) (by simp [bY])).2 fun v=>?_;have af:=VO v;rw [a2] at af;rw [Kw];simp only [List.mem_cons,List.not_mem_nil,or_false];constructor
  ·rintro ⟨_,ad⟩;by_cases e1:a=v
   ·exact .inl e1.symm
   ·by_cases cd:c=v
    ·exact .inr cd.symm
    ·rw [if_neg e1,if_neg cd] at af;omega
  ·rintro (rfl | rfl)
   ·rw [if_pos rfl,if_neg (Ne.symm bY)] at af;exact ⟨⟨cu.1,by omega⟩,by omega⟩
   ·rw [if_pos rfl,if_neg bY] at af;exact ⟨⟨ak.1,by omega⟩,by omega⟩
theorem G8.back {a c:Int} {l:Row} (h:G8 b S a c l):G8 b S c a (Ln l):=by
 refine ⟨fun p aD=>?_,Xh l a c (fun p aD=>(h.ok p aD).2.2) h.go,(abS l).trans h.all⟩;unfold Ln at aD;obtain ⟨q,bl,rfl⟩:=List.mem_map.1 (List.mem_reverse.1 aD);have:=h.ok q bl;exact ⟨this.1,this.2.1,by simp only;have:=this.2.2;omega,by simp only;have:=this.2.2;omega⟩
theorem G8.agT {a f:Int} {l:Row} (h:G8 b S a a l) (aN:∃ i∈S,qW b i f):∃ l',G8 b S f f l':=by
 obtain ⟨i,hi,kc⟩:=aN;obtain ⟨p,aD,rfl⟩:=List.mem_map.1 (h.all.mem_iff.2 hi);obtain ⟨dA,kq,rfl⟩:=List.append_of_mem aD;have Hz:=h.go;rw [IZ] at Hz;obtain ⟨c,cn,cp⟩:=qi Hz;obtain ⟨ed,il⟩:=HY.1 cp;have mk:∀ {x y:Row} {f:Int},x++y=dA++p::kq→q1 b a x=some f→q1 b f y=some a→G8 b S f f (y++x):=fun {x y f} e ad af=>by
  have HR:(y++x).Perm (dA++p::kq):=by rw [←e];exact List.perm_append_comm
  exact ⟨fun q bl=>h.ok q (HR.mem_iff.1 bl),by rw [IZ,af];exact ad,(HR.map _).trans h.all⟩
 rcases (Ja p f).1 kc with rfl | rfl
 ·exact ⟨_,mk (x:=dA) (y:=p::kq) rfl (by rw [ed];exact cn) (by rw [ed];exact cp)⟩
 ·exact ⟨_,mk (x:=dA++[p]) (y:=kq) (by simp) (by rw [IZ,cn];exact LL.2 ⟨ed,rfl⟩) il⟩
theorem ac9 (p8:qJ b) (cg:rm b S) (aq:S.length≤990) (aT:S≠[]) (bJ:I7 b S):∃ R,TL b S R:=by
 obtain ⟨l,a,ad,af,aH⟩:=round_part p8 cg aq aT bJ;exact ⟨_,Ww p8 cg aT af aH⟩
theorem RowsOf.single {R:List Row} (h:RowsOf b S R) (ad:R.length=1):∃ l a c,R=[l]∧G8 b S a c l:=by
 obtain ⟨l,rfl⟩:=List.length_eq_one_iff.1 ad;obtain ⟨a,c,aK⟩:=h.go l (by simp);exact ⟨l,a,c,rfl,h.ok l (by simp),aK,by simpa using h.all⟩
theorem QR (p8:qJ b) (cg:rm b S) (aq:S.length≤990) {f:Int}:Ig b S f↔∃ l c,G8 b S f c l:=by
 constructor
 ·rintro (rfl | ⟨bJ,aN,ar⟩)
  ·exact ⟨[],f,fun p aD=>absurd aD (by simp),rfl,by simp⟩
  ·(have aT:S≠[]:=fun e=>by obtain ⟨i,hi,_⟩:=aN;rw [e] at hi;simp at hi);obtain ⟨R,lj⟩:=ac9 p8 cg aq aT bJ;have hlen:=lj.len;have ad:R.length=1:=by
    rw [hlen];rcases ar with ar | ar
    ·rw [ar];rfl
    ·rw [ar.1];rfl
   obtain ⟨l,a,c,acZ,bW⟩:=lj.toRowsOf.single ad;have js:l≠[]:=lj.ne l (by rw [acZ];simp);have HQ:=bW.odd p8 js;rcases ar with ar | ⟨af,adt⟩
   ·have:a=c:=Classical.byContradiction fun bY=>by
     have:=(HQ.2 bY).length_eq;rw [ar] at this;simp at this
    subst this;obtain ⟨l',lk⟩:=bW.agT aN;exact ⟨l',f,lk⟩
   ·(have bY:a≠c:=fun e=>by have:=HQ.1 e;rw [this] at af;simp at af);have:=(HQ.2 bY).mem_iff.1 adt;simp only [List.mem_cons,List.not_mem_nil,or_false] at this;rcases this with rfl | rfl
    ·exact ⟨l,c,bW⟩
    ·exact ⟨_,_,bW.back⟩
 ·rintro ⟨l,c,bW⟩;by_cases aT:l=[]
  ·subst aT;left;have:=bW.all.length_eq;simp at this;exact List.length_eq_zero_iff.1 this.symm
  ·right;refine ⟨(ag6 bW.go).perm bW.all,(bW.ends p8 aT).2.2.1,?_⟩;have HQ:=bW.odd p8 aT;by_cases e:f=c
   ·exact .inl (HQ.1 e)
   ·exact .inr ⟨(HQ.2 e).length_eq,(HQ.2 e).mem_iff.2 (by simp)⟩
theorem YJ {s:List Int} {v:Int} (ai:s.length≤1000):∀ (m i:Nat) (z:Int),z=i→i≤s.length→s.length-i<m→KH s v (fun _=>some (-1:Int)) m z=some (posOf (fun x=>decide (v=x)) (s.drop i) i)
 | 0,i,_,_,_,h=>absurd h (by omega)
 | m+1,i,_,rfl,hi,hm=>by
   rw [KH];by_cases h:i<s.length
   ·rw [HT h,Gt h,rn h,List.drop_eq_getElem_cons h,posOf];by_cases aD:v=s[i]
    ·rw [if_pos (decide_eq_true aD),if_pos (decide_eq_true aD)]
    ·rw [if_neg (by simpa using aD),if_neg (by simpa using aD),rq i (by omega),YJ ai m (i+1) _ rfl (by omega) (by omega)]
   ·rw [HS h,List.drop_eq_nil_of_le (by omega)];rfl
theorem aiN {s:List Int} {v:Int} (ai:s.length≤1000):Ny s v=some (decide (v∈s)):=by
 have:=YJ (v:=v) ai p' 0 0 rfl (Nat.zero_le _) (ru (by omega));rw [List.drop_zero] at this;rw [Ny,Pg,this,Option.bind_some,M5];congr 1;rw [Bool.eq_iff_iff];simp
def Kl (b:qb) (f i:Int):Bool:=decide ((ix b.2 i).1=f) || decide ((ix b.2 i).2=f)
theorem ads {f i:Int}:Kl b f i=true↔qW b i f:=by unfold Kl qW;simp
theorem aiG (p8:qJ b) (cg:rm b S) (aP:S.Nodup) (f:Int):∃ r:Bool,KF b S f=some r∧(r=true↔Ig b S f):=by
 have aq:S.length≤b.2.length:=HV aP cg;have dq:=p8.len;have akK:(rj b S).length≤6:=Nat.le_trans (List.length_filter_le _ _) (by rw [r3];omega);have lv:=RG p8 cg;obtain ⟨out,ad,af,_⟩:=Zn (b:=b) (S:=S) p8.len aP cg;rw [KF,Zk p8 cg (by omega),Option.bind_some];by_cases aT:S=[]
 ·rw [if_pos (by simp [aT])];exact ⟨true,rfl,by simp [Ig,aT]⟩
 ·rw [if_neg (by simpa using aT)];have eg:=af.one aT
  have VJ:Js S (fun qR=>LX qR b f)=some (S.any (Kl b f)):=TF (fun x al=>by
   have na:=cg x al;rw [LX,qp na,qp na];unfold Kl
   split <;> simp [*]) (by omega)
  have Oo:S.any (Kl b f)=true↔∃ i∈S,qW b i f:=by
   rw [List.any_eq_true];simp only [ads]
  by_cases aH:2<(rj b S).length
  ·rw [if_pos (by simp;omega)];refine ⟨false,rfl,?_⟩;simp only [Bool.false_eq_true,false_iff];rintro (h | ⟨_,_,h | h⟩)
   ·exact aT h
   ·rw [h] at aH;simp at aH
   ·omega
  ·rw [if_neg (by simp;omega)];by_cases bh:(rj b S).length=2
   ·rw [if_pos (by simp [bh]),aiN (by omega),Option.bind_some];by_cases bM:f∈rj b S
    ·rw [if_pos (decide_eq_true bM),VJ,Option.bind_some];by_cases bU:S.any (Kl b f)=true
     ·rw [if_pos bU,ad,Option.bind_some];refine ⟨_,rfl,?_⟩;rw [decide_eq_true_eq,show ((out.length:Int)=1↔out.length=1) by omega,eg];exact ⟨fun h=>.inr ⟨h,Oo.1 bU,.inr ⟨bh,bM⟩⟩,fun h=>h.elim (fun h=>absurd h aT) fun h=>h.1⟩
     ·rw [if_neg bU];exact ⟨false,rfl,by simp only [Bool.false_eq_true,false_iff];exact fun h=>h.elim aT fun h=>bU (Oo.2 h.2.1)⟩
    ·rw [if_neg (by simpa using bM)];refine ⟨false,rfl,?_⟩;simp only [Bool.false_eq_true,false_iff];rintro (h | ⟨_,_,h | h⟩)
     ·exact aT h
     ·rw [h] at bh;simp at bh
     ·exact bM h.2
   ·have cM:rj b S=[]:=List.length_eq_zero_iff.1 (by omega);rw [if_neg (by simp;omega),VJ,Option.bind_some];by_cases bU:S.any (Kl b f)=true
    ·rw [if_pos bU,ad,Option.bind_some];refine ⟨_,rfl,?_⟩;rw [decide_eq_true_eq,show ((out.length:Int)=1↔out.length=1) by omega,eg];exact ⟨fun h=>.inr ⟨h,Oo.1 bU,.inl cM⟩,fun h=>h.elim (fun h=>absurd h aT) fun h=>h.1⟩
    ·rw [if_neg bU];exact ⟨false,rfl,by simp only [Bool.false_eq_true,false_iff];exact fun h=>h.elim aT fun h=>bU (Oo.2 h.2.1)⟩
theorem aj5 (p8:qJ b) (cg:rm b S) (aP:S.Nodup) {f:Int} (aN:0≤f∧f<b.1):∃ r:Bool,K' b S f=some r∧(r=true↔Ig b S f):=by
 have aq:S.length≤b.2.length:=HV aP cg;have dq:=p8.len;have r_:=Ws p8 cg (by omega);rw [K',Y_ cg (by omega),Option.bind_some];by_cases aT:S=[]
 ·rw [if_pos (by simp [aT])];exact ⟨true,rfl,by simp [Ig,aT]⟩
 ·rw [if_neg (by simpa using aT),Ts r_,Option.bind_some,Wv,Zo r_,Option.bind_some]
  have eg:=(NO r_).2.1.one (fun e=>by
   have:=congrArg List.length e;rw [r3,RH] at this
   exact aT (List.length_eq_zero_iff.1 this))
  rw [RH,afH] at eg;obtain ⟨C,rM,bD⟩:=Zb r_;have ae:=rM.val f aN.1 (by have:(HW b S).1=b.1:=rfl;rw [this];omega);rw [Wu] at ae;have acU:=rM.len;have Kp:0<q2 b S f↔∃ i∈S,qW b i f:=by
   rw [Nat.pos_iff_ne_zero,Ne,Ms];constructor
   ·intro h;exact Classical.byContradiction fun aP=>h fun i hi kc=>aP ⟨i,hi,kc⟩
   ·rintro ⟨i,hi,kc⟩ h;exact h i hi kc
  by_cases ad:(parts (HW b S)).length=1
  ·rw [if_pos (by simp [ad]),bD,Option.bind_some,qp ⟨aN.1,by rw [acU];have:(HW b S).1=b.1:=rfl;rw [this];omega⟩];have bJ:=eg.1 ad;by_cases af:0<q2 b S f
   ·rw [if_pos (by rw [ae];simpa using af)];have Ot:=Kp.1 af;by_cases aH:(rj b S).length=0
    ·rw [if_pos (by simp [aH])];exact ⟨true,rfl,⟨fun _=>.inr ⟨bJ,Ot,.inl (List.length_eq_zero_iff.1 aH)⟩,fun _=>rfl⟩⟩
    ·rw [if_neg (by simp only [decide_eq_true_eq];omega)];by_cases bh:(rj b S).length=2
     ·rw [if_pos (by simp [bh])];obtain ⟨x,y,GD⟩:∃ x y,rj b S=[x,y]:=by
       match rj b S,bh with
       | [x,y],_=>exact ⟨x,y,rfl⟩
      rw [GD,qp (by simp)];show ∃ r:Bool,(if decide (x=f)=true then some true else qd _ (some (decide (y=f))))=some r∧_;by_cases bM:x=f
      ·rw [if_pos (decide_eq_true bM)];exact ⟨true,rfl,⟨fun _=>.inr ⟨bJ,Ot,.inr ⟨bh,by rw [GD];simp [bM]⟩⟩,fun _=>rfl⟩⟩
      ·rw [if_neg (by simpa using bM),qp (by simp)];refine ⟨_,rfl,?_⟩;rw [decide_eq_true_eq];constructor
       ·rintro rfl;exact .inr ⟨bJ,Ot,.inr ⟨bh,by rw [GD];simp⟩⟩
       ·rintro (h | ⟨_,_,h | h⟩)
        ·exact absurd h aT
        ·rw [h] at bh;simp at bh
        ·have:=h.2;rw [GD] at this;simp only [List.mem_cons,List.not_mem_nil,or_false] at this;rcases this with e | e
         ·exact absurd e.symm bM
         ·exact e.symm
     ·rw [if_neg (by simp only [decide_eq_true_eq];omega)];refine ⟨false,rfl,?_⟩;simp only [Bool.false_eq_true,false_iff];rintro (h | ⟨_,_,h | h⟩)
      ·exact aT h
      ·rw [h] at aH;exact aH rfl
      ·exact bh h.1
   ·rw [if_neg (by rw [ae];simpa using af)];refine ⟨false,rfl,?_⟩;simp only [Bool.false_eq_true,false_iff];rintro (h | ⟨_,h,_⟩)
    ·exact aT h
    ·exact af (Kp.2 h)
  ·rw [if_neg (by simp only [decide_eq_true_eq];omega)];refine ⟨false,rfl,?_⟩;simp only [Bool.false_eq_true,false_iff];rintro (h | ⟨h,_⟩)
   ·exact aT h
   ·exact ad (eg.2 h)
end
end Go.Proofs.YtfakoboiahbhaaaGreat.Ab


namespace Go.Proofs.YtfakoboiahbhaaaGreat.Ab
open Go
set_option maxRecDepth 20000
set_option maxHeartbeats 4000000
noncomputable def aas:eM :=
 FY [gO 1 [.hA 0] .box,FM 2 0] (.seq (FY [gO 3 [.sl 1] (.px (.str 2)),gO 4 [.ij (.func 21 [] []),.sl 3] (.call 3),Fm 5 4 0 .neq] (.cond (.sl 5) (FY [gO 6 [.hD 1] (.px (.str 2)),gO 7 [.ij (.func 21 [] []),.sl 6] (.call 3),FO 2 7] .ret) .skip)) (.seq (FY [gO 8 [.sl 1] (.ov 1),FL 9 8,FK 10 9,Fm 11 10 0 .eql] (.cond (.sl 11) (FY [FM 2 5] .ret) .skip)) (.seq (FY [gO 12 [.hD 1] (.px (.str 2)),gO 13 [.ij (.func 84 [] []),.sl 12] (.call 3),Fm 14 13 1 .gtr] (.cond (.sl 14) (FY [FM 2 27] .ret) .skip)) (FY [FM 2 0] .ret))))
theorem afg:yQ Tryz.prog Uy 86=some (aas,15,[.tmp 2]):=by kernel_rfl
def K_ (b:qn):Option Int :=
 (Hq b).bind fun aR =>
 if (decide (aR≠(0:Int)))=true then
  (Hq b).bind fun r2 =>
  some r2
 else
  if (decide ((b.2.length:Int)=(0:Int)))=true then
   some (5:Int)
  else
   (K8 b).bind fun ew =>
   if (decide ((1:Int)<ew))=true then
    some (27:Int)
   else
    some (0:Int)
theorem TC {b:qn} {v:Int} (h:K_ b=some v):qC 86 [(.agg [(hG b.1),(.ax (b.2.flatMap p6) b.2.length .shared)])] (hG v):=by
 refine qN dD afg rfl rfl fun Q bz=>?_;have lj:qE [.tmp 2] Q (fun v=>(hG v)) v:=fun T H bJ=>bz _ T H bJ;unfold K_ at h;unfold aas;conv=>whnf
 obtain ⟨aR,eQ,h⟩:=qi h;refine ⟨qm.pl,_,I1 eQ,?_⟩;conv=>whnf
 refine bs h (fun fi h=>?_) fun fi h=>?_
 ·rw [fi];conv=>whnf
  obtain ⟨r2,qu,h⟩:=qi h;refine ⟨qm.pl,_,I1 qu,?_⟩;conv=>whnf
  exact qj h lj rfl rfl
 ·rw [fi];conv=>whnf
  refine bs h (fun qA h=>?_) fun qA h=>?_
  ·rw [qA];(conv=>whnf);exact qj h lj rfl rfl
  ·rw [qA];(conv=>whnf);obtain ⟨ew,qG,h⟩:=qi h;refine ⟨qm.pl,_,TB qG,?_⟩;(conv=>whnf);refine bs h (fun q7 h=>?_) fun q7 h=>?_
   ·rw [q7];(conv=>whnf);exact qj h lj rfl rfl
   ·rw [q7];(conv=>whnf);exact qj h lj rfl rfl

noncomputable def P4:eM :=
 .loop (some (DX false [0,2,3,2,20])) (.seq (FY [FN 7 6,FN 8 0,FK 9 8,Fo 10 7 9 .lss] (.cond (.sl 10) .skip (.exit 0))) (.seq (.block 1 (FY [FN 13 0,FN 14 6,FH 15 13 14 1,FL 16 15,FN 17 1,Fo 18 16 17 .neq] (.cond (.sl 18) (FR [FO 19 5,FN 20 0,FN 21 6,FH 22 20 21 1,FL 23 22,gO 24 [.hD 23] (.xG 1 1 [.int .i64 0] [0]),gO 25 [.hA 19,.hA 24] (.app 1 8),FO 5 25]) .skip))) (FR [FO 11 6,Fk 12 11 1,FO 6 12])))
noncomputable def aau:eM :=
 FY [gO 4 [.ij (.ax [] 0 .full)] (.nil 1)] (FY [gO 5 [.ij (.ax [] 0 .full)] (.nil 1)] (.seq (FY [FM 6 0] (.block 0 P4)) (FY [FO 26 5,FO 4 26] .ret)))
theorem afi:yQ Tryz.prog Qt 88=some (aau,27,[.tmp 4]):=by kernel_rfl
def J9 (left:qa) (sk:Int) (qh:qa→Option qa):Nat→qa→Int→Option qa
 | 0,_,_=>none
 | m+1,s1,s2 =>
   if (decide (s2<(left.length:Int)))=true then
    qd (0≤s2∧s2<(left.length:Int)) <|
    if (decide ((ix left s2)≠sk))=true then
     qd (0≤s2∧s2<(left.length:Int)) <|
     qd ((s1.length+1)*8≤140737488355328) <|
     J9 left sk qh m (s1++[(ix left s2)]) (w (s2+(1:Int)))
    else
     J9 left sk qh m s1 (w (s2+(1:Int)))
   else
    qh s1
def La (left:qa) (sk:Int):Option qa :=
 J9 left sk (fun xt =>
   some xt) p' ([]:List Int) (0:Int)
theorem aj6 {left:qa} {sk:Int} {qh:qa→Option qa} {s1:qa} {s2:Int} {v:qa} {Q:ra}   (rf:∀ (xt:qa) (p_:List I),qh xt=some v→qV 27 [(5,(qq xt (.uniq 1)))] p_→Q (.exit 0) p_ []) {T:List I} (bW:eL (DX false [0,2,3,2,20]) T=F2 27 [(0,(qq left .shared)),(1,(hG sk)),(5,(qq s1 (.uniq 1))),(6,(hG s2))]) (h:J9 left sk qh p' s1 s2=some v) :
  dB Tryz.prog Qt 88 0 none P4 T [] Q:=by
 unfold P4;refine wp_loop bW ?_;refine .intro (fun m T H=>∃ (s1:qa) (s2:Int),T=F2 27 [(0,(qq left .shared)),(1,(hG sk)),(5,(qq s1 (.uniq 1))),(6,(hG s2))]∧H=[]∧J9 left sk qh m s1 s2=some v) p' ⟨s1,s2,rfl,rfl,h⟩ ?_;clear h bW;rintro m T H ⟨s1,s2,rfl,rfl,h⟩;cases m
 ·exact q3 h
 rename_i m;rw [J9.eq_2] at h;conv=>whnf
 refine bs h (fun eQ h=>?_) fun eQ h=>?_
 ·rw [eQ];conv=>whnf
  refine qy h id fun fi h=>?_;rw [rA hG left s2 fi];conv=>whnf
  refine bs h (fun qu h=>?_) fun qu h=>?_
  ·rw [qu];(conv=>whnf);refine qy h id fun qA h=>?_;rw [rA hG left s2 qA];(conv=>whnf);obtain ⟨qG,h⟩:=qD h;refine ⟨by first | rfl | simp,by have:=qG;omega,rfl,qG,?_⟩
   erw [Ii hG s1 (ix left s2)];(conv=>whnf);exact ⟨m,Nat.lt_succ_self m,(s1++[(ix left s2)]),(w (s2+(1:Int))),rfl,rfl,h⟩
  ·rw [qu];(conv=>whnf);exact ⟨m,Nat.lt_succ_self m,s1,(w (s2+(1:Int))),rfl,rfl,h⟩
 ·rw [eQ];conv=>whnf
  exact rf _ _ h ⟨rfl,rfl⟩
theorem Hh {left:qa} {sk:Int} {v:qa} (h:La left sk=some v):qC 88 [(.ax (left.map hG) left.length .shared),(hG sk)] (.ax (v.map hG) v.length .shared):=by
 refine qN dD afi rfl (rF (fun _=>rfl) _ _ _) fun Q bz=>?_;have lj:qE [.tmp 4] Q (fun v=>(qq v .shared)) v:=fun T H bJ=>bz _ T H bJ;unfold La at h;unfold aau;obtain ⟨Gi,qF⟩:∃ c,P4=c:=⟨_,rfl⟩;rw [qF];conv=>whnf
 subst qF;refine aj6 ?_ (by exact rfl) h;intro xt p_ h qt;obtain ⟨qT,rfl⟩:=qt.ex;conv=>whnf
 exact qj h lj rfl rfl

noncomputable def PK:eM :=
 .loop (some (DX false [1,1,2,2,92])) (.seq (FY [FN 17 5,gO 18 [.sl 1] (.ov 1),FL 19 18,FK 20 19,Fo 21 17 20 .lss] (.cond (.sl 21) .skip (.exit 0))) (.seq (.block 1 (FR [FO 24 4,FN 25 5,gO 26 [.hD 25] (.xG 1 1 [.int .i64 0] [0]),gO 27 [.hA 24,.hA 26] (.app 1 8),FO 4 27])) (FR [FO 22 5,Fk 23 22 1,FO 5 23])))
noncomputable def Iz:eM :=
 .loop (some (DX false [1,1,2,1,1,5,87])) (.seq (FY [FN 37 10,Fm 38 37 2 .lss] (.cond (.sl 38) .skip (.exit 6))) (.seq (.block 7 (FY [FN 41 4,FN 42 9,FH 43 41 42 1,FL 44 43,FN 45 10,gO 46 [.hD 44,.hD 45] (.build [.int .i64 0,.int .i64 0] [(0,1),(1,1)]),gO 11 [] (.alloc [.int .i64 0,.int .i64 0]),⟨none,[.sl 11,.hA 46],none,none,.st 2⟩] (.seq (FT [FN 47 8,FK 48 47,Fm 49 48 0 .eql,FO 50 49,dZ 51 [.sl 7] 50 true .iH,dZ 52 [.hD 51,.ij (.int .i64 0)] 50 true (.bin .lss),dZ 53 [.hA 52] 50 true .iH,dZ 54 [.sl 7] 53 false .iH,dZ 55 [.sl 1] 53 false (.px (.str 2)),dZ 56 [.sl 11] 53 false (.px (.str 2)),⟨some 57,[.ij (.func 57 [] []),.sl 55,.sl 56],some (53,false),none,.call 3⟩,dZ 58 [.hD 54,.hD 57] 53 false (.bin .eql),dZ 59 [.sl 53,.ij (.bool true),.hD 58] 50 true .pick,gO 60 [.sl 50,.hD 59,.ij (.bool false)] .pick,FO 61 60,dZ 62 [.sl 1] 61 true (.px (.str 2)),dZ 63 [.sl 4] 61 true .iH,dZ 64 [.sl 11] 61 true (.ov 0),dZ 65 [.hD 64] 61 true (.px .one),⟨some 66,[.ij (.func 88 [] []),.sl 63,.sl 65],some (61,true),none,.call 3⟩,dZ 67 [.sl 1] 61 true (.px (.str 2)),dZ 68 [.sl 11] 61 true (.px (.str 2)),⟨some 69,[.ij (.func 70 [] []),.sl 67,.sl 68],some (61,true),none,.call 3⟩,⟨some 70,[.ij (.func 87 [] []),.sl 62,.sl 66,.sl 69],some (61,true),none,.call 3⟩,gO 71 [.sl 61,.hD 70,.ij (.bool false)] .pick]) (.cond (.sl 71) (FR [FO 72 8,gO 73 [.hD 11] (.px (.str 2)),gO 74 [.hD 73] (.xG 1 2 [.int .i64 0,.int .i64 0] [0]),gO 75 [.hA 72,.hA 74] (.app 2 16),FO 8 75]) .skip)))) (FR [FO 39 10,Fk 40 39 1,FO 10 40])))
noncomputable def Mb:eM :=
 .loop (some (DX false [1,1,2,1,1,4,88])) (.seq (FY [FN 31 9,FN 32 4,FK 33 32,Fo 34 31 33 .lss] (.cond (.sl 34) .skip (.exit 4))) (.seq (.block 5 (FY [FM 10 0] (.block 6 Iz))) (FR [FO 35 9,Fk 36 35 1,FO 9 36])))
noncomputable def PL:eM :=
 .loop (some (DX false [1,1,2,1,1,2,90])) (.seq (FY [FN 28 4,FK 29 28,Fm 30 29 0 .gtr] (.cond (.sl 30) .skip (.exit 2))) (.block 3 (FY [gO 8 [.ij (.ax [] 0 .full)] (.nil 2)] (.seq (FY [FM 9 0] (.block 4 Mb)) (.seq (FY [FN 76 8,FK 77 76,Fm 78 77 0 .eql] (.cond (.sl 78) (FY [FO 79 6,FO 2 79,FM 3 0] .ret) .skip)) (FT [FO 80 6,FN 81 8,gO 82 [.hD 81,.ij (.int .i64 0)] (.pq 2),gO 83 [.hD 82] (.px (.str 2)),gO 84 [.hD 83] (.xG 1 2 [.int .i64 0,.int .i64 0] [0]),gO 85 [.hA 80,.hA 84] (.app 2 16),FO 86 4,FN 87 8,gO 88 [.hD 87,.ij (.int .i64 0)] (.pq 2),Fu 89 88 0,FL 90 89,gO 91 [.ij (.func 88 [] []),.sl 86,.sl 90] (.call 3),gO 92 [.sl 1] (.px (.str 2)),FN 93 8,gO 94 [.hD 93,.ij (.int .i64 0)] (.pq 2),gO 95 [.hD 94] (.px (.str 2)),gO 96 [.ij (.func 70 [] []),.sl 92,.sl 95] (.call 3),FO 6 85,FO 4 91,FO 7 96]))))))
noncomputable def Z2:eM :=
 FY [gO 1 [.hA 0] .box,gO 2 [.ij (.ax [] 0 .full)] (.nil 2),FM 3 0] (.seq (FY [gO 12 [.sl 1] (.px (.str 2)),gO 13 [.ij (.func 86 [] []),.sl 12] (.call 3),Fm 14 13 0 .neq] (.cond (.sl 14) (FY [gO 15 [.hD 1] (.px (.str 2)),gO 16 [.ij (.func 86 [] []),.sl 15] (.call 3),gO 2 [.ij (.ax [] 0 .full)] (.nil 2),FO 3 16] .ret) .skip)) (FY [gO 4 [.ij (.ax [] 0 .full)] (.nil 1)] (.seq (FY [FM 5 0] (.block 0 PK)) (FY [gO 6 [.ij (.ax [] 0 .full)] (.nil 2)] (FY [FM 7 (-1)] (.seq (.block 2 PL) (FY [FO 97 6,FO 2 97,FM 3 0] .ret)))))))
theorem aeR:yQ Tryz.prog IF 38=some (Z2,98,[.tmp 2,.tmp 3]):=by kernel_rfl
def KV (b:qn) (qh:qa→Option (qe×Int)):Nat→qa→Int→Option (qe×Int)
 | 0,_,_=>none
 | m+1,s1,s2 =>
   if (decide (s2<(b.2.length:Int)))=true then
    qd ((s1.length+1)*8≤140737488355328) <|
    KV b qh m (s1++[s2]) (w (s2+(1:Int)))
   else
    qh s1
def Gr (b:qn) (nL:qa) (qc ql:Int) (Gf:qe→Option (qe×Int)):Nat→qe→Int→Option (qe×Int)
 | 0,_,_=>none
 | m+1,qx,qg =>
   if (decide (qg<(2:Int)))=true then
    qd (0≤ql∧ql<(nL.length:Int)) <|
    if (decide ((qx.length:Int)=(0:Int)))=true then
     if (decide (qc<(0:Int)))=true then
      (La nL (ix nL ql)).bind fun ew =>
      (Jq b ((ix nL ql),qg)).bind fun qH =>
      (K' b ew qH).bind fun q6 =>
      if q6=true then
       qd ((qx.length+1)*16≤140737488355328) <|
       Gr b nL qc ql Gf m (qx++[((ix nL ql),qg)]) (w (qg+(1:Int)))
      else
       Gr b nL qc ql Gf m qx (w (qg+(1:Int)))
     else
      (K1 b ((ix nL ql),qg)).bind fun Gp =>
      if (decide (qc=Gp))=true then
       (La nL (ix nL ql)).bind fun GF =>
       (Jq b ((ix nL ql),qg)).bind fun Hd =>
       (K' b GF Hd).bind fun sa =>
       if sa=true then
        qd ((qx.length+1)*16≤140737488355328) <|
        Gr b nL qc ql Gf m (qx++[((ix nL ql),qg)]) (w (qg+(1:Int)))
       else
        Gr b nL qc ql Gf m qx (w (qg+(1:Int)))
      else
       Gr b nL qc ql Gf m qx (w (qg+(1:Int)))
    else
     Gr b nL qc ql Gf m qx (w (qg+(1:Int)))
   else
    Gf qx
def I2 (b:qn) (nL:qa) (qc:Int) (q5:qe→Option (qe×Int)):Nat→qe→Int→Option (qe×Int)
 | 0,_,_=>none
 | m+1,qw,ql =>
   if (decide (ql<(nL.length:Int)))=true then
    Gr b nL qc ql (fun n0 =>
      I2 b nL qc q5 m n0 (w (ql+(1:Int)))) p' qw (0:Int)
   else
    q5 qw
def KW (b:qn) (qK:qe→Option (qe×Int)):Nat→qa→qe→Int→Option (qe×Int)
 | 0,_,_,_=>none
 | m+1,nL,qk,qc =>
   if (decide ((0:Int)<(nL.length:Int)))=true then
    I2 b nL qc (fun n0 =>
      if (decide ((n0.length:Int)=(0:Int)))=true then
       some (qk,(0:Int))
      else
       qd (0≤(0:Int)∧(0:Int)<(n0.length:Int)) <|
       qd ((qk.length+1)*16≤140737488355328) <|
       qd (0≤(0:Int)∧(0:Int)<(n0.length:Int)) <|
       (La nL ((ix n0 (0:Int)).1)).bind fun sm =>
       qd (0≤(0:Int)∧(0:Int)<(n0.length:Int)) <|
       (Jq b (ix n0 (0:Int))).bind fun HB =>
       KW b qK m sm (qk++[(ix n0 (0:Int))]) HB) p' ([]:List (Int×Int)) (0:Int)
   else
    qK qk
def NF (b:qn):Option (qe×Int) :=
 (K_ b).bind fun aR =>
 if (decide (aR≠(0:Int)))=true then
  (K_ b).bind fun r2 =>
  some ([],r2)
 else
  KV b (fun xt =>
    KW b (fun Fh =>
      some (Fh,(0:Int))) p' xt ([]:List (Int×Int)) (-1:Int)) p' ([]:List Int) (0:Int)
theorem aje {b:qn} {qh:qa→Option (qe×Int)} {s1:qa} {s2:Int} {v:(qe×Int)} {Q:ra}   (rf:∀ (xt:qa) (p_:List I),qh xt=some v→qV 98 [(1,(.ptr 0 0)),(4,(qq xt (.uniq 1)))] p_→Q (.exit 0) p_ [qv b]) {T:List I} (bW:eL (DX false [1,1,2,2,92]) T=F2 98 [(1,(.ptr 0 0)),(4,(qq s1 (.uniq 1))),(5,(hG s2))]) (h:KV b qh p' s1 s2=some v) :
  dB Tryz.prog IF 38 0 none PK T [qv b] Q:=by
 unfold PK;refine wp_loop bW ?_;refine .intro (fun m T H=>∃ (s1:qa) (s2:Int),T=F2 98 [(1,(.ptr 0 0)),(4,(qq s1 (.uniq 1))),(5,(hG s2))]∧H=[qv b]∧KV b qh m s1 s2=some v) p' ⟨s1,s2,rfl,rfl,h⟩ ?_;clear h bW;rintro m T H ⟨s1,s2,rfl,rfl,h⟩;cases m
 ·exact q3 h
 rename_i m;rw [KV.eq_2] at h;conv=>whnf
 refine bs h (fun qA h=>?_) fun qA h=>?_
 ·rw [qA];conv=>whnf
  obtain ⟨qG,h⟩:=qD h;refine ⟨by first | rfl | simp,by have:=qG;omega,rfl,qG,?_⟩
  erw [Ii hG s1 s2];conv=>whnf
  exact ⟨m,Nat.lt_succ_self m,(s1++[s2]),(w (s2+(1:Int))),rfl,rfl,h⟩
 ·rw [qA];conv=>whnf
  exact rf _ _ h ⟨rfl,rfl⟩
theorem ajj {b:qn} {nL:qa} {qc:Int} {ql:Int} {Gf:qe→Option (qe×Int)} {qx:qe} {qg:Int} {qk:qe} {v:(qe×Int)} {Q:ra}  {GY:List au} {rS:h9} (Kn:∀ (n0:qe) (qO:List au) (p_:List I),Gf n0=some v→qV 98 [(1,(.ptr 0 0)),(4,(qq nL (.own 1))),(6,(qf qk (.uniq 2))),(7,(hG qc)),(8,(qf n0 (.uniq 2))),(9,(hG ql))] p_→Q (.exit 6) p_ (qv b::qO)) (Ro:∀ (n0:qe) (qO:List au) (p_:List I),Gf n0=some v→qV 98 [(1,(.ptr 0 0)),(4,(qq nL (.own 1))),(6,(qf qk (.uniq 2))),(7,(hG qc)),(8,(qf n0 (.own 2))),(9,(hG ql))] p_→Q (.exit 6) p_ (qv b::qO)) (Hm:(rS=(.uniq 2)∨rS=(.own 2))) {T:List I} (bW:eL (DX false [1,1,2,1,1,5,87]) T=F2 98 [(1,(.ptr 0 0)),(4,(qq nL (.own 1))),(6,(qf qk (.uniq 2))),(7,(hG qc)),(8,(.ax (qx.flatMap p6) qx.length rS)),(9,(hG ql)),(10,(hG qg))]) (h:Gr b nL qc ql Gf p' qx qg=some v) :
  dB Tryz.prog IF 38 0 none Iz T (qv b::GY) Q:=by
 unfold Iz;refine wp_loop bW ?_;refine .intro (fun m T H=>∃ (qx:qe) (qg:Int) (Ih:List au) (rS:h9),(rS=(.uniq 2)∨rS=(.own 2))∧T=F2 98 [(1,(.ptr 0 0)),(4,(qq nL (.own 1))),(6,(qf qk (.uniq 2))),(7,(hG qc)),(8,(.ax (qx.flatMap p6) qx.length rS)),(9,(hG ql)),(10,(hG qg))]∧H=(qv b::Ih)∧Gr b nL qc ql Gf m qx qg=some v) p' ⟨qx,qg,GY,_,Hm,rfl,rfl,h⟩ ?_;clear h bW;rintro m T H ⟨qx,qg,Ih,rS,Hm,rfl,rfl,h⟩;cases m
 ·exact q3 h
 rename_i m;rw [Gr.eq_2] at h;rcases Hm with rfl | rfl
 ·conv=>whnf
  refine bs h (fun qI h=>?_) fun qI h=>?_
  ·rw [qI];(conv=>whnf);refine qy h id fun rh h=>?_;rw [rA hG nL ql rh];(conv=>whnf);refine Dj (x:=au.cells [(hG (0:Int)),(hG (0:Int))]) (by first | exact qs.h | rfl | (simp [List.getElem?_append,I.settle];done)) ?_
   (conv=>whnf);rw [rK];refine bs h (fun qS h=>?_) fun qS h=>?_
   ·rw [qS];(conv=>whnf);refine bs h (fun q8 h=>?_) fun q8 h=>?_
    ·rw [q8];(conv=>whnf);refine Dj (x:=au.cells [(hG (ix nL ql)),(hG qg)]) (by first | exact qs.h | rfl | (simp [List.getElem?_append,I.settle];done)) ?_
     (conv=>whnf);obtain ⟨ew,rr,h⟩:=qi h;refine ⟨qm.pl,_,Hh rr,F7,?_⟩;(conv=>whnf);refine Dj (x:=au.cells [(hG (ix nL ql)),(hG qg)]) (by first | exact qs.h | rfl | (simp [List.getElem?_append,I.settle];done)) ?_
     (conv=>whnf);obtain ⟨qH,ry,h⟩:=qi h;refine ⟨qm.pl,_,GU ry,rH rfl,?_⟩;(conv=>whnf);obtain ⟨q6,r1,h⟩:=qi h;refine ⟨qm.pl,_,Ie r1,rH rfl,?_⟩;(conv=>whnf);cases q6
     ·(conv=>whnf);replace h:=r5 rfl h;exact ⟨m,Nat.lt_succ_self m,qx,(w (qg+(1:Int))),_,_,(.inr rfl),rfl,rfl,h⟩
     ·(conv=>whnf);replace h:=r4 rfl h;refine Dj (x:=au.cells [(hG (ix nL ql)),(hG qg)]) (by first | exact qs.h | rfl | (simp [List.getElem?_append,I.settle];done)) ?_
      (conv=>whnf);obtain ⟨se,h⟩:=qD h;refine ⟨by first | rfl | (simp;done) | exact r9 p6 _ qz _,by have:=se;omega,rfl,se,?_⟩
      erw [F_ p6 qx ((ix nL ql),qg)];(conv=>whnf);exact ⟨m,Nat.lt_succ_self m,(qx++[((ix nL ql),qg)]),(w (qg+(1:Int))),_,_,(.inr rfl),rfl,rfl,h⟩
    ·rw [q8];(conv=>whnf);refine Dj (x:=au.cells [(hG (ix nL ql)),(hG qg)]) (by first | exact qs.h | rfl | (simp [List.getElem?_append,I.settle];done)) ?_
     (conv=>whnf);obtain ⟨Gp,r8,h⟩:=qi h;refine ⟨qm.pl,_,JZ r8,F7,?_⟩;(conv=>whnf);refine bs h (fun rI h=>?_) fun rI h=>?_
     ·rw [rI];(conv=>whnf);refine Dj (x:=au.cells [(hG (ix nL ql)),(hG qg)]) (by first | exact qs.h | rfl | (simp [List.getElem?_append,I.settle];done)) ?_
      (conv=>whnf);obtain ⟨GF,rZ,h⟩:=qi h;refine ⟨qm.pl,_,Hh rZ,rH rfl,?_⟩;(conv=>whnf);refine Dj (x:=au.cells [(hG (ix nL ql)),(hG qg)]) (by first | exact qs.h | rfl | (simp [List.getElem?_append,I.settle];done)) ?_
      (conv=>whnf);obtain ⟨Hd,r0,h⟩:=qi h;refine ⟨qm.pl,_,GU r0,rH rfl,?_⟩;(conv=>whnf);obtain ⟨sa,si,h⟩:=qi h;refine ⟨qm.pl,_,Ie si,rH rfl,?_⟩;(conv=>whnf);cases sa
      ·(conv=>whnf);replace h:=r5 rfl h;exact ⟨m,Nat.lt_succ_self m,qx,(w (qg+(1:Int))),_,_,(.inr rfl),rfl,rfl,h⟩
      ·(conv=>whnf);replace h:=r4 rfl h;refine Dj (x:=au.cells [(hG (ix nL ql)),(hG qg)]) (by first | exact qs.h | rfl | (simp [List.getElem?_append,I.settle];done)) ?_
       (conv=>whnf);obtain ⟨sj,h⟩:=qD h;refine ⟨by first | rfl | (simp;done) | exact r9 p6 _ qz _,by have:=sj;omega,rfl,sj,?_⟩
       erw [F_ p6 qx ((ix nL ql),qg)];(conv=>whnf);exact ⟨m,Nat.lt_succ_self m,(qx++[((ix nL ql),qg)]),(w (qg+(1:Int))),_,_,(.inr rfl),rfl,rfl,h⟩
     ·rw [rI];(conv=>whnf);exact ⟨m,Nat.lt_succ_self m,qx,(w (qg+(1:Int))),_,_,(.inr rfl),rfl,rfl,h⟩
   ·rw [qS];(conv=>whnf);exact ⟨m,Nat.lt_succ_self m,qx,(w (qg+(1:Int))),_,_,(.inr rfl),rfl,rfl,h⟩
  ·rw [qI];(conv=>whnf);exact Kn _ _ _ h ⟨rfl,rfl⟩
 ·conv=>whnf
  refine bs h (fun qI h=>?_) fun qI h=>?_
  ·rw [qI];(conv=>whnf);refine qy h id fun rh h=>?_;rw [rA hG nL ql rh];(conv=>whnf);refine Dj (x:=au.cells [(hG (0:Int)),(hG (0:Int))]) (by first | exact qs.h | rfl | (simp [List.getElem?_append,I.settle];done)) ?_
   (conv=>whnf);rw [rK];refine bs h (fun qS h=>?_) fun qS h=>?_
   ·rw [qS];(conv=>whnf);refine bs h (fun q8 h=>?_) fun q8 h=>?_
    ·rw [q8];(conv=>whnf);refine Dj (x:=au.cells [(hG (ix nL ql)),(hG qg)]) (by first | exact qs.h | rfl | (simp [List.getElem?_append,I.settle];done)) ?_
     (conv=>whnf);obtain ⟨ew,rr,h⟩:=qi h;refine ⟨qm.pl,_,Hh rr,F7,?_⟩;(conv=>whnf);refine Dj (x:=au.cells [(hG (ix nL ql)),(hG qg)]) (by first | exact qs.h | rfl | (simp [List.getElem?_append,I.settle];done)) ?_
     (conv=>whnf);obtain ⟨qH,ry,h⟩:=qi h;refine ⟨qm.pl,_,GU ry,rH rfl,?_⟩;(conv=>whnf);obtain ⟨q6,r1,h⟩:=qi h;refine ⟨qm.pl,_,Ie r1,rH rfl,?_⟩;(conv=>whnf);cases q6
     ·(conv=>whnf);replace h:=r5 rfl h;exact ⟨m,Nat.lt_succ_self m,qx,(w (qg+(1:Int))),_,_,(.inr rfl),rfl,rfl,h⟩
     ·(conv=>whnf);replace h:=r4 rfl h;refine Dj (x:=au.cells [(hG (ix nL ql)),(hG qg)]) (by first | exact qs.h | rfl | (simp [List.getElem?_append,I.settle];done)) ?_
      (conv=>whnf);obtain ⟨se,h⟩:=qD h;refine ⟨by first | rfl | (simp;done) | exact r9 p6 _ qz _,by have:=se;omega,rfl,se,?_⟩
      erw [F_ p6 qx ((ix nL ql),qg)];(conv=>whnf);exact ⟨m,Nat.lt_succ_self m,(qx++[((ix nL ql),qg)]),(w (qg+(1:Int))),_,_,(.inr rfl),rfl,rfl,h⟩
    ·rw [q8];(conv=>whnf);refine Dj (x:=au.cells [(hG (ix nL ql)),(hG qg)]) (by first | exact qs.h | rfl | (simp [List.getElem?_append,I.settle];done)) ?_
     (conv=>whnf);obtain ⟨Gp,r8,h⟩:=qi h;refine ⟨qm.pl,_,JZ r8,F7,?_⟩;(conv=>whnf);refine bs h (fun rI h=>?_) fun rI h=>?_
     ·rw [rI];(conv=>whnf);refine Dj (x:=au.cells [(hG (ix nL ql)),(hG qg)]) (by first | exact qs.h | rfl | (simp [List.getElem?_append,I.settle];done)) ?_
      (conv=>whnf);obtain ⟨GF,rZ,h⟩:=qi h;refine ⟨qm.pl,_,Hh rZ,rH rfl,?_⟩;(conv=>whnf);refine Dj (x:=au.cells [(hG (ix nL ql)),(hG qg)]) (by first | exact qs.h | rfl | (simp [List.getElem?_append,I.settle];done)) ?_
      (conv=>whnf);obtain ⟨Hd,r0,h⟩:=qi h;refine ⟨qm.pl,_,GU r0,rH rfl,?_⟩;(conv=>whnf);obtain ⟨sa,si,h⟩:=qi h;refine ⟨qm.pl,_,Ie si,rH rfl,?_⟩;(conv=>whnf);cases sa
      ·(conv=>whnf);replace h:=r5 rfl h;exact ⟨m,Nat.lt_succ_self m,qx,(w (qg+(1:Int))),_,_,(.inr rfl),rfl,rfl,h⟩
      ·(conv=>whnf);replace h:=r4 rfl h;refine Dj (x:=au.cells [(hG (ix nL ql)),(hG qg)]) (by first | exact qs.h | rfl | (simp [List.getElem?_append,I.settle];done)) ?_
       (conv=>whnf);obtain ⟨sj,h⟩:=qD h;refine ⟨by first | rfl | (simp;done) | exact r9 p6 _ qz _,by have:=sj;omega,rfl,sj,?_⟩
       erw [F_ p6 qx ((ix nL ql),qg)];(conv=>whnf);exact ⟨m,Nat.lt_succ_self m,(qx++[((ix nL ql),qg)]),(w (qg+(1:Int))),_,_,(.inr rfl),rfl,rfl,h⟩
     ·rw [rI];(conv=>whnf);exact ⟨m,Nat.lt_succ_self m,qx,(w (qg+(1:Int))),_,_,(.inr rfl),rfl,rfl,h⟩
   ·rw [qS];(conv=>whnf);exact ⟨m,Nat.lt_succ_self m,qx,(w (qg+(1:Int))),_,_,(.inr rfl),rfl,rfl,h⟩
  ·rw [qI];(conv=>whnf);exact Ro _ _ _ h ⟨rfl,rfl⟩
theorem ajm {b:qn} {nL:qa} {qc:Int} {ql:Int} {Gf:qe→Option (qe×Int)} {qx:qe} {qg:Int} {qk:qe} {v:(qe×Int)} {Q:ra}  {GY:List au} (Kn:∀ (n0:qe) (qO:List au) (p_:List I),Gf n0=some v→qV 98 [(1,(.ptr 0 0)),(4,(qq nL (.own 1))),(6,(qf qk (.uniq 2))),(7,(hG qc)),(8,(qf n0 (.own 2))),(9,(hG ql))] p_→Q (.exit 6) p_ (qv b::qO)) {T:List I} (bW:eL (DX false [1,1,2,1,1,5,87]) T=F2 98 [(1,(.ptr 0 0)),(4,(qq nL (.own 1))),(6,(qf qk (.uniq 2))),(7,(hG qc)),(8,(qf qx (.own 2))),(9,(hG ql)),(10,(hG qg))]) (h:Gr b nL qc ql Gf p' qx qg=some v) :
  dB Tryz.prog IF 38 0 none Iz T (qv b::GY) Q:=by
 unfold Iz;refine wp_loop bW ?_;refine .intro (fun m T H=>∃ (qx:qe) (qg:Int) (Ih:List au),T=F2 98 [(1,(.ptr 0 0)),(4,(qq nL (.own 1))),(6,(qf qk (.uniq 2))),(7,(hG qc)),(8,(qf qx (.own 2))),(9,(hG ql)),(10,(hG qg))]∧H=(qv b::Ih)∧Gr b nL qc ql Gf m qx qg=some v) p' ⟨qx,qg,GY,rfl,rfl,h⟩ ?_;clear h bW;rintro m T H ⟨qx,qg,Ih,rfl,rfl,h⟩;cases m
 ·exact q3 h
 rename_i m;rw [Gr.eq_2] at h;conv=>whnf
 refine bs h (fun qI h=>?_) fun qI h=>?_
 ·rw [qI];conv=>whnf
  refine qy h id fun rh h=>?_;rw [rA hG nL ql rh];conv=>whnf
  refine Dj (x:=au.cells [(hG (0:Int)),(hG (0:Int))]) (by first | exact qs.h | rfl | (simp [List.getElem?_append,I.settle];done)) ?_
  conv=>whnf
  rw [rK];refine bs h (fun qS h=>?_) fun qS h=>?_
  ·rw [qS];(conv=>whnf);refine bs h (fun q8 h=>?_) fun q8 h=>?_
   ·rw [q8];(conv=>whnf);refine Dj (x:=au.cells [(hG (ix nL ql)),(hG qg)]) (by first | exact qs.h | rfl | (simp [List.getElem?_append,I.settle];done)) ?_
    (conv=>whnf);obtain ⟨ew,rr,h⟩:=qi h;refine ⟨qm.pl,_,Hh rr,F7,?_⟩;(conv=>whnf);refine Dj (x:=au.cells [(hG (ix nL ql)),(hG qg)]) (by first | exact qs.h | rfl | (simp [List.getElem?_append,I.settle];done)) ?_
    (conv=>whnf);obtain ⟨qH,ry,h⟩:=qi h;refine ⟨qm.pl,_,GU ry,rH rfl,?_⟩;(conv=>whnf);obtain ⟨q6,r1,h⟩:=qi h;refine ⟨qm.pl,_,Ie r1,rH rfl,?_⟩;(conv=>whnf);cases q6
    ·(conv=>whnf);replace h:=r5 rfl h;exact ⟨m,Nat.lt_succ_self m,qx,(w (qg+(1:Int))),_,rfl,rfl,h⟩
    ·(conv=>whnf);replace h:=r4 rfl h;refine Dj (x:=au.cells [(hG (ix nL ql)),(hG qg)]) (by first | exact qs.h | rfl | (simp [List.getElem?_append,I.settle];done)) ?_
     (conv=>whnf);obtain ⟨se,h⟩:=qD h;refine ⟨by first | rfl | (simp;done) | exact r9 p6 _ qz _,by have:=se;omega,rfl,se,?_⟩
     erw [F_ p6 qx ((ix nL ql),qg)];(conv=>whnf);exact ⟨m,Nat.lt_succ_self m,(qx++[((ix nL ql),qg)]),(w (qg+(1:Int))),_,rfl,rfl,h⟩
   ·rw [q8];(conv=>whnf);refine Dj (x:=au.cells [(hG (ix nL ql)),(hG qg)]) (by first | exact qs.h | rfl | (simp [List.getElem?_append,I.settle];done)) ?_
    (conv=>whnf);obtain ⟨Gp,r8,h⟩:=qi h;refine ⟨qm.pl,_,JZ r8,F7,?_⟩;(conv=>whnf);refine bs h (fun rI h=>?_) fun rI h=>?_
    ·rw [rI];(conv=>whnf);refine Dj (x:=au.cells [(hG (ix nL ql)),(hG qg)]) (by first | exact qs.h | rfl | (simp [List.getElem?_append,I.settle];done)) ?_
     (conv=>whnf);obtain ⟨GF,rZ,h⟩:=qi h;refine ⟨qm.pl,_,Hh rZ,rH rfl,?_⟩;(conv=>whnf);refine Dj (x:=au.cells [(hG (ix nL ql)),(hG qg)]) (by first | exact qs.h | rfl | (simp [List.getElem?_append,I.settle];done)) ?_
     (conv=>whnf);obtain ⟨Hd,r0,h⟩:=qi h;refine ⟨qm.pl,_,GU r0,rH rfl,?_⟩;(conv=>whnf);obtain ⟨sa,si,h⟩:=qi h;refine ⟨qm.pl,_,Ie si,rH rfl,?_⟩;(conv=>whnf);cases sa
     ·(conv=>whnf);replace h:=r5 rfl h;exact ⟨m,Nat.lt_succ_self m,qx,(w (qg+(1:Int))),_,rfl,rfl,h⟩
     ·(conv=>whnf);replace h:=r4 rfl h;refine Dj (x:=au.cells [(hG (ix nL ql)),(hG qg)]) (by first | exact qs.h | rfl | (simp [List.getElem?_append,I.settle];done)) ?_
      (conv=>whnf);obtain ⟨sj,h⟩:=qD h;refine ⟨by first | rfl | (simp;done) | exact r9 p6 _ qz _,by have:=sj;omega,rfl,sj,?_⟩
      erw [F_ p6 qx ((ix nL ql),qg)];(conv=>whnf);exact ⟨m,Nat.lt_succ_self m,(qx++[((ix nL ql),qg)]),(w (qg+(1:Int))),_,rfl,rfl,h⟩
    ·rw [rI];(conv=>whnf);exact ⟨m,Nat.lt_succ_self m,qx,(w (qg+(1:Int))),_,rfl,rfl,h⟩
  ·rw [qS];(conv=>whnf);exact ⟨m,Nat.lt_succ_self m,qx,(w (qg+(1:Int))),_,rfl,rfl,h⟩
 ·rw [qI];conv=>whnf
  exact Kn _ _ _ h ⟨rfl,rfl⟩
theorem ajg {b:qn} {nL:qa} {qc:Int} {q5:qe→Option (qe×Int)} {qw:qe} {ql:Int} {qk:qe} {v:(qe×Int)} {Q:ra}  {Jx:List au} {rS:h9} (Hn:∀ (n0:qe) (qO:List au) (p_:List I),q5 n0=some v→qV 98 [(1,(.ptr 0 0)),(4,(qq nL (.own 1))),(6,(qf qk (.uniq 2))),(8,(qf n0 (.uniq 2)))] p_→Q (.exit 4) p_ (qv b::qO)) (MP:∀ (n0:qe) (qO:List au) (p_:List I),q5 n0=some v→qV 98 [(1,(.ptr 0 0)),(4,(qq nL (.own 1))),(6,(qf qk (.uniq 2))),(8,(qf n0 (.own 2)))] p_→Q (.exit 4) p_ (qv b::qO)) (Hm:(rS=(.uniq 2)∨rS=(.own 2))) {T:List I} (bW:eL (DX false [1,1,2,1,1,4,88]) T=F2 98 [(1,(.ptr 0 0)),(4,(qq nL (.own 1))),(6,(qf qk (.uniq 2))),(7,(hG qc)),(8,(.ax (qw.flatMap p6) qw.length rS)),(9,(hG ql))]) (h:I2 b nL qc q5 p' qw ql=some v) :
  dB Tryz.prog IF 38 0 none Mb T (qv b::Jx) Q:=by
 unfold Mb;obtain ⟨IG,rR⟩:∃ c,Iz=c:=⟨_,rfl⟩;rw [rR];refine wp_loop bW ?_;refine .intro (fun m T H=>∃ (qw:qe) (ql:Int) (GY:List au) (rS:h9),(rS=(.uniq 2)∨rS=(.own 2))∧T=F2 98 [(1,(.ptr 0 0)),(4,(qq nL (.own 1))),(6,(qf qk (.uniq 2))),(7,(hG qc)),(8,(.ax (qw.flatMap p6) qw.length rS)),(9,(hG ql))]∧H=(qv b::GY)∧I2 b nL qc q5 m qw ql=some v) p' ⟨qw,ql,Jx,_,Hm,rfl,rfl,h⟩ ?_;clear h bW;rintro m T H ⟨qw,ql,GY,rS,Hm,rfl,rfl,h⟩;cases m
 ·exact q3 h
 rename_i m;rw [I2.eq_2] at h;rcases Hm with rfl | rfl
 ·conv=>whnf
  refine bs h (fun qM h=>?_) fun qM h=>?_
  ·rw [qM];(conv=>whnf);subst rR;refine ajj ?_ ?_ (.inl rfl) (by exact rfl) h
   ·intro n0 qO p_ h qt;obtain ⟨qT,rfl⟩:=qt.ex;(conv=>whnf);exact ⟨m,Nat.lt_succ_self m,n0,(w (ql+(1:Int))),_,_,(.inl rfl),rfl,rfl,h⟩
   ·intro n0 qO p_ h qt;obtain ⟨qT,rfl⟩:=qt.ex;(conv=>whnf);exact ⟨m,Nat.lt_succ_self m,n0,(w (ql+(1:Int))),_,_,(.inr rfl),rfl,rfl,h⟩
  ·rw [qM];(conv=>whnf);exact Hn _ _ _ h ⟨rfl,rfl⟩
 ·conv=>whnf
  refine bs h (fun qM h=>?_) fun qM h=>?_
  ·rw [qM];(conv=>whnf);subst rR;refine ajm ?_ (by exact rfl) h;intro n0 qO p_ h qt;obtain ⟨qT,rfl⟩:=qt.ex;(conv=>whnf);exact ⟨m,Nat.lt_succ_self m,n0,(w (ql+(1:Int))),_,_,(.inr rfl),rfl,rfl,h⟩
  ·rw [qM];(conv=>whnf);exact MP _ _ _ h ⟨rfl,rfl⟩
theorem ajk {b:qn} {nL:qa} {qc:Int} {ql:Int} {Gf:qe→Option (qe×Int)} {qx:qe} {qg:Int} {qk:qe} {v:(qe×Int)} {Q:ra}  {GY:List au} {rS:h9} (Kn:∀ (n0:qe) (qO:List au) (p_:List I),Gf n0=some v→qV 98 [(1,(.ptr 0 0)),(4,(qq nL .shared)),(6,(qf qk (.uniq 2))),(7,(hG qc)),(8,(qf n0 (.uniq 2))),(9,(hG ql))] p_→Q (.exit 6) p_ (qv b::qO)) (Ro:∀ (n0:qe) (qO:List au) (p_:List I),Gf n0=some v→qV 98 [(1,(.ptr 0 0)),(4,(qq nL .shared)),(6,(qf qk (.uniq 2))),(7,(hG qc)),(8,(qf n0 (.own 2))),(9,(hG ql))] p_→Q (.exit 6) p_ (qv b::qO)) (Hm:(rS=(.uniq 2)∨rS=(.own 2))) {T:List I} (bW:eL (DX false [1,1,2,1,1,5,87]) T=F2 98 [(1,(.ptr 0 0)),(4,(qq nL .shared)),(6,(qf qk (.uniq 2))),(7,(hG qc)),(8,(.ax (qx.flatMap p6) qx.length rS)),(9,(hG ql)),(10,(hG qg))]) (h:Gr b nL qc ql Gf p' qx qg=some v) :
  dB Tryz.prog IF 38 0 none Iz T (qv b::GY) Q:=by
 unfold Iz;refine wp_loop bW ?_;refine .intro (fun m T H=>∃ (qx:qe) (qg:Int) (Ih:List au) (rS:h9),(rS=(.uniq 2)∨rS=(.own 2))∧T=F2 98 [(1,(.ptr 0 0)),(4,(qq nL .shared)),(6,(qf qk (.uniq 2))),(7,(hG qc)),(8,(.ax (qx.flatMap p6) qx.length rS)),(9,(hG ql)),(10,(hG qg))]∧H=(qv b::Ih)∧Gr b nL qc ql Gf m qx qg=some v) p' ⟨qx,qg,GY,_,Hm,rfl,rfl,h⟩ ?_;clear h bW;rintro m T H ⟨qx,qg,Ih,rS,Hm,rfl,rfl,h⟩;cases m
 ·exact q3 h
 rename_i m;rw [Gr.eq_2] at h;rcases Hm with rfl | rfl
 ·conv=>whnf
  refine bs h (fun qI h=>?_) fun qI h=>?_
  ·rw [qI];(conv=>whnf);refine qy h id fun rh h=>?_;rw [rA hG nL ql rh];(conv=>whnf);refine Dj (x:=au.cells [(hG (0:Int)),(hG (0:Int))]) (by first | exact qs.h | rfl | (simp [List.getElem?_append,I.settle];done)) ?_
   (conv=>whnf);rw [rK];refine bs h (fun qS h=>?_) fun qS h=>?_
   ·rw [qS];(conv=>whnf);refine bs h (fun q8 h=>?_) fun q8 h=>?_
    ·rw [q8];(conv=>whnf);refine Dj (x:=au.cells [(hG (ix nL ql)),(hG qg)]) (by first | exact qs.h | rfl | (simp [List.getElem?_append,I.settle];done)) ?_
     (conv=>whnf);obtain ⟨ew,rr,h⟩:=qi h;refine ⟨qm.pl,_,Hh rr,F7,?_⟩;(conv=>whnf);refine Dj (x:=au.cells [(hG (ix nL ql)),(hG qg)]) (by first | exact qs.h | rfl | (simp [List.getElem?_append,I.settle];done)) ?_
     (conv=>whnf);obtain ⟨qH,ry,h⟩:=qi h;refine ⟨qm.pl,_,GU ry,rH rfl,?_⟩;(conv=>whnf);obtain ⟨q6,r1,h⟩:=qi h;refine ⟨qm.pl,_,Ie r1,rH rfl,?_⟩;(conv=>whnf);cases q6
     ·(conv=>whnf);replace h:=r5 rfl h;exact ⟨m,Nat.lt_succ_self m,qx,(w (qg+(1:Int))),_,_,(.inr rfl),rfl,rfl,h⟩
     ·(conv=>whnf);replace h:=r4 rfl h;refine Dj (x:=au.cells [(hG (ix nL ql)),(hG qg)]) (by first | exact qs.h | rfl | (simp [List.getElem?_append,I.settle];done)) ?_
      (conv=>whnf);obtain ⟨se,h⟩:=qD h;refine ⟨by first | rfl | (simp;done) | exact r9 p6 _ qz _,by have:=se;omega,rfl,se,?_⟩
      erw [F_ p6 qx ((ix nL ql),qg)];(conv=>whnf);exact ⟨m,Nat.lt_succ_self m,(qx++[((ix nL ql),qg)]),(w (qg+(1:Int))),_,_,(.inr rfl),rfl,rfl,h⟩
    ·rw [q8];(conv=>whnf);refine Dj (x:=au.cells [(hG (ix nL ql)),(hG qg)]) (by first | exact qs.h | rfl | (simp [List.getElem?_append,I.settle];done)) ?_
     (conv=>whnf);obtain ⟨Gp,r8,h⟩:=qi h;refine ⟨qm.pl,_,JZ r8,F7,?_⟩;(conv=>whnf);refine bs h (fun rI h=>?_) fun rI h=>?_
     ·rw [rI];(conv=>whnf);refine Dj (x:=au.cells [(hG (ix nL ql)),(hG qg)]) (by first | exact qs.h | rfl | (simp [List.getElem?_append,I.settle];done)) ?_
      (conv=>whnf);obtain ⟨GF,rZ,h⟩:=qi h;refine ⟨qm.pl,_,Hh rZ,rH rfl,?_⟩;(conv=>whnf);refine Dj (x:=au.cells [(hG (ix nL ql)),(hG qg)]) (by first | exact qs.h | rfl | (simp [List.getElem?_append,I.settle];done)) ?_
      (conv=>whnf);obtain ⟨Hd,r0,h⟩:=qi h;refine ⟨qm.pl,_,GU r0,rH rfl,?_⟩;(conv=>whnf);obtain ⟨sa,si,h⟩:=qi h;refine ⟨qm.pl,_,Ie si,rH rfl,?_⟩;(conv=>whnf);cases sa
      ·(conv=>whnf);replace h:=r5 rfl h;exact ⟨m,Nat.lt_succ_self m,qx,(w (qg+(1:Int))),_,_,(.inr rfl),rfl,rfl,h⟩
      ·(conv=>whnf);replace h:=r4 rfl h;refine Dj (x:=au.cells [(hG (ix nL ql)),(hG qg)]) (by first | exact qs.h | rfl | (simp [List.getElem?_append,I.settle];done)) ?_
       (conv=>whnf);obtain ⟨sj,h⟩:=qD h;refine ⟨by first | rfl | (simp;done) | exact r9 p6 _ qz _,by have:=sj;omega,rfl,sj,?_⟩
       erw [F_ p6 qx ((ix nL ql),qg)];(conv=>whnf);exact ⟨m,Nat.lt_succ_self m,(qx++[((ix nL ql),qg)]),(w (qg+(1:Int))),_,_,(.inr rfl),rfl,rfl,h⟩
     ·rw [rI];(conv=>whnf);exact ⟨m,Nat.lt_succ_self m,qx,(w (qg+(1:Int))),_,_,(.inr rfl),rfl,rfl,h⟩
   ·rw [qS];(conv=>whnf);exact ⟨m,Nat.lt_succ_self m,qx,(w (qg+(1:Int))),_,_,(.inr rfl),rfl,rfl,h⟩
  ·rw [qI];(conv=>whnf);exact Kn _ _ _ h ⟨rfl,rfl⟩
 ·conv=>whnf
  refine bs h (fun qI h=>?_) fun qI h=>?_
  ·rw [qI];(conv=>whnf);refine qy h id fun rh h=>?_;rw [rA hG nL ql rh];(conv=>whnf);refine Dj (x:=au.cells [(hG (0:Int)),(hG (0:Int))]) (by first | exact qs.h | rfl | (simp [List.getElem?_append,I.settle];done)) ?_
   (conv=>whnf);rw [rK];refine bs h (fun qS h=>?_) fun qS h=>?_
   ·rw [qS];(conv=>whnf);refine bs h (fun q8 h=>?_) fun q8 h=>?_
    ·rw [q8];(conv=>whnf);refine Dj (x:=au.cells [(hG (ix nL ql)),(hG qg)]) (by first | exact qs.h | rfl | (simp [List.getElem?_append,I.settle];done)) ?_
     (conv=>whnf);obtain ⟨ew,rr,h⟩:=qi h;refine ⟨qm.pl,_,Hh rr,F7,?_⟩;(conv=>whnf);refine Dj (x:=au.cells [(hG (ix nL ql)),(hG qg)]) (by first | exact qs.h | rfl | (simp [List.getElem?_append,I.settle];done)) ?_
     (conv=>whnf);obtain ⟨qH,ry,h⟩:=qi h;refine ⟨qm.pl,_,GU ry,rH rfl,?_⟩;(conv=>whnf);obtain ⟨q6,r1,h⟩:=qi h;refine ⟨qm.pl,_,Ie r1,rH rfl,?_⟩;(conv=>whnf);cases q6
     ·(conv=>whnf);replace h:=r5 rfl h;exact ⟨m,Nat.lt_succ_self m,qx,(w (qg+(1:Int))),_,_,(.inr rfl),rfl,rfl,h⟩
     ·(conv=>whnf);replace h:=r4 rfl h;refine Dj (x:=au.cells [(hG (ix nL ql)),(hG qg)]) (by first | exact qs.h | rfl | (simp [List.getElem?_append,I.settle];done)) ?_
      (conv=>whnf);obtain ⟨se,h⟩:=qD h;refine ⟨by first | rfl | (simp;done) | exact r9 p6 _ qz _,by have:=se;omega,rfl,se,?_⟩
      erw [F_ p6 qx ((ix nL ql),qg)];(conv=>whnf);exact ⟨m,Nat.lt_succ_self m,(qx++[((ix nL ql),qg)]),(w (qg+(1:Int))),_,_,(.inr rfl),rfl,rfl,h⟩
    ·rw [q8];(conv=>whnf);refine Dj (x:=au.cells [(hG (ix nL ql)),(hG qg)]) (by first | exact qs.h | rfl | (simp [List.getElem?_append,I.settle];done)) ?_
     (conv=>whnf);obtain ⟨Gp,r8,h⟩:=qi h;refine ⟨qm.pl,_,JZ r8,F7,?_⟩;(conv=>whnf);refine bs h (fun rI h=>?_) fun rI h=>?_
     ·rw [rI];(conv=>whnf);refine Dj (x:=au.cells [(hG (ix nL ql)),(hG qg)]) (by first | exact qs.h | rfl | (simp [List.getElem?_append,I.settle];done)) ?_
      (conv=>whnf);obtain ⟨GF,rZ,h⟩:=qi h;refine ⟨qm.pl,_,Hh rZ,rH rfl,?_⟩;(conv=>whnf);refine Dj (x:=au.cells [(hG (ix nL ql)),(hG qg)]) (by first | exact qs.h | rfl | (simp [List.getElem?_append,I.settle];done)) ?_
      (conv=>whnf);obtain ⟨Hd,r0,h⟩:=qi h;refine ⟨qm.pl,_,GU r0,rH rfl,?_⟩;(conv=>whnf);obtain ⟨sa,si,h⟩:=qi h;refine ⟨qm.pl,_,Ie si,rH rfl,?_⟩;(conv=>whnf);cases sa
      ·(conv=>whnf);replace h:=r5 rfl h;exact ⟨m,Nat.lt_succ_self m,qx,(w (qg+(1:Int))),_,_,(.inr rfl),rfl,rfl,h⟩
      ·(conv=>whnf);replace h:=r4 rfl h;refine Dj (x:=au.cells [(hG (ix nL ql)),(hG qg)]) (by first | exact qs.h | rfl | (simp [List.getElem?_append,I.settle];done)) ?_
       (conv=>whnf);obtain ⟨sj,h⟩:=qD h;refine ⟨by first | rfl | (simp;done) | exact r9 p6 _ qz _,by have:=sj;omega,rfl,sj,?_⟩
       erw [F_ p6 qx ((ix nL ql),qg)];(conv=>whnf);exact ⟨m,Nat.lt_succ_self m,(qx++[((ix nL ql),qg)]),(w (qg+(1:Int))),_,_,(.inr rfl),rfl,rfl,h⟩
     ·rw [rI];(conv=>whnf);exact ⟨m,Nat.lt_succ_self m,qx,(w (qg+(1:Int))),_,_,(.inr rfl),rfl,rfl,h⟩
   ·rw [qS];(conv=>whnf);exact ⟨m,Nat.lt_succ_self m,qx,(w (qg+(1:Int))),_,_,(.inr rfl),rfl,rfl,h⟩
  ·rw [qI];(conv=>whnf);exact Ro _ _ _ h ⟨rfl,rfl⟩
theorem ajl {b:qn} {nL:qa} {qc:Int} {ql:Int} {Gf:qe→Option (qe×Int)} {qx:qe} {qg:Int} {qk:qe} {v:(qe×Int)} {Q:ra}  {GY:List au} (Kn:∀ (n0:qe) (qO:List au) (p_:List I),Gf n0=some v→qV 98 [(1,(.ptr 0 0)),(4,(qq nL .shared)),(6,(qf qk (.uniq 2))),(7,(hG qc)),(8,(qf n0 (.own 2))),(9,(hG ql))] p_→Q (.exit 6) p_ (qv b::qO)) {T:List I} (bW:eL (DX false [1,1,2,1,1,5,87]) T=F2 98 [(1,(.ptr 0 0)),(4,(qq nL .shared)),(6,(qf qk (.uniq 2))),(7,(hG qc)),(8,(qf qx (.own 2))),(9,(hG ql)),(10,(hG qg))]) (h:Gr b nL qc ql Gf p' qx qg=some v) :
  dB Tryz.prog IF 38 0 none Iz T (qv b::GY) Q:=by
 unfold Iz;refine wp_loop bW ?_;refine .intro (fun m T H=>∃ (qx:qe) (qg:Int) (Ih:List au),T=F2 98 [(1,(.ptr 0 0)),(4,(qq nL .shared)),(6,(qf qk (.uniq 2))),(7,(hG qc)),(8,(qf qx (.own 2))),(9,(hG ql)),(10,(hG qg))]∧H=(qv b::Ih)∧Gr b nL qc ql Gf m qx qg=some v) p' ⟨qx,qg,GY,rfl,rfl,h⟩ ?_;clear h bW;rintro m T H ⟨qx,qg,Ih,rfl,rfl,h⟩;cases m
 ·exact q3 h
 rename_i m;rw [Gr.eq_2] at h;conv=>whnf
 refine bs h (fun qI h=>?_) fun qI h=>?_
 ·rw [qI];conv=>whnf
  refine qy h id fun rh h=>?_;rw [rA hG nL ql rh];conv=>whnf
  refine Dj (x:=au.cells [(hG (0:Int)),(hG (0:Int))]) (by first | exact qs.h | rfl | (simp [List.getElem?_append,I.settle];done)) ?_
  conv=>whnf
  rw [rK];refine bs h (fun qS h=>?_) fun qS h=>?_
  ·rw [qS];(conv=>whnf);refine bs h (fun q8 h=>?_) fun q8 h=>?_
   ·rw [q8];(conv=>whnf);refine Dj (x:=au.cells [(hG (ix nL ql)),(hG qg)]) (by first | exact qs.h | rfl | (simp [List.getElem?_append,I.settle];done)) ?_
    (conv=>whnf);obtain ⟨ew,rr,h⟩:=qi h;refine ⟨qm.pl,_,Hh rr,F7,?_⟩;(conv=>whnf);refine Dj (x:=au.cells [(hG (ix nL ql)),(hG qg)]) (by first | exact qs.h | rfl | (simp [List.getElem?_append,I.settle];done)) ?_
    (conv=>whnf);obtain ⟨qH,ry,h⟩:=qi h;refine ⟨qm.pl,_,GU ry,rH rfl,?_⟩;(conv=>whnf);obtain ⟨q6,r1,h⟩:=qi h;refine ⟨qm.pl,_,Ie r1,rH rfl,?_⟩;(conv=>whnf);cases q6
    ·(conv=>whnf);replace h:=r5 rfl h;exact ⟨m,Nat.lt_succ_self m,qx,(w (qg+(1:Int))),_,rfl,rfl,h⟩
    ·(conv=>whnf);replace h:=r4 rfl h;refine Dj (x:=au.cells [(hG (ix nL ql)),(hG qg)]) (by first | exact qs.h | rfl | (simp [List.getElem?_append,I.settle];done)) ?_
     (conv=>whnf);obtain ⟨se,h⟩:=qD h;refine ⟨by first | rfl | (simp;done) | exact r9 p6 _ qz _,by have:=se;omega,rfl,se,?_⟩
     erw [F_ p6 qx ((ix nL ql),qg)];(conv=>whnf);exact ⟨m,Nat.lt_succ_self m,(qx++[((ix nL ql),qg)]),(w (qg+(1:Int))),_,rfl,rfl,h⟩
   ·rw [q8];(conv=>whnf);refine Dj (x:=au.cells [(hG (ix nL ql)),(hG qg)]) (by first | exact qs.h | rfl | (simp [List.getElem?_append,I.settle];done)) ?_
    (conv=>whnf);obtain ⟨Gp,r8,h⟩:=qi h;refine ⟨qm.pl,_,JZ r8,F7,?_⟩;(conv=>whnf);refine bs h (fun rI h=>?_) fun rI h=>?_
    ·rw [rI];(conv=>whnf);refine Dj (x:=au.cells [(hG (ix nL ql)),(hG qg)]) (by first | exact qs.h | rfl | (simp [List.getElem?_append,I.settle];done)) ?_
     (conv=>whnf);obtain ⟨GF,rZ,h⟩:=qi h;refine ⟨qm.pl,_,Hh rZ,rH rfl,?_⟩;(conv=>whnf);refine Dj (x:=au.cells [(hG (ix nL ql)),(hG qg)]) (by first | exact qs.h | rfl | (simp [List.getElem?_append,I.settle];done)) ?_
     (conv=>whnf);obtain ⟨Hd,r0,h⟩:=qi h;refine ⟨qm.pl,_,GU r0,rH rfl,?_⟩;(conv=>whnf);obtain ⟨sa,si,h⟩:=qi h;refine ⟨qm.pl,_,Ie si,rH rfl,?_⟩;(conv=>whnf);cases sa
     ·(conv=>whnf);replace h:=r5 rfl h;exact ⟨m,Nat.lt_succ_self m,qx,(w (qg+(1:Int))),_,rfl,rfl,h⟩
     ·(conv=>whnf);replace h:=r4 rfl h;refine Dj (x:=au.cells [(hG (ix nL ql)),(hG qg)]) (by first | exact qs.h | rfl | (simp [List.getElem?_append,I.settle];done)) ?_
      (conv=>whnf);obtain ⟨sj,h⟩:=qD h;refine ⟨by first | rfl | (simp;done) | exact r9 p6 _ qz _,by have:=sj;omega,rfl,sj,?_⟩
      erw [F_ p6 qx ((ix nL ql),qg)];(conv=>whnf);exact ⟨m,Nat.lt_succ_self m,(qx++[((ix nL ql),qg)]),(w (qg+(1:Int))),_,rfl,rfl,h⟩
    ·rw [rI];(conv=>whnf);exact ⟨m,Nat.lt_succ_self m,qx,(w (qg+(1:Int))),_,rfl,rfl,h⟩
  ·rw [qS];(conv=>whnf);exact ⟨m,Nat.lt_succ_self m,qx,(w (qg+(1:Int))),_,rfl,rfl,h⟩
 ·rw [qI];conv=>whnf
  exact Kn _ _ _ h ⟨rfl,rfl⟩
theorem ajh {b:qn} {nL:qa} {qc:Int} {q5:qe→Option (qe×Int)} {qw:qe} {ql:Int} {qk:qe} {v:(qe×Int)} {Q:ra}  {Jx:List au} {rS:h9} (Hn:∀ (n0:qe) (qO:List au) (p_:List I),q5 n0=some v→qV 98 [(1,(.ptr 0 0)),(4,(qq nL .shared)),(6,(qf qk (.uniq 2))),(8,(qf n0 (.uniq 2)))] p_→Q (.exit 4) p_ (qv b::qO)) (MP:∀ (n0:qe) (qO:List au) (p_:List I),q5 n0=some v→qV 98 [(1,(.ptr 0 0)),(4,(qq nL .shared)),(6,(qf qk (.uniq 2))),(8,(qf n0 (.own 2)))] p_→Q (.exit 4) p_ (qv b::qO)) (Hm:(rS=(.uniq 2)∨rS=(.own 2))) {T:List I} (bW:eL (DX false [1,1,2,1,1,4,88]) T=F2 98 [(1,(.ptr 0 0)),(4,(qq nL .shared)),(6,(qf qk (.uniq 2))),(7,(hG qc)),(8,(.ax (qw.flatMap p6) qw.length rS)),(9,(hG ql))]) (h:I2 b nL qc q5 p' qw ql=some v) :
  dB Tryz.prog IF 38 0 none Mb T (qv b::Jx) Q:=by
 unfold Mb;obtain ⟨IG,rR⟩:∃ c,Iz=c:=⟨_,rfl⟩;rw [rR];refine wp_loop bW ?_;refine .intro (fun m T H=>∃ (qw:qe) (ql:Int) (GY:List au) (rS:h9),(rS=(.uniq 2)∨rS=(.own 2))∧T=F2 98 [(1,(.ptr 0 0)),(4,(qq nL .shared)),(6,(qf qk (.uniq 2))),(7,(hG qc)),(8,(.ax (qw.flatMap p6) qw.length rS)),(9,(hG ql))]∧H=(qv b::GY)∧I2 b nL qc q5 m qw ql=some v) p' ⟨qw,ql,Jx,_,Hm,rfl,rfl,h⟩ ?_;clear h bW;rintro m T H ⟨qw,ql,GY,rS,Hm,rfl,rfl,h⟩;cases m
 ·exact q3 h
 rename_i m;rw [I2.eq_2] at h;rcases Hm with rfl | rfl
 ·conv=>whnf
  refine bs h (fun qM h=>?_) fun qM h=>?_
  ·rw [qM];(conv=>whnf);subst rR;refine ajk ?_ ?_ (.inl rfl) (by exact rfl) h
   ·intro n0 qO p_ h qt;obtain ⟨qT,rfl⟩:=qt.ex;(conv=>whnf);exact ⟨m,Nat.lt_succ_self m,n0,(w (ql+(1:Int))),_,_,(.inl rfl),rfl,rfl,h⟩
   ·intro n0 qO p_ h qt;obtain ⟨qT,rfl⟩:=qt.ex;(conv=>whnf);exact ⟨m,Nat.lt_succ_self m,n0,(w (ql+(1:Int))),_,_,(.inr rfl),rfl,rfl,h⟩
  ·rw [qM];(conv=>whnf);exact Hn _ _ _ h ⟨rfl,rfl⟩
 ·conv=>whnf
  refine bs h (fun qM h=>?_) fun qM h=>?_
  ·rw [qM];(conv=>whnf);subst rR;refine ajl ?_ (by exact rfl) h;intro n0 qO p_ h qt;obtain ⟨qT,rfl⟩:=qt.ex;(conv=>whnf);exact ⟨m,Nat.lt_succ_self m,n0,(w (ql+(1:Int))),_,_,(.inr rfl),rfl,rfl,h⟩
  ·rw [qM];(conv=>whnf);exact MP _ _ _ h ⟨rfl,rfl⟩
theorem ajf {b:qn} {qK:qe→Option (qe×Int)} {nL:qa} {qk:qe} {qc:Int} {v:(qe×Int)} {Q:ra}   {Jz:h9} (lj:qE [.tmp 2,.tmp 3] Q (fun v=>(.tuple [(qf v.1 .shared),(hG v.2)])) v) (GL:∀ (Fh:qe) (bC:au) (qO:List au) (p_:List I),qK Fh=some v→qV 98 [(6,(qf Fh (.uniq 2)))] p_→Q (.exit 2) p_ (bC::qO)) (Rd:(Jz=(.uniq 1)∨Jz=h9.shared)) {T:List I} (bW:eL (DX false [1,1,2,1,1,2,90]) T=F2 98 [(1,(.ptr 0 0)),(4,(.ax (nL.map hG) nL.length Jz)),(6,(qf qk (.uniq 2))),(7,(hG qc))]) (h:KW b qK p' nL qk qc=some v) :
  dB Tryz.prog IF 38 0 none PL T [qv b] Q:=by
 unfold PL;obtain ⟨Qy,H4⟩:∃ c,Mb=c:=⟨_,rfl⟩;rw [H4];refine wp_loop bW ?_;refine .intro (fun m T H=>∃ (nL:qa) (qk:qe) (qc:Int) (Jx:List au) (Jz:h9),(Jz=(.uniq 1)∨Jz=h9.shared)∧T=F2 98 [(1,(.ptr 0 0)),(4,(.ax (nL.map hG) nL.length Jz)),(6,(qf qk (.uniq 2))),(7,(hG qc))]∧H=(qv b::Jx)∧KW b qK m nL qk qc=some v) p' ⟨nL,qk,qc,[],_,Rd,rfl,rfl,h⟩ ?_;clear h bW;rintro m T H ⟨nL,qk,qc,Jx,Jz,Rd,rfl,rfl,h⟩;cases m
 ·exact q3 h
 rename_i m;rw [KW.eq_2] at h;rcases Rd with rfl | rfl
 ·conv=>whnf
  refine bs h (fun q7 h=>?_) fun q7 h=>?_
  ·rw [q7];(conv=>whnf);subst H4;refine ajg ?_ ?_ (.inl rfl) (by exact rfl) h
   ·intro n0 qO p_ h qt;obtain ⟨qT,rfl⟩:=qt.ex;(conv=>whnf);refine bs h (fun GH h=>?_) fun GH h=>?_
    ·rw [GH];(conv=>whnf);exact qj h lj rfl rfl
    ·rw [GH];(conv=>whnf);refine qy h id fun GI h=>?_;rw [qQ p6 2 qz n0 (0:Int) GI];(conv=>whnf);obtain ⟨GQ,h⟩:=qD h;refine ⟨by first | rfl | (simp;done) | exact r9 p6 _ qz _,by have:=GQ;omega,rfl,GQ,?_⟩
     erw [F_ p6 qk (ix n0 (0:Int))];(conv=>whnf);refine qy h id fun H5 h=>?_;rw [qQ p6 2 qz n0 (0:Int) H5];(conv=>whnf);obtain ⟨sm,G3,h⟩:=qi h;refine ⟨qm.pl,_,Hh G3,F7,?_⟩;(conv=>whnf);refine qy h id fun H6 h=>?_;rw [qQ p6 2 qz n0 (0:Int) H6];(conv=>whnf);obtain ⟨HB,Jc,h⟩:=qi h;refine ⟨qm.pl,_,GU Jc,rH rfl,?_⟩;(conv=>whnf);exact ⟨m,Nat.lt_succ_self m,sm,(qk++[(ix n0 (0:Int))]),HB,_,_,(.inr rfl),rfl,rfl,h⟩
   ·intro n0 qO p_ h qt;obtain ⟨qT,rfl⟩:=qt.ex;(conv=>whnf);refine bs h (fun Il h=>?_) fun Il h=>?_
    ·rw [Il];(conv=>whnf);exact qj h lj rfl rfl
    ·rw [Il];(conv=>whnf);refine qy h id fun Jd h=>?_;rw [qQ p6 2 qz n0 (0:Int) Jd];(conv=>whnf);obtain ⟨Im,h⟩:=qD h;refine ⟨by first | rfl | (simp;done) | exact r9 p6 _ qz _,by have:=Im;omega,rfl,Im,?_⟩
     erw [F_ p6 qk (ix n0 (0:Int))];(conv=>whnf);refine qy h id fun Je h=>?_;rw [qQ p6 2 qz n0 (0:Int) Je];(conv=>whnf);obtain ⟨Jm,Kg,h⟩:=qi h;refine ⟨qm.pl,_,Hh Kg,F7,?_⟩;(conv=>whnf);refine qy h id fun Kh h=>?_;rw [qQ p6 2 qz n0 (0:Int) Kh];(conv=>whnf);obtain ⟨JO,ML,h⟩:=qi h;refine ⟨qm.pl,_,GU ML,rH rfl,?_⟩;(conv=>whnf);exact ⟨m,Nat.lt_succ_self m,Jm,(qk++[(ix n0 (0:Int))]),JO,_,_,(.inr rfl),rfl,rfl,h⟩
  ·rw [q7];(conv=>whnf);exact GL _ _ _ _ h ⟨rfl,rfl⟩
 ·conv=>whnf
  refine bs h (fun q7 h=>?_) fun q7 h=>?_
  ·rw [q7];(conv=>whnf);subst H4;refine ajh ?_ ?_ (.inl rfl) (by exact rfl) h
   ·intro n0 qO p_ h qt;obtain ⟨qT,rfl⟩:=qt.ex;(conv=>whnf);refine bs h (fun GH h=>?_) fun GH h=>?_
    ·rw [GH];(conv=>whnf);exact qj h lj rfl rfl
    ·rw [GH];(conv=>whnf);refine qy h id fun GI h=>?_;rw [qQ p6 2 qz n0 (0:Int) GI];(conv=>whnf);obtain ⟨GQ,h⟩:=qD h;refine ⟨by first | rfl | (simp;done) | exact r9 p6 _ qz _,by have:=GQ;omega,rfl,GQ,?_⟩
     erw [F_ p6 qk (ix n0 (0:Int))];(conv=>whnf);refine qy h id fun H5 h=>?_;rw [qQ p6 2 qz n0 (0:Int) H5];(conv=>whnf);obtain ⟨sm,G3,h⟩:=qi h;refine ⟨qm.pl,_,Hh G3,F7,?_⟩;(conv=>whnf);refine qy h id fun H6 h=>?_;rw [qQ p6 2 qz n0 (0:Int) H6];(conv=>whnf);obtain ⟨HB,Jc,h⟩:=qi h;refine ⟨qm.pl,_,GU Jc,rH rfl,?_⟩;(conv=>whnf);exact ⟨m,Nat.lt_succ_self m,sm,(qk++[(ix n0 (0:Int))]),HB,_,_,(.inr rfl),rfl,rfl,h⟩
   ·intro n0 qO p_ h qt;obtain ⟨qT,rfl⟩:=qt.ex;(conv=>whnf);refine bs h (fun Il h=>?_) fun Il h=>?_
    ·rw [Il];(conv=>whnf);exact qj h lj rfl rfl
    ·rw [Il];(conv=>whnf);refine qy h id fun Jd h=>?_;rw [qQ p6 2 qz n0 (0:Int) Jd];(conv=>whnf);obtain ⟨Im,h⟩:=qD h;refine ⟨by first | rfl | (simp;done) | exact r9 p6 _ qz _,by have:=Im;omega,rfl,Im,?_⟩
     erw [F_ p6 qk (ix n0 (0:Int))];(conv=>whnf);refine qy h id fun Je h=>?_;rw [qQ p6 2 qz n0 (0:Int) Je];(conv=>whnf);obtain ⟨Jm,Kg,h⟩:=qi h;refine ⟨qm.pl,_,Hh Kg,F7,?_⟩;(conv=>whnf);refine qy h id fun Kh h=>?_;rw [qQ p6 2 qz n0 (0:Int) Kh];(conv=>whnf);obtain ⟨JO,ML,h⟩:=qi h;refine ⟨qm.pl,_,GU ML,rH rfl,?_⟩;(conv=>whnf);exact ⟨m,Nat.lt_succ_self m,Jm,(qk++[(ix n0 (0:Int))]),JO,_,_,(.inr rfl),rfl,rfl,h⟩
  ·rw [q7];(conv=>whnf);exact GL _ _ _ _ h ⟨rfl,rfl⟩
theorem ajn {b:qn} {v:(qe×Int)} (h:NF b=some v):qC 38 [(.agg [(hG b.1),(.ax (b.2.flatMap p6) b.2.length .shared)])] (.tuple [(.ax (v.1.flatMap p6) v.1.length .shared),(hG v.2)]):=by
 refine qN dD aeR rfl (HX (p5 (q4 (fun _=>(p5 rfl (p5 rfl rfl))) _ _ _) (p5 rfl rfl))) fun Q bz=>?_;have lj:qE [.tmp 2,.tmp 3] Q (fun v=>(.tuple [(qf v.1 .shared),(hG v.2)])) v:=fun T H bJ=>bz _ T H bJ;unfold NF at h;unfold Z2;obtain ⟨Gi,qF⟩:∃ c,PK=c:=⟨_,rfl⟩;rw [qF];obtain ⟨abZ,IJ⟩:∃ c,PL=c:=⟨_,rfl⟩;rw [IJ];conv=>whnf
 obtain ⟨aR,eQ,h⟩:=qi h;refine ⟨qm.pl,_,TC eQ,?_⟩;conv=>whnf
 refine bs h (fun fi h=>?_) fun fi h=>?_
 ·rw [fi];conv=>whnf
  obtain ⟨r2,qu,h⟩:=qi h;refine ⟨qm.pl,_,TC qu,?_⟩;conv=>whnf
  exact qj h lj rfl rfl
 ·rw [fi];conv=>whnf
  subst qF;refine aje ?_ (by exact rfl) h;intro xt p_ h qt;obtain ⟨qT,rfl⟩:=qt.ex;conv=>whnf
  subst IJ;refine ajf ?_ ?_ (.inl rfl) (by exact rfl) h
  ·exact fun T H bJ=>lj T H bJ
  ·intro Fh bC qO p_ h qt;obtain ⟨qT,rfl⟩:=qt.ex;(conv=>whnf);exact qj h lj rfl rfl
end Go.Proofs.YtfakoboiahbhaaaGreat.Ab


namespace Go.Proofs.YtfakoboiahbhaaaGreat.Ab
open Go
def rE (S:List Int) (i:Int):List Int:=S.filter fun x=>decide (x≠i)
def Hx (b:qb) (S:List Int) (f:Int):Bool:=(KF b S f).getD false
def rV (b:qb) (S:List Int) (at_:Int) (p:Int×Int):Bool:=(decide (at_<0) || decide (qX b p=at_)) && Hx b (rE S p.1) (fin b p)
def GC (b:qb) (S:List Int) (at_ i:Int):Row:=[(i,0),(i,1)].filter (rV b S at_)
def Gj (b:qb) (S:List Int) (at_:Int):Row:=S.flatMap (GC b S at_)
def IV (b:qb):Nat→List Int→Row→Int→Row
 | 0,_,out,_=>out
 | m+1,S,out,at_=>match Gj b S at_ with
   | []=>out
   | p::_=>IV b m (rE S p.1) (out++[p]) (fin b p)
def Gn (b:qb):Row:=IV b (b.2.length+1) (upto b.2.length) [] (-1)
section
variable {b:qb} {S:List Int}
theorem Od (p8:qJ b) (cg:rm b S) (aP:S.Nodup) (f:Int):KF b S f=some (Hx b S f)∧(Hx b S f=true↔Ig b S f):=by
 obtain ⟨r,ad,af⟩:=aiG p8 cg aP f
 have:Hx b S f=r:=by unfold Hx;rw [ad];rfl
 rw [this];exact ⟨ad,af⟩
theorem acO (p8:qJ b) (cg:rm b S) (aP:S.Nodup) {f:Int} (aN:0≤f∧f<b.1):K' b S f=some (Hx b S f):=by
 obtain ⟨r,ad,af⟩:=aj5 p8 cg aP aN;have aH:=(Od p8 cg aP f).2
 have:r=Hx b S f:=by
  rw [Bool.eq_iff_iff,af,aH]
 rw [ad,this]
theorem JU (cg:rm b S) (i:Int):rm b (rE S i):=fun x al=>cg x (List.mem_filter.1 al).1
theorem KD (aP:S.Nodup) (i:Int):(rE S i).Nodup:=aP.filter _
theorem Nv (aP:S.Nodup) {i:Int} (hi:i∈S):S.Perm (i::rE S i):=by
 refine (List.perm_ext_iff_of_nodup aP ?_).2 fun x=>?_
 ·rw [List.nodup_cons];refine ⟨fun h=>?_,KD aP i⟩;have:=(List.mem_filter.1 h).2;simp at this
 ·rw [List.mem_cons,rE,List.mem_filter];constructor
  ·intro h;by_cases e:x=i
   ·exact .inl e
   ·exact .inr ⟨h,by simpa using e⟩
  ·rintro (rfl | h)
   ·exact hi
   ·exact h.1
theorem MX {at_:Int} {p:Int×Int}:p∈Gj b S at_↔p.1∈S∧(p.2=0∨p.2=1)∧rV b S at_ p=true:=by
 unfold Gj GC;rw [List.mem_flatMap];constructor
 ·rintro ⟨i,hi,h⟩;rw [List.mem_filter] at h;obtain ⟨ad,af⟩:=h;simp only [List.mem_cons,List.not_mem_nil,or_false] at ad;rcases ad with rfl | rfl
  ·exact ⟨hi,.inl rfl,af⟩
  ·exact ⟨hi,.inr rfl,af⟩
 ·rintro ⟨ad,af,aH⟩;refine ⟨p.1,ad,List.mem_filter.2 ⟨?_,aH⟩⟩;obtain ⟨bP,b4⟩:=p;rcases af with af | af
  ·simp only at af;subst af;simp
  ·simp only at af;subst af;simp
def P' (b:qb) (S:List Int) (at_:Int):Prop:=(at_<0∧∃ f,Ig b S f)∨(0≤at_∧Ig b S at_)
theorem P'.next (p8:qJ b) (cg:rm b S) (aP:S.Nodup) {at_:Int} (h:P' b S at_) (aT:S≠[]):Gj b S at_≠[]:=by
 have aq:S.length≤990:=Nat.le_trans (HV aP cg) (by have:=p8.len;omega);obtain ⟨f,aN,aK⟩:∃ f,(at_<0∨f=at_)∧Ig b S f:=by
  rcases h with ⟨ad,f,af⟩ | ⟨_,af⟩
  ·exact ⟨f,.inl ad,af⟩
  ·exact ⟨_,.inr rfl,af⟩
 obtain ⟨l,c,bW⟩:=(QR p8 cg aq).1 aK
 match l,bW with
 | [],bW =>
   have:=bW.all.length_eq;simp at this;exact absurd (List.length_eq_zero_iff.1 this.symm) aT
 | p::l,bW =>
   obtain ⟨cn,cp⟩:=HY.1 bW.go;have aD:=bW.ok p (by simp);have Ko:p.1∈S:=bW.all.mem_iff.1 (by simp);have HR:(l.map (·.1)).Perm (rE S p.1):=by
    have:=bW.all.trans (Nv aP Ko);rw [List.map_cons] at this;exact this.cons_inv
   have Hz:Ig b (rE S p.1) (fin b p):=(QR p8 (JU cg _) (Nat.le_trans (List.length_filter_le _ _) aq)).2 ⟨l,c,fun q bl=>bW.ok q (by simp [bl]),cp,HR⟩
   have hm:p∈Gj b S at_:=MX.2 ⟨Ko,by have:=aD.2.2;omega,by
    unfold rV;rw [(Od p8 (JU cg _) (KD aP _) _).2.2 Hz];rcases aN with aN | rfl
    ·simp [aN]
    ·simp [cn]⟩
   intro e;rw [e] at hm;simp at hm
theorem Wj (p8:qJ b):∀ (m:Nat) (S:List Int) (out:Row) (at_:Int),S.length<m→rm b S→S.Nodup→P' b S at_→∃ l f c,IV b m S out at_=out++l∧G8 b S f c l∧(0≤at_→f=at_)
 | 0,_,_,_,h,_,_,_=>absurd h (by omega)
 | m+1,S,out,at_,hm,cg,aP,aK=>by
   rw [IV];by_cases aT:S=[]
   ·subst aT;refine ⟨[],at_,at_,by simp [Gj],⟨fun p aD=>absurd aD (by simp),rfl,by simp⟩,fun _=>rfl⟩
   ·have bY:=aK.next p8 cg aP aT
    match he:Gj b S at_,bY with
    | p::r,_ =>
      have aD:=MX.1 (show p∈Gj b S at_ by rw [he];simp);obtain ⟨ad,af,aH⟩:=aD;unfold rV at aH;rw [Bool.and_eq_true,Bool.or_eq_true,decide_eq_true_eq,decide_eq_true_eq] at aH;have Hz:=(Od p8 (JU cg p.1) (KD aP p.1) (fin b p)).2.1 aH.2;have b0:Hc b p:=⟨(cg _ ad).1,(cg _ ad).2,by omega,by omega⟩;have aY:=(Nv aP ad).length_eq;rw [List.length_cons] at aY;obtain ⟨l,f,c,e1,cd,dw⟩:=Wj p8 m (rE S p.1) (out++[p]) (fin b p) (by omega) (JU cg _) (KD aP _) (.inr ⟨(Mp p8 b0).2.1,Hz⟩);have dw:=dw (Mp p8 b0).2.1;subst dw;refine ⟨p::l,qX b p,c,by simp only;rw [e1];simp,⟨fun q bl=>?_,HY.2 ⟨rfl,cd.go⟩,?_⟩,fun h=>?_⟩
      ·rcases List.mem_cons.1 bl with rfl | bl
       ·exact b0
       ·exact cd.ok q bl
      ·rw [List.map_cons];exact (cd.all.cons _).trans (Nv aP ad).symm
      ·rcases aH.1 with aH | aH
       ·omega
       ·exact aH
theorem afB (p8:qJ b) (aT:0<b.2.length) (ad:G' b≤1):∃ f,Ig b (upto b.2.length) f:=by
 obtain ⟨R,lj,rJ⟩:=Pq p8;have hlen:=rJ.len;have Kp:0<R.length:=by
  refine Nat.pos_of_ne_zero fun e=>?_;have:=rJ.all.length_eq;rw [List.length_eq_zero_iff.1 e,r3] at this;simp at this;omega
 obtain ⟨l,a,c,_,bW⟩:=rJ.toRowsOf.single (by omega);have dq:=p8.len;exact ⟨a,(QR p8 It (by rw [r3];omega)).2 ⟨l,c,bW⟩⟩
theorem Wl (p8:qJ b) (aT:0<b.2.length) (ad:G' b≤1):∃ f c,G8 b (upto b.2.length) f c (Gn b):=by
 obtain ⟨l,f,c,e,bW,_⟩:=Wj p8 (b.2.length+1) (upto b.2.length) [] (-1) (by rw [r3];omega) It (Iu _) (.inl ⟨by omega,afB p8 aT ad⟩);refine ⟨f,c,?_⟩;unfold Gn;rw [e,List.nil_append];exact bW
theorem TE {i:Int} (aq:S.length≤1000) {k:List Int→Option (List Int)}:∀ (m j:Nat) (z:Int) (acc:List Int),z=j→j≤S.length→S.length-j<m→acc.length≤j→J9 S i k m acc z=k (acc++rE (S.drop j) i)
 | 0,_,_,_,_,_,h,_=>absurd h (by omega)
 | m+1,j,_,acc,rfl,az,hm,cu=>by
   rw [J9];by_cases h:(j:Int)<(S.length:Int)
   ·(have o2:j<S.length:=by omega);rw [if_pos (decide_eq_true h),qp ⟨by omega,h⟩,qp ⟨by omega,h⟩,rn o2,qp (by omega),rq j (by omega),List.drop_eq_getElem_cons o2];unfold rE;rw [List.filter_cons];by_cases bY:S[j]≠i
    ·rw [if_pos (decide_eq_true bY),if_pos (decide_eq_true bY),TE aq m (j+1) _ _ rfl (by omega) (by omega) (by simp;omega)];simp [rE]
    ·rw [if_neg (by simpa using bY),if_neg (by simpa using bY),TE aq m (j+1) _ _ rfl (by omega) (by omega) (by omega)];rfl
   ·rw [if_neg (by simpa using h),List.drop_eq_nil_of_le (by omega)];simp [rE]
theorem TD {i:Int} (aq:S.length≤1000):La S i=some (rE S i):=by
 rw [La,TE aq p' 0 0 [] rfl (by omega) (ru (by omega)) (by simp),List.drop_zero,List.nil_append]
theorem Y1 (ag:b.2.length≤1000) {k:List Int→Option (Row×Int)}:∀ (m i:Nat) (z:Int),z=i→i≤b.2.length→b.2.length-i<m→KV b k m (upto i) z=k (upto b.2.length)
 | 0,_,_,_,_,h=>absurd h (by omega)
 | m+1,i,_,rfl,hi,hm=>by
   rw [KV];by_cases h:(i:Int)<(b.2.length:Int)
   ·rw [if_pos (decide_eq_true h),qp (by rw [r3];omega),rq i (by omega),←KC];exact Y1 ag m (i+1) _ rfl (by omega) (by omega)
   ·rw [if_neg (by simpa using h),show i=b.2.length by omega]
def MY (b:qb) (S:List Int) (at_:Int) (acc:Row) (p:Int×Int):Row:=if acc=[]∧rV b S at_ p=true then [p] else acc
theorem Y4 (p8:qJ b) (cg:rm b S) (aP:S.Nodup) {at_:Int} {j:Nat} (az:j<S.length) {k:Row→Option (Row×Int)} {e:Nat} (he:e<2) {m:Nat} {acc:Row} (cu:acc.length≤1) :
  Gr b S at_ (j:Int) k (m+1) acc (e:Int)=Gr b S at_ (j:Int) k m (MY b S at_ acc (S[j],(e:Int))) ((e+1:Nat):Int):=by
 have aq:S.length≤1000:=Nat.le_trans (HV aP cg) (by have:=p8.len;omega);have hm:=cg _ (List.getElem_mem az);have b0:Hc b (S[j],(e:Int)):=⟨hm.1,hm.2,by simp only;omega,by simp only;omega⟩;have cF:Ge b (S[j],(e:Int))=false:=KB.2 ⟨hm.1,hm.2,by simp only;omega,by simp only;omega⟩;have aK:=acO p8 (JU cg S[j]) (KD aP S[j]) (f:=fin b (S[j],(e:Int))) (Mp p8 b0).2;rw [Gr,if_pos (by simp;omega),qp ⟨by omega,by omega⟩,rn az,rq e (by omega)];unfold MY;by_cases aT:acc=[]
 ·subst aT;rw [if_pos (by simp)];by_cases ad:at_<0
  ·rw [if_pos (decide_eq_true ad),TD aq,Option.bind_some,NM cF,Option.bind_some,aK,Option.bind_some];(have ak:rV b S at_ (S[j],(e:Int))=Hx b (rE S S[j]) (fin b (S[j],(e:Int))):=by unfold rV;simp [ad]);rw [ak];by_cases af:Hx b (rE S S[j]) (fin b (S[j],(e:Int)))=true
   ·rw [if_pos af,if_pos ⟨rfl,af⟩,qp (by simp)];rfl
   ·rw [if_neg af,if_neg (fun h=>af h.2)]
  ·rw [if_neg (by simpa using ad),Tm cF,Option.bind_some];by_cases aH:at_=qX b (S[j],(e:Int))
   ·rw [if_pos (decide_eq_true aH),TD aq,Option.bind_some,NM cF,Option.bind_some,aK,Option.bind_some];(have ak:rV b S at_ (S[j],(e:Int))=Hx b (rE S S[j]) (fin b (S[j],(e:Int))):=by unfold rV;simp [aH]);rw [ak];by_cases af:Hx b (rE S S[j]) (fin b (S[j],(e:Int)))=true
    ·rw [if_pos af,if_pos ⟨rfl,af⟩,qp (by simp)];rfl
    ·rw [if_neg af,if_neg (fun h=>af h.2)]
   ·(have ak:rV b S at_ (S[j],(e:Int))=false:=by unfold rV;simp [ad,Ne.symm aH]);rw [if_neg (by simpa using aH),ak,if_neg (fun h=>by simp at h)]
 ·rw [if_neg (by simpa using aT),if_neg (fun h=>aT h.1)]
theorem afu {at_:Int} {acc:Row} {p:Int×Int} (h:acc.length≤1):(MY b S at_ acc p).length≤1:=by
 unfold MY;split
 ·simp
 ·exact h
theorem aji (p8:qJ b) (cg:rm b S) (aP:S.Nodup) {at_:Int} {j:Nat} (az:j<S.length) {k:Row→Option (Row×Int)} {acc:Row} (cu:acc.length≤1) :
  Gr b S at_ (j:Int) k p' acc 0=k (if acc=[] then (GC b S at_ S[j]).take 1 else acc):=by
 obtain ⟨m,hm⟩:∃ m,p'=m+1+1+1:=⟨18446744073709551613,rfl⟩;rw [hm];have s1:=Y4 p8 cg aP (at_:=at_) az (k:=k) (e:=0) (by omega) (m:=m+1+1) cu;have s2:=Y4 p8 cg aP (at_:=at_) az (k:=k) (e:=1) (by omega) (m:=m+1) (afu (b:=b) (S:=S) (at_:=at_) (acc:=acc) (p:=(S[j],((0:Nat):Int))) cu);refine s1.trans (s2.trans ?_);rw [Gr,if_neg (by decide)];congr 1;unfold MY GC;rw [show ((0:Nat):Int)=0 from rfl,show ((1:Nat):Int)=1 from rfl];by_cases aT:acc=[]
 ·subst aT;simp only [true_and,if_true];by_cases ad:rV b S at_ (S[j],0)=true
  ·rw [if_pos ad,if_neg (by simp),List.filter_cons,if_pos ad];rfl
  ·rw [if_neg ad,List.filter_cons,if_neg ad,List.filter_cons];by_cases af:rV b S at_ (S[j],1)=true
   ·rw [if_pos ⟨rfl,af⟩,if_pos af];rfl
   ·rw [if_neg (fun h=>af h.2),if_neg af];rfl
 ·simp only [aT,false_and,if_false]
theorem Y3 (p8:qJ b) (cg:rm b S) (aP:S.Nodup) {at_:Int} {k:Row→Option (Row×Int)}:∀ (m j:Nat) (z:Int) (acc:Row),z=j→j≤S.length→S.length-j<m→acc.length≤1 →
  I2 b S at_ k m acc z=k (if acc=[] then ((S.drop j).flatMap (GC b S at_)).take 1 else acc)
 | 0,_,_,_,_,_,h,_=>absurd h (by omega)
 | m+1,j,_,acc,rfl,az,hm,cu=>by
   have aq:S.length≤1000:=Nat.le_trans (HV aP cg) (by have:=p8.len;omega);rw [I2];by_cases h:(j:Int)<(S.length:Int)
   ·(have o2:j<S.length:=by omega);have hlen:(if acc=[] then (GC b S at_ S[j]).take 1 else acc).length≤1:=by
     split
     ·rw [List.length_take];omega
     ·exact cu
    rw [if_pos (decide_eq_true h),aji p8 cg aP o2 cu,rq j (by omega),Y3 p8 cg aP m (j+1) _ _ rfl (by omega) (by omega) hlen];congr 1;rw [List.drop_eq_getElem_cons o2,List.flatMap_cons];by_cases aT:acc=[]
    ·rw [if_pos aT,if_pos aT]
     match GC b S at_ S[j] with
     | []=>rfl
     | p::r=>rfl
    ·rw [if_neg aT,if_neg aT,if_neg aT]
   ·rw [if_neg (by simpa using h),List.drop_eq_nil_of_le (by omega)];congr 1;split
    ·rename_i aT;rw [aT];rfl
    ·rfl
theorem Y2 (p8:qJ b) {k:Row→Option (Row×Int)} (av:∀ out,k out=some (out,0)):∀ (m n:Nat) (S:List Int) (out:Row) (at_:Int),S.length<n→n<m→rm b S→S.Nodup→out.length+S.length≤1000→KW b k m S out at_=some (IV b n S out at_,0)
 | 0,_,_,_,_,_,h,_,_,_=>absurd h (by omega)
 | m+1,0,_,_,_,h,_,_,_,_=>absurd h (by omega)
 | m+1,n+1,S,out,at_,VN,hm,cg,aP,ar=>by
   rw [KW,IV];by_cases aT:S=[]
   ·subst aT;rw [if_neg (by simp),av];rfl
   ·have aq:S.length≤1000:=Nat.le_trans (HV aP cg) (by have:=p8.len;omega);rw [if_pos (by simpa using List.length_pos_iff.2 aT),Y3 p8 cg aP p' 0 0 [] rfl (by omega) (ru (by omega)) (by simp),if_pos rfl,List.drop_zero];rw [show S.flatMap (GC b S at_)=Gj b S at_ from rfl];cases he:Gj b S at_ with
    | nil=>rfl
    | cons p r =>
      have aD:=MX.1 (show p∈Gj b S at_ by rw [he];simp);have Ko:=cg _ aD.1;have cF:Ge b p=false:=KB.2 ⟨Ko.1,Ko.2,by omega,by omega⟩;have aY:=(Nv aP aD.1).length_eq;rw [List.length_cons] at aY;have e1:(p::r).take 1=[p]:=rfl;have cd:ix [p] (0:Int)=p:=rfl;rw [e1,if_neg (by simp),qp (by simp),qp (by omega),qp (by simp),cd,TD aq,Option.bind_some,qp (by simp),NM cF,Option.bind_some];exact Y2 p8 av m n (rE S p.1) (out++[p]) (fin b p) (by omega) (by omega) (JU cg _) (KD aP _) (by simp;omega)
def F8 (b:qb):Int:=if q9 b≠0 then q9 b else if b.2.length=0 then 5 else if 1<G' b then 27 else 0
def Jl (b:qb):Row×Int:=if F8 b≠0 then ([],F8 b) else (Gn b,0)
theorem Zx (ag:b.2.length≤1000):K_ b=some (F8 b):=by
 rw [K_,NB b ag,Option.bind_some];unfold F8;by_cases h:q9 b=0
 ·have p8:=GM.1 h;rw [if_neg (show ¬ decide (q9 b≠0)=true by simp [h]),if_neg (show ¬ q9 b≠0 by simp [h])];by_cases aT:b.2.length=0
  ·rw [if_pos (show decide ((b.2.length:Int)=0)=true by simp [aT]),if_pos aT]
  ·rw [if_neg (show ¬ decide ((b.2.length:Int)=0)=true by simp only [decide_eq_true_eq];omega),if_neg aT,TA p8,Option.bind_some];by_cases ad:1<G' b
   ·rw [if_pos (show decide ((1:Int)<(G' b:Int))=true by simp only [decide_eq_true_eq];omega),if_pos ad]
   ·rw [if_neg (show ¬ decide ((1:Int)<(G' b:Int))=true by simp only [decide_eq_true_eq];omega),if_neg ad]
 ·rw [if_pos (show decide (q9 b≠0)=true by simpa using h),if_pos (show q9 b≠0 from h),Option.bind_some]
theorem LF:F8 b=0↔qJ b∧0<b.2.length∧G' b≤1:=by
 rw [←GM];unfold F8;split
 ·rename_i h;exact ⟨fun e=>absurd e h,fun e=>absurd e.1 h⟩
 ·rename_i h;have h:q9 b=0:=by omega
  split
  ·constructor
   ·intro h;omega
   ·rintro ⟨_,h,_⟩;omega
  ·split
   ·constructor
    ·intro h;omega
    ·rintro ⟨_,_,h⟩;omega
   ·exact ⟨fun _=>⟨h,by omega,by omega⟩,fun _=>rfl⟩
theorem ajd (ag:b.2.length≤1000):NF b=some (Jl b):=by
 rw [NF,Zx ag,Option.bind_some];unfold Jl;by_cases h:F8 b=0
 ·obtain ⟨p8,aT,_⟩:=LF.1 h;have dq:=p8.len;rw [if_neg (show ¬ decide (F8 b≠0)=true by simp [h]),if_neg (show ¬ F8 b≠0 by simp [h])];refine (Y1 ag p' 0 0 rfl (by omega) (ru (by omega))).trans ?_;exact Y2 p8 (fun _=>rfl) p' (b.2.length+1) (upto b.2.length) [] (-1) (by rw [r3];omega) (ru (by omega)) It (Iu _) (by rw [r3];simp;omega)
 ·rw [if_pos (show decide (F8 b≠0)=true by simpa using h),if_pos (show F8 b≠0 from h),Option.bind_some]
end
end Go.Proofs.YtfakoboiahbhaaaGreat.Ab


namespace Go.Proofs.YtfakoboiahbhaaaGreat.Ab
open Go
section
variable {b:qb} {S:List Int}
theorem QE:∀ (r pre:Row),((pre++r).map (·.1)).Nodup→Gv pre r=false
 | [],_,_=>rfl
 | p::r,pre,h=>by
   rw [Gv,if_neg]
   ·exact QE r (pre++[p]) (by simpa using h)
   ·intro al;obtain ⟨q,bl,e⟩:=List.any_eq_true.1 al;have e:=of_decide_eq_true e;rw [List.map_append,List.nodup_append] at h;exact h.2.2 q.1 (List.mem_map_of_mem bl) p.1 (by simp) e
theorem UW (p8:qJ b) {r:Row} {a c:Int} (aT:r≠[]) (b0:∀ p∈r,Hc b p) (aP:(r.map (·.1)).Nodup) (aK:q1 b a r=some c):sn b r=(a,c,0):=by
 unfold sn;rw [if_neg (by rw [GM.2 p8];simp)]
 match r,aT,b0,aP,aK with
 | p::r,_,b0,aP,aK =>
   have ad:((p::r).any (Ge b))=false:=by
    rw [List.any_eq_false];intro q bl;rw [Bool.not_eq_true];exact KB.2 (b0 q bl)
   have af:Gv [] (p::r)=false:=QE _ _ (by simpa using aP);have aH:=(HY.1 aK).1;dsimp only;rw [if_neg (by rw [ad];simp),if_neg (by rw [af];simp),aH,aK]
def N5 (b:qb) (rows:List Row):Int×Int:=if q9 b≠0 then (0,q9 b) else match rows.find? fun r=>decide ((sn b r).2.2≠0) with
 | some r=>(0,(sn b r).2.2)
 | none=>if ((rows.flatten).map (·.1)).Nodup then (if (rows.flatten).length≠b.2.length then (0,15) else (rows.length,0)) else (0,11)
theorem aca (p8:qJ b) {R:List Row} (lj:RowsOf b (upto b.2.length) R) (bY:∀ r∈R,r≠[]):N5 b R=((R.length:Int),0):=by
 have lF:((R.flatten).map (·.1)).Nodup:=lj.all.nodup_iff.2 (Iu _);have aq:=lj.all.length_eq;rw [List.length_map,r3] at aq;unfold N5;have aN:(R.find? fun r=>decide ((sn b r).2.2≠0))=none:=List.find?_eq_none.2 fun r aj=>by
  obtain ⟨a,c,aK⟩:=lj.go r aj;have yw:(r.map (·.1)).Sublist ((R.flatten).map (·.1)):=by
   refine List.Sublist.map _ ?_;obtain ⟨s,t,rfl⟩:=List.append_of_mem aj;simp
  rw [UW p8 (bY r aj) (lj.ok r aj) (yw.nodup lF) aK];simp
 rw [if_neg (by rw [GM.2 p8];simp),aN];simp only;rw [if_pos lF,if_neg (by omega)]
end
end Go.Proofs.YtfakoboiahbhaaaGreat.Ab


namespace Go.Proofs.YtfakoboiahbhaaaGreat.Ab
open Go
set_option maxRecDepth 20000
set_option maxHeartbeats 4000000
noncomputable def PI:eM :=
 .loop (some (DX false [1,2,3,2,57])) (.seq (FY [FN 17 7,FN 18 1,FK 19 18,Fo 20 17 19 .lss] (.cond (.sl 20) .skip (.exit 0))) (.seq (.block 1 (.seq (FT [gO 24 [.sl 2] (.px (.str 2)),FN 25 1,FN 26 7,FH 27 25 26 1,FL 28 27,gO 29 [.ij (.func 19 [] []),.sl 24,.sl 28] (.call 3),FO 23 29,F5 30 23 0,F5 31 23 1,F5 32 23 2,FO 8 30,FO 9 31,FO 10 32]) (.seq (FY [FN 33 10,Fm 34 33 0 .neq] (.cond (.sl 34) (FY [FO 35 10,FM 4 0,FO 5 35] .ret) .skip)) (FR [FO 36 6,FN 37 1,FN 38 7,FH 39 37 38 1,FL 40 39,gO 41 [.hA 36,.hA 40] (.app 2 16),FO 6 41])))) (FR [FO 21 7,Fk 22 21 1,FO 7 22])))
noncomputable def PJ:eM :=
 .loop (some (DX false [1,2,3,1,4,1,53])) (.seq (FY [FN 42 11,FN 43 6,FK 44 43,Fo 45 42 44 .lss] (.cond (.sl 45) .skip (.exit 2))) (.seq (.block 3 (.seq (FT [FN 48 6,FN 49 11,gO 50 [.hA 48,.hA 49] (.Ap 2 false true false),FN 51 6,FN 52 11,FH 53 51 52 2,Fu 54 53 0,FL 55 54,gO 56 [.ij (.func 69 [] []),.sl 50,.sl 55] (.call 3)]) (.cond (.sl 56) (FY [FM 4 0,FM 5 11] .ret) .skip))) (FR [FO 46 11,Fk 47 46 1,FO 11 47])))
noncomputable def ZY:eM :=
 FY [gO 2 [.hA 0] .box,FM 4 0,FM 5 0] (.seq (FY [gO 12 [.sl 2] (.px (.str 2)),gO 13 [.ij (.func 21 [] []),.sl 12] (.call 3),Fm 14 13 0 .neq] (.cond (.sl 14) (FY [gO 15 [.hD 2] (.px (.str 2)),gO 16 [.ij (.func 21 [] []),.sl 15] (.call 3),FM 4 0,FO 5 16] .ret) .skip)) (FY [gO 6 [.ij (.ax [] 0 .full)] (.nil 2)] (.seq (FY [FM 7 0] (.block 0 PI)) (.seq (FY [FM 11 0] (.block 2 PJ)) (.seq (FY [FO 57 6,FK 58 57,Fu 59 2 1,FL 60 59,FK 61 60,Fo 62 58 61 .neq] (.cond (.sl 62) (FY [FM 4 0,FM 5 15] .ret) .skip)) (FY [FO 63 1,FK 64 63,FO 4 64,FM 5 0] .ret))))))
theorem aeN:yQ Tryz.prog NZ 26=some (ZY,65,[.tmp 4,.tmp 5]):=by kernel_rfl
def KT (b:qn) (rows:qP) (qh:qe→Option (Int×Int)):Nat→qe→Int→Option (Int×Int)
 | 0,_,_=>none
 | m+1,s1,s2 =>
   if (decide (s2<(rows.length:Int)))=true then
    qd (0≤s2∧s2<(rows.length:Int)) <|
    (KL b (ix rows s2)).bind fun ew =>
    if (decide (ew.2.2≠(0:Int)))=true then
     some ((0:Int),ew.2.2)
    else
     qd (0≤s2∧s2<(rows.length:Int)) <|
     qd ((s1.length+(ix rows s2).length)*16≤140737488355328) <|
     KT b rows qh m (s1++(ix rows s2)) (w (s2+(1:Int)))
   else
    qh s1
def KU (xt:qe) (qK:Unit→Option (Int×Int)):Nat→Int→Option (Int×Int)
 | 0,_=>none
 | m+1,nL =>
   if (decide (nL<(xt.length:Int)))=true then
    qd (0≤nL∧nL≤(xt.length:Int)) <|
    qd (0≤nL∧nL<(xt.length:Int)) <|
    (L9 (xt.take nL.toNat) ((ix xt nL).1)).bind fun qH =>
    if qH=true then
     some ((0:Int),(11:Int))
    else
     KU xt qK m (w (nL+(1:Int)))
   else
    qK ()
def NC (b:qn) (rows:qP):Option (Int×Int) :=
 (Hq b).bind fun aR =>
 if (decide (aR≠(0:Int)))=true then
  (Hq b).bind fun r2 =>
  some ((0:Int),r2)
 else
  KT b rows (fun xt =>
    KU xt (fun _ =>
      if (decide ((xt.length:Int)≠(b.2.length:Int)))=true then
       some ((0:Int),(15:Int))
      else
       some ((rows.length:Int),(0:Int))) p' (0:Int)) p' ([]:List (Int×Int)) (0:Int)
theorem ai9 {b:qn} {rows:qP} {qh:qe→Option (Int×Int)} {s1:qe} {s2:Int} {v:(Int×Int)} {Q:ra}   (lj:qE [.tmp 4,.tmp 5] Q (fun v=>(.tuple [(hG v.1),(hG v.2)])) v) (rf:∀ (xt:qe) (p_:List I),qh xt=some v→qV 65 [(1,(.ax (rows.map (q_ p6)) rows.length .shared)),(2,(.ptr 0 0)),(6,(qf xt (.uniq 2)))] p_→Q (.exit 0) p_ [qv b]) {T:List I} (bW:eL (DX false [1,2,3,2,57]) T=F2 65 [(1,(.ax (rows.map (q_ p6)) rows.length .shared)),(2,(.ptr 0 0)),(6,(qf s1 (.uniq 2))),(7,(hG s2))]) (h:KT b rows qh p' s1 s2=some v) :
  dB Tryz.prog NZ 26 0 none PI T [qv b] Q:=by
 unfold PI;refine wp_loop bW ?_;refine .intro (fun m T H=>∃ (s1:qe) (s2:Int),T=F2 65 [(1,(.ax (rows.map (q_ p6)) rows.length .shared)),(2,(.ptr 0 0)),(6,(qf s1 (.uniq 2))),(7,(hG s2))]∧H=[qv b]∧KT b rows qh m s1 s2=some v) p' ⟨s1,s2,rfl,rfl,h⟩ ?_;clear h bW;rintro m T H ⟨s1,s2,rfl,rfl,h⟩;cases m
 ·exact q3 h
 rename_i m;rw [KT.eq_2] at h;conv=>whnf
 refine bs h (fun qA h=>?_) fun qA h=>?_
 ·rw [qA];conv=>whnf
  refine qy h id fun qG h=>?_;rw [rA (q_ p6) rows s2 qG];conv=>whnf
  obtain ⟨ew,q7,h⟩:=qi h;refine ⟨qm.pl,_,YQ q7,F7,?_⟩;conv=>whnf
  refine bs h (fun qM h=>?_) fun qM h=>?_
  ·rw [qM];(conv=>whnf);exact qj h lj rfl rfl
  ·rw [qM];(conv=>whnf);refine qy h id fun qI h=>?_;rw [rA (q_ p6) rows s2 qI];(conv=>whnf);obtain ⟨rh,h⟩:=qD h;refine ⟨by first | rfl | (simp;done) | exact r9 p6 _ qz _,by have:=rh;omega,rfl,rh,?_⟩
   erw [UG p6 s1 (ix rows s2)];(conv=>whnf);exact ⟨m,Nat.lt_succ_self m,(s1++(ix rows s2)),(w (s2+(1:Int))),rfl,rfl,h⟩
 ·rw [qA];conv=>whnf
  exact rf _ _ h ⟨rfl,rfl⟩
theorem ai_ {xt:qe} {qK:Unit→Option (Int×Int)} {nL:Int} {b:qn} {rows:qP} {v:(Int×Int)} {Q:ra}   {JA:h9} (lj:qE [.tmp 4,.tmp 5] Q (fun v=>(.tuple [(hG v.1),(hG v.2)])) v) (GL:∀ (p_:List I),qK ()=some v→qV 65 [(1,(.ax (rows.map (q_ p6)) rows.length .shared)),(2,(.ptr 0 0)),(6,(qf xt (.own 2)))] p_→Q (.exit 2) p_ [qv b]) (Re:(JA=(.uniq 2)∨JA=(.own 2))) {T:List I} (bW:eL (DX false [1,2,3,1,4,1,53]) T=F2 65 [(1,(.ax (rows.map (q_ p6)) rows.length .shared)),(2,(.ptr 0 0)),(6,(.ax (xt.flatMap p6) xt.length JA)),(11,(hG nL))]) (h:KU xt qK p' nL=some v) :
  dB Tryz.prog NZ 26 0 none PJ T [qv b] Q:=by
 unfold PJ;refine wp_loop bW ?_;refine .intro (fun m T H=>∃ (nL:Int) (JA:h9),(JA=(.uniq 2)∨JA=(.own 2))∧T=F2 65 [(1,(.ax (rows.map (q_ p6)) rows.length .shared)),(2,(.ptr 0 0)),(6,(.ax (xt.flatMap p6) xt.length JA)),(11,(hG nL))]∧H=[qv b]∧KU xt qK m nL=some v) p' ⟨nL,_,Re,rfl,rfl,h⟩ ?_;clear h bW;rintro m T H ⟨nL,JA,Re,rfl,rfl,h⟩;cases m
 ·exact q3 h
 rename_i m;rw [KU.eq_2] at h;rcases Re with rfl | rfl
 ·conv=>whnf
  refine bs h (fun qS h=>?_) fun qS h=>?_
  ·rw [qS];(conv=>whnf);refine qy h id fun q8 h=>?_;erw [LM p6 2 qz xt nL q8];(conv=>whnf);refine qy h id fun rr h=>?_;rw [qQ p6 2 qz xt nL rr];(conv=>whnf);obtain ⟨qH,ry,h⟩:=qi h;refine ⟨qm.pl,_,Tp ry,F7,?_⟩;(conv=>whnf);cases qH
   ·(conv=>whnf);replace h:=r5 rfl h;exact ⟨m,Nat.lt_succ_self m,(w (nL+(1:Int))),_,(.inr rfl),rfl,rfl,h⟩
   ·(conv=>whnf);replace h:=r4 rfl h;exact qj h lj rfl rfl
  ·rw [qS];(conv=>whnf);exact GL  _ h ⟨rfl,rfl⟩
 ·conv=>whnf
  refine bs h (fun qS h=>?_) fun qS h=>?_
  ·rw [qS];(conv=>whnf);refine qy h id fun q8 h=>?_;erw [LM p6 2 qz xt nL q8];(conv=>whnf);refine qy h id fun rr h=>?_;rw [qQ p6 2 qz xt nL rr];(conv=>whnf);obtain ⟨qH,ry,h⟩:=qi h;refine ⟨qm.pl,_,Tp ry,F7,?_⟩;(conv=>whnf);cases qH
   ·(conv=>whnf);replace h:=r5 rfl h;exact ⟨m,Nat.lt_succ_self m,(w (nL+(1:Int))),_,(.inr rfl),rfl,rfl,h⟩
   ·(conv=>whnf);replace h:=r4 rfl h;exact qj h lj rfl rfl
  ·rw [qS];(conv=>whnf);exact GL  _ h ⟨rfl,rfl⟩
theorem aja {b:qn} {rows:qP} {v:(Int×Int)} (h:NC b rows=some v):qC 26 [(.agg [(hG b.1),(.ax (b.2.flatMap p6) b.2.length .shared)]),(.ax (rows.map (q_ p6)) rows.length .shared)] (.tuple [(hG v.1),(hG v.2)]):=by
 refine qN dD aeN rfl (HX (p5 rfl (p5 rfl rfl))) fun Q bz=>?_;have lj:qE [.tmp 4,.tmp 5] Q (fun v=>(.tuple [(hG v.1),(hG v.2)])) v:=fun T H bJ=>bz _ T H bJ;unfold NC at h;unfold ZY;obtain ⟨Gi,qF⟩:∃ c,PI=c:=⟨_,rfl⟩;rw [qF];obtain ⟨IG,rR⟩:∃ c,PJ=c:=⟨_,rfl⟩;rw [rR];conv=>whnf
 obtain ⟨aR,eQ,h⟩:=qi h;refine ⟨qm.pl,_,I1 eQ,?_⟩;conv=>whnf
 refine bs h (fun fi h=>?_) fun fi h=>?_
 ·rw [fi];conv=>whnf
  obtain ⟨r2,qu,h⟩:=qi h;refine ⟨qm.pl,_,I1 qu,?_⟩;conv=>whnf
  exact qj h lj rfl rfl
 ·rw [fi];conv=>whnf
  subst qF;refine ai9 ?_ ?_ (by exact rfl) h
  ·exact fun T H bJ=>lj T H bJ
  ·intro xt p_ h qt;obtain ⟨qT,rfl⟩:=qt.ex;(conv=>whnf);subst rR;refine ai_ ?_ ?_ (.inl rfl) (by exact rfl) h
   ·exact fun T H bJ=>lj T H bJ
   ·intro  p_ h qt;obtain ⟨qT,rfl⟩:=qt.ex;(conv=>whnf);refine bs h (fun r1 h=>?_) fun r1 h=>?_
    ·rw [r1];(conv=>whnf);exact qj h lj rfl rfl
    ·rw [r1];(conv=>whnf);exact qj h lj rfl rfl

noncomputable def PH:eM :=
 .loop (some (DX false [0,1,2,2,17])) (.seq (FY [FN 7 4,FN 8 0,FK 9 8,Fo 10 7 9 .lss] (.cond (.sl 10) .skip (.exit 0))) (.seq (.block 1 (FR [FO 13 3,FN 14 0,FN 15 4,FH 16 14 15 1,FL 17 16,FK 18 17,gO 19 [.hA 13,.hA 18] .max,FO 3 19])) (FR [FO 11 4,Fk 12 11 1,FO 4 12])))
noncomputable def ZX:eM :=
 FY [gO 2 [.ij (.bool false)] .iH] (FY [FN 5 0,FK 6 5,FO 3 6] (.seq (FY [FM 4 0] (.block 0 PH)) (FY [FO 20 3,Fm 21 20 14 .gtr,FO 2 21] .ret)))
theorem aeM:yQ Tryz.prog Qi 24=some (ZX,22,[.tmp 2]):=by kernel_rfl
def KS (l:qP) (qh:Int→Option Bool):Nat→Int→Int→Option Bool
 | 0,_,_=>none
 | m+1,s1,s2 =>
   if (decide (s2<(l.length:Int)))=true then
    qd (0≤s2∧s2<(l.length:Int)) <|
    KS l qh m (max s1 ((ix l s2).length:Int)) (w (s2+(1:Int)))
   else
    qh s1
def KR (l:qP):Option Bool :=
 KS l (fun xt =>
   some (decide ((14:Int)<xt))) p' (l.length:Int) (0:Int)
theorem ai6 {l:qP} {qh:Int→Option Bool} {s1:Int} {s2:Int} {v:Bool} {Q:ra}   (rf:∀ (xt:Int) (p_:List I),qh xt=some v→qV 22 [(3,(hG xt))] p_→Q (.exit 0) p_ []) {T:List I} (bW:eL (DX false [0,1,2,2,17]) T=F2 22 [(0,(.ax (l.map (q_ p6)) l.length .shared)),(3,(hG s1)),(4,(hG s2))]) (h:KS l qh p' s1 s2=some v) :
  dB Tryz.prog Qi 24 0 none PH T [] Q:=by
 unfold PH;refine wp_loop bW ?_;refine .intro (fun m T H=>∃ (s1 s2:Int),T=F2 22 [(0,(.ax (l.map (q_ p6)) l.length .shared)),(3,(hG s1)),(4,(hG s2))]∧H=[]∧KS l qh m s1 s2=some v) p' ⟨s1,s2,rfl,rfl,h⟩ ?_;clear h bW;rintro m T H ⟨s1,s2,rfl,rfl,h⟩;cases m
 ·exact q3 h
 rename_i m;rw [KS.eq_2] at h;conv=>whnf
 refine bs h (fun eQ h=>?_) fun eQ h=>?_
 ·rw [eQ];conv=>whnf
  refine qy h id fun fi h=>?_;rw [rA (q_ p6) l s2 fi];conv=>whnf
  exact ⟨m,Nat.lt_succ_self m,(max s1 ((ix l s2).length:Int)),(w (s2+(1:Int))),rfl,rfl,h⟩
 ·rw [eQ];conv=>whnf
  exact rf _ _ h ⟨rfl,rfl⟩
theorem ai7 {l:qP} {v:Bool} (h:KR l=some v):qC 24 [(.ax (l.map (q_ p6)) l.length .shared)] (B v):=by
 refine qN dD aeM rfl rfl fun Q bz=>?_;have lj:qE [.tmp 2] Q (fun v=>(B v)) v:=fun T H bJ=>bz _ T H bJ;unfold KR at h;unfold ZX;obtain ⟨Gi,qF⟩:∃ c,PH=c:=⟨_,rfl⟩;rw [qF];conv=>whnf
 subst qF;refine ai6 ?_ (by exact rfl) h;intro xt p_ h qt;obtain ⟨qT,rfl⟩:=qt.ex;conv=>whnf
 exact qj h lj rfl rfl

end Go.Proofs.YtfakoboiahbhaaaGreat.Ab


namespace Go.Proofs.YtfakoboiahbhaaaGreat.Ab
open Go
set_option maxRecDepth 20000
set_option maxHeartbeats 4000000
end Go.Proofs.YtfakoboiahbhaaaGreat.Ab


namespace Go.Proofs.YtfakoboiahbhaaaGreat.Ab
open Go
section
variable {b:qb}
theorem YW {xt:Row} (bn:xt.length≤100000) (ai:∀ i:Nat,i<xt.length→(xt.take i).length≤1000) {k:Unit→Option (Int×Int)}:∀ (m i:Nat) (z:Int),z=i→i≤xt.length→xt.length-i<m→KU xt k m z=if Gv (xt.take i) (xt.drop i)=true then some (0,11) else k ()
 | 0,_,_,_,_,h=>absurd h (by omega)
 | m+1,i,_,rfl,hi,hm=>by
   rw [KU];by_cases h:(i:Int)<(xt.length:Int)
   ·(have rb:i<xt.length:=by omega);rw [if_pos (decide_eq_true h),qp ⟨by omega,by omega⟩,qp ⟨by omega,h⟩,rn rb,Int.toNat_natCast,Zi _ _ (ai i rb),Option.bind_some,List.drop_eq_getElem_cons rb,Gv];by_cases a2:((xt.take i).any fun q=>decide (q.1=xt[i].1))=true
    ·rw [if_pos a2,if_pos a2,if_pos rfl]
    ·rw [if_neg a2,if_neg a2,rq i (by omega),YW bn ai m (i+1) _ rfl (by omega) (by omega),Jo rb]
   ·rw [if_neg (by simpa using h),List.drop_eq_nil_of_le (by omega),Gv,if_neg (by simp)]
theorem YV (ag:b.2.length≤1000) {rows:List Row} (aj:rows.length≤1000) (Cq:∀ r∈rows,r.length≤1000) {k:Row→Option (Int×Int)}:∀ (m i:Nat) (z:Int) (acc:Row),z=i→i≤rows.length→rows.length-i<m→acc.length≤1000*i →
  KT b rows k m acc z=match (rows.drop i).find? fun r=>decide ((sn b r).2.2≠0) with | some r=>some (0,(sn b r).2.2) | none=>k (acc++(rows.drop i).flatten)
 | 0,_,_,_,_,_,h,_=>absurd h (by omega)
 | m+1,i,_,acc,rfl,hi,hm,cu=>by
   rw [KT];by_cases h:(i:Int)<(rows.length:Int)
   ·(have rb:i<rows.length:=by omega);have aq:=Cq _ (List.getElem_mem rb);rw [if_pos (decide_eq_true h),qp ⟨by omega,h⟩,rn rb,YM b _ ag aq,Option.bind_some,List.drop_eq_getElem_cons rb,List.find?_cons];by_cases ak:(sn b rows[i]).2.2≠0
    ·rw [if_pos (decide_eq_true ak),decide_eq_true ak]
    ·rw [if_neg (by simpa using ak),decide_eq_false ak,qp ⟨by omega,h⟩,qp (by omega),rq i (by omega),YV ag aj Cq m (i+1) _ _ rfl (by omega) (by omega) (by rw [List.length_append];omega),List.flatten_cons,List.append_assoc]
   ·rw [if_neg (by simpa using h),List.drop_eq_nil_of_le (by omega)];simp
theorem Vd:∀ {rows:List Row} {n:Nat},(∀ r∈rows,r.length≤n)→rows.flatten.length≤n*rows.length
 | [],_,_=>by simp
 | r::rows,n,h=>by
   have ad:=h r (by simp);have af:=Vd fun q bl=>h q (List.mem_cons_of_mem _ bl);rw [List.flatten_cons,List.length_append,List.length_cons,Nat.mul_add];omega
theorem ai8 (ag:b.2.length≤1000) {rows:List Row} (aj:rows.length≤20) (Cq:∀ r∈rows,r.length≤20):NC b rows=some (N5 b rows):=by
 rw [NC,NB b ag,Option.bind_some];unfold N5;by_cases h:q9 b=0
 ·have oT:=Vd Cq;rw [if_neg (by simp [h]),if_neg (by simp [h]),YV ag (by omega) (fun r aj=>Nat.le_trans (Cq r aj) (by omega)) p' 0 0 [] rfl (by omega) (ru (by omega)) (by simp),List.drop_zero];cases (rows.find? fun r=>decide ((sn b r).2.2≠0)) with
  | some r=>rfl
  | none =>
    simp only [List.nil_append];rw [YW (by omega) (fun i _=>by rw [List.length_take];omega) p' 0 0 rfl (by omega) (ru (by omega)),List.take_zero,List.drop_zero];by_cases aP:(rows.flatten.map (·.1)).Nodup
    ·rw [if_pos aP,QE _ _ (by simpa using aP),if_neg (by simp)];by_cases aq:rows.flatten.length≠b.2.length
     ·rw [if_pos aq,if_pos (show decide ((rows.flatten.length:Int)≠(b.2.length:Int))=true by simp only [decide_eq_true_eq];omega)]
     ·rw [if_neg aq,if_neg (show ¬ decide ((rows.flatten.length:Int)≠(b.2.length:Int))=true by simp only [decide_eq_true_eq];omega)]
    ·rw [if_neg aP]
     have:Gv [] rows.flatten=true:=by
      cases a2:Gv [] rows.flatten with
      | true=>rfl
      | false=>exact absurd (by simpa using QD _ _ a2 (by simp)) aP
     rw [this,if_pos rfl]
 ·rw [if_pos (by simpa using h),if_pos h,Option.bind_some]
theorem YT {l:List Row} (aq:l.length≤100000) {k:Int→Option Bool}:∀ (m i:Nat) (z a:Int),z=i→i≤l.length→l.length-i<m →
  ∃ aO,KS l k m a z=k aO∧(14<aO↔14<a∨∃ r∈l.drop i,14<r.length)
 | 0,_,_,_,_,_,h=>absurd h (by omega)
 | m+1,i,_,a,rfl,hi,hm=>by
   rw [KS];by_cases h:(i:Int)<(l.length:Int)
   ·(have rb:i<l.length:=by omega);rw [if_pos (decide_eq_true h),qp ⟨by omega,h⟩,rn rb,rq i (by omega)];obtain ⟨aO,ad,af⟩:=YT aq (k:=k) m (i+1) _ (max a (l[i].length:Int)) rfl (by omega) (by omega);refine ⟨aO,ad,?_⟩;rw [af,List.drop_eq_getElem_cons rb];constructor
    ·rintro (h | ⟨r,aj,h⟩)
     ·by_cases ak:14<a
      ·exact .inl ak
      ·exact .inr ⟨_,List.mem_cons_self,by omega⟩
     ·exact .inr ⟨r,List.mem_cons_of_mem _ aj,h⟩
    ·rintro (h | ⟨r,aj,h⟩)
     ·exact .inl (by omega)
     ·rcases List.mem_cons.1 aj with rfl | aj
      ·exact .inl (by omega)
      ·exact .inr ⟨r,aj,h⟩
   ·rw [if_neg (by simpa using h),List.drop_eq_nil_of_le (by omega)];exact ⟨a,rfl,by simp⟩
theorem ai5 {l:List Row} (aq:l.length≤100000):∃ r:Bool,KR l=some r∧(r=true↔14<l.length∨∃ q∈l,14<q.length):=by
 rw [KR];obtain ⟨aO,ad,af⟩:=YT aq (k:=fun xt=>some (decide ((14:Int)<xt))) p' 0 0 (l.length:Int) rfl (by omega) (ru (by omega));refine ⟨_,ad,?_⟩;rw [decide_eq_true_eq,af,List.drop_zero];constructor
 ·rintro (h | h)
  ·exact .inl (by omega)
  ·exact .inr h
 ·rintro (h | h)
  ·exact .inl (by omega)
  ·exact .inr h
theorem YU {l:List Row} (aq:l.length≤14) (h:∀ r∈l,r.length≤14):KR l=some false:=by
 obtain ⟨r,ad,af⟩:=ai5 (l:=l) (by omega);rw [ad];cases r with
 | false=>rfl
 | true =>
   rcases af.1 rfl with aH | ⟨q,bl,aH⟩
   ·omega
   ·have:=h q bl;omega
end
end Go.Proofs.YtfakoboiahbhaaaGreat.Ab


namespace Go.Proofs.YtfakoboiahbhaaaGreat.Ab
open Go
def Qr:c':={ ops:=[[],[],[{},{},{ cx:=[true],mode:=1 }],[],[{},{ cx:=[true] },{ cx:=[true] }],[],[],[],[{},{ cx:=[true] },{},{ cx:=[false,true] }],[{},{},{},{ cx:=[false,true,true],mode:=1 },{ cx:=[true],mode:=2 }],[],[],[{},{ cx:=[true] }],[{},{ cx:=[true] },{ cx:=[true,true] },{},{ cx:=[false,true] }],[{},{},{ mode:=3 },{ cx:=[true] },{},{ cx:=[true] },{ cx:=[true] },{ cx:=[true] }],[{},{ cx:=[true] },{ cx:=[true] },{ cx:=[true] },{},{ cx:=[true,true] },{ cx:=[true,false,true] },{ cx:=[true] },{},{},{ cx:=[true] },{ mode:=3 },{ cx:=[true,true] }],[{ cx:=[true] },{ cx:=[true] },{ cx:=[true] },{ cx:=[true,true] },{ cx:=[true] }],[{ cx:=[true] },{ cx:=[true] }],[{ cx:=[true] },{ cx:=[true] }],[{},{ cx:=[true] },{ cx:=[true] }],[{ cx:=[true] },{ cx:=[true] }],[{ cx:=[true] },{ mode:=3 },{},{ cx:=[false,true] }],[{ cx:=[true] },{},{ cx:=[true] },{ cx:=[true,true] },{ cx:=[true] }],[{ cx:=[true] },{},{ cx:=[false,true,true],mode:=1 },{ cx:=[true] }],[{},{ cx:=[true] },{ mode:=3 },{ cx:=[true] },{},{ cx:=[true] },{ cx:=[true] }],[{ cx:=[true] },{ cx:=[true] }]],hW:=[(0,(DX false [0,1,2,3,75])),(2,(DX false [0,1,2,4,13,3,58])),(4,(DX false [0,1,2,4,1,2,10,3,7,1,50]))] }
noncomputable def WX:eM :=
 FY [gO 5 [] (.xG 0 1 [.int .i64 0] []),FO 6 0,gO 7 [.hA 5,.hA 6] (.app 1 8),FO 2 7] .ret
noncomputable def WW:eM :=
 FY [gO 2 [.ij (.ax [] 0 .full)] (.nil 1)] (.seq (FY [FN 3 0, gO 4 [.hD 3, .ij (.ax [] 0 .full)] (.other (Oper.mk (some 4) (Op.binOp .eql 38 (Operand.tmp 3) (Operand.const (Value.slice none 0 0)) 38) 4 "slices.go:357" (Array.mk [Edge.mk 0 Ground.data]) none) 0)] (.cond (.sl 4) (FY [gO 2 [.ij (.ax [] 0 .full)] (.nil 1)] .ret) .skip)) WX)
theorem aen:yQ Go.Proofs.Tryz.prog Ux 75=some (WW,8,[.tmp 2]):=by kernel_rfl
noncomputable def OX:eM :=
 .jO false [FO 55 6,gO 56 [.hD 11] (.px (.str 2)),gO 57 [.hD 56] (.xG 1 2 [.int .i64 0,.int .i64 0] [0]),gO 58 [.hA 55,.hA 57] (.app 2 16),FO 6 58]
noncomputable def SD:eM :=
 FY [FN 42 5,Fm 43 42 0 .lss,FO 44 43,dZ 45 [.hA 12] 44 false .iH,dZ 46 [.sl 5] 44 false .iH,dZ 47 [.hD 45,.hD 46] 44 false (.bin .eql),gO 48 [.hD 44,.ij (.bool true),.hD 47] .pick,FO 49 48,dZ 50 [.sl 0] 49 true .iH,dZ 51 [.sl 9] 49 true .iH,dZ 52 [.hA 13] 49 true .iH,⟨some 53,[.ij (.func 109 [] []),.sl 50,.sl 51,.sl 52],some (49,true),none,.call 3⟩,gO 54 [.hD 49,.hD 53,.ij (.bool false)] .pick] (.cond (.sl 54) OX .skip)
noncomputable def SE:eM :=
 FY [FN 37 0,gO 38 [.sl 11] (.px (.str 2)),gO 39 [.ij (.func 68 [] []),.sl 37,.sl 38] (.call 3),FO 36 39,F5 40 36 0,gO 41 [.hD 36] (.ext 1),FO 12 40,FO 13 41] SD
noncomputable def SF:eM :=
 FY [gO 33 [.sl 8] (.px .one),FO 34 10,gO 35 [.hD 33,.hD 34] (.build [.int .i64 0,.int .i64 0] [(0,1),(1,1)]),gO 11 [] (.alloc [.int .i64 0,.int .i64 0]),⟨none,[.sl 11,.hA 35],none,none,.st 2⟩] SE
noncomputable def SG:eM :=
 .block 5 (FY [FN 32 30,FO 10 32] SF)
noncomputable def OZ:eM :=
 FY [FM 30 0] (.block 4 (.loop (some (DX false [0,1,2,4,1,2,10,3,7,1,50])) (FY [gO 31 [.sl 30,.ij (.int .i64 2)] (.bin .lss)] (.seq (.cond (.sl 31) .skip (.exit 4)) (.seq SG (FR [Fk 59 30 1,FO 30 59]))))))
noncomputable def SH:eM :=
 FY [FN 26 4, gO 27 [.ij (.func 75 [] []), .sl 26] (.call 0), gO 28 [.sl 8] (.y6 108 0 1), gO 29 [.ij (.func 107 [] []), .hA 27, .hA 28] (.call 1), ⟨some 9, [.hA 29], none, some 29, .other (Oper.mk (some 9) (Op.assign (Operand.tmp 29)) 38 "table.go:204" (Array.mk [Edge.mk 3 Ground.data, Edge.mk 3 Ground.chain, Edge.mk 0 Ground.phase, Edge.mk 1 Ground.phase, Edge.mk 2 Ground.phase, Edge.mk 3 Ground.phase]) none) 2⟩] OZ
noncomputable def SI:eM :=
 .block 3 (FY [gO 24 [.sl 20,.sl 22] (.pq 1),FL 25 24,gO 8 [] (.alloc [.int .i64 0]),⟨none,[.sl 8,.hA 25],none,none,.st 1⟩] SH)
noncomputable def SJ:eM :=
 .jO false [FN 75 0,gO 76 [.hD 14] (.px (.str 2)),gO 77 [.ij (.func 68 [] []),.sl 75,.sl 76] (.call 3),FO 74 77,F5 78 74 0,gO 79 [.hD 74] (.ext 1),FO 5 79]
noncomputable def Sx:eM :=
 FY [FO 71 4,gO 72 [.sl 14] (.y6 112 0 1),gO 73 [.ij (.func 107 [] []),.hA 71,.hA 72] (.call 1),FO 4 73] SJ
noncomputable def Sy:eM :=
 FY [FO 67 3,gO 68 [.sl 14] (.px (.str 2)),gO 69 [.hD 68] (.xG 1 2 [.int .i64 0,.int .i64 0] [0]),gO 70 [.hA 67,.hA 69] (.app 2 16),FO 3 70] Sx
noncomputable def Sz:eM :=
 FY [FO 65 6,gO 66 [.ij (.func 110 [] []),.sl 65,.ij (.func 111 [] [])] (.call 3),gO 14 [] (.alloc [.int .i64 0,.int .i64 0]),⟨none,[.sl 14,.hA 66],none,none,.st 2⟩] Sy
noncomputable def SA:eM :=
 .seq (FY [FN 61 6,FK 62 61,Fm 63 62 0 .eql] (.cond (.sl 63) (FY [FO 64 3,FO 2 64] .ret) .skip)) Sz
noncomputable def OY:eM :=
 .seq (FY [FN 20 4,gO 21 [.sl 20] .pz,FM 22 0] (.block 2 (.loop (some (DX false [0,1,2,4,13,3,58])) (FY [gO 23 [.sl 22,.sl 21] (.bin .lss)] (.seq (.cond (.sl 23) .skip (.exit 2)) (.seq SI (FR [Fk 60 22 1,FO 22 60]))))))) SA
noncomputable def SB:eM :=
 .seq (FY [FN 17 4,FK 18 17,Fm 19 18 0 .gtr] (.cond (.sl 19) .skip (.exit 0))) (.block 1 (FY [gO 6 [.ij (.ax [] 0 .full)] (.nil 2)] OY))
noncomputable def W0:eM :=
 .block 0 (.loop (some (DX false [0,1,2,3,75])) SB)
noncomputable def SC:eM :=
 FY [FN 15 0,gO 16 [.ij (.func 77 [] []),.sl 15] (.call 0),⟨some 4,[.hA 16],none,some 16,.Aw⟩] (FY [FM 5 (-1)] (.seq W0 (FY [FO 80 3,FO 2 80] .ret)))
noncomputable def WZ:eM :=
 FY [gO 2 [.ij (.ax [] 0 .full)] (.nil 2)] (FY [gO 3 [.ij (.ax [] 0 .full)] (.nil 2)] SC)
theorem aep:yQ Go.Proofs.Tryz.prog Qr 85=some (WZ,81,[.tmp 2]):=by kernel_rfl
end Go.Proofs.YtfakoboiahbhaaaGreat.Ab


namespace Go.Proofs.YtfakoboiahbhaaaGreat.Ab
open Go
set_option maxRecDepth 20000
set_option maxHeartbeats 4000000
theorem W5 (z:I):∀ n:Nat,eU n [z]=List.replicate n z
 | 0=>rfl
 | n+1=>by simp [eU,W5 z n,List.replicate_succ]
theorem Xd {H:List au} {id:Nat} (l r:List Int) (h:H[id]?=some (.cells ((l++r).map hG))):rowOf H (.ref id 0 l.length none 1)=some (l.map hG):=by
 simp only [rowOf,h,Nat.zero_add,Nat.mul_one,List.length_map,List.length_append,Nat.le_add_right,if_true,List.drop_zero];rw [List.map_append,List.take_left' (by simp),List.map_map];rfl
theorem UX (lo id off len:Nat) (H:List au) (l:List I) (bF:lo≤id) (ah:H[id]?=some (.cells l)) (h:off+len≤l.length) :
  kB Go.Proofs.Tryz.prog lo #[38] H [.ref id off len none 1]=some (.tuple [],H.set id (.cells (l.take off++List.replicate len (hG 0)++l.drop (off+len)))):=by
 have e1:((#[38]:Array TypeId)[0]?).bind Go.Proofs.Tryz.prog.underlying=some (.slice 3):=by kernel_rfl
 have cd:bQ Go.Proofs.Tryz.prog 3=some 1:=by kernel_rfl
 have dw:zeroCells Go.Proofs.Tryz.prog 3=some [.int .i64 0]:=by kernel_rfl
 have oh:setCells off (eU len [I.int .i64 0]) l=l.take off++List.replicate len (hG 0)++l.drop (off+len):=by
  apply List.ext_getElem?;intro j;rw [nM _ _ _ _ (by rw [h3];simp;omega),h3,W5];simp only [List.length_singleton,Nat.mul_one];by_cases az:j<off
  ·rw [if_neg (by omega),List.append_assoc,List.getElem?_append_left (by simp;omega),List.getElem?_take_of_lt az]
  ·by_cases fj:j<off+len
   ·rw [if_pos ⟨by omega,fj⟩,List.getElem?_append_left (by simp;omega),List.getElem?_append_right (by simp;omega),List.getElem?_replicate,List.getElem?_replicate,List.length_take,if_pos (by omega),if_pos (by omega)]
   ·rw [if_neg (by omega),List.getElem?_append_right (by simp;omega),List.getElem?_drop];congr 1;simp;omega
 unfold kB;simp only [e1,cd,dw,g5,ah,Option.map_some,if_pos bF];rw [if_pos ⟨trivial,rfl,by decide⟩,if_pos (by omega),oh];rfl
theorem UM (A cur rest:List Int) (x:Nat) (h:A.length≤x) (al:x<cur.length):((A++cur.drop A.length++rest).map hG)[x]?=some (hG (cur.getD x 0)):=by
 rw [List.getElem?_map,List.getElem?_append_left (by simp;omega),List.getElem?_append_right h,List.getElem?_drop,show A.length+(x-A.length)=x by omega,List.getElem?_eq_getElem al];simp [al]
theorem Xm (cur rest A:List Int) (v:Int) (h:A.length<cur.length):((A++cur.drop A.length++rest).map hG).set A.length (hG v)=((A++[v])++cur.drop (A++[v]).length++rest).map hG:=by
 rw [List.append_assoc,List.map_append,List.set_append_right _ _ (by simp),List.length_map,Nat.sub_self,List.drop_eq_getElem_cons h,List.cons_append,List.map_cons,List.set_cons_zero];simp
theorem O4 {X:List au} {id:Nat} (l r:List Int) (h:X[id]?=some (.cells ((l++r).map hG))):h6 X (.ref id 0 l.length none 1)=i' l:=by
 simp only [h6,hz,jU,Xd l r h];rfl
theorem O3 {X:List au} {Gk:FuncId} {sd cs:List I} (h:sd.map (hz X)=cs):h6 X (.func Gk [] sd)=.func Gk [] cs:=by
 simp only [h6,List.map_nil];rw [←h]
theorem YH (s:List Int) (p:Int→Bool) (ai:s.length≤1000):LW s (fun x=>some (p x))=some (posOf p s 0):=by
 have:=Tg (s:=s) (f:=fun x=>some (p x)) (p:=p) (fun _ _=>rfl) (by omega) p' 0 0 rfl (Nat.zero_le _) (ru (by omega));rw [List.drop_zero] at this;rw [LW];exact this
theorem RN (p:Int→Bool):∀ (l:List Int) (i:Nat),(posOf p l i=-1∧∀ x∈l,p x=false)∨∃ k,∃ (h:k<l.length),posOf p l i=((i+k:Nat):Int)∧p l[k]=true∧∀ x∈l.take k,p x=false
 | [],i=>.inl ⟨rfl,by simp⟩
 | x::l,i=>by
   by_cases al:p x=true
   ·exact .inr ⟨0,by simp,by simp [posOf,al],al,by simp⟩
   ·rcases RN p l (i+1) with ⟨ad,af⟩ | ⟨k,h,ad,af,aH⟩
    ·exact .inl ⟨by rw [posOf,if_neg al];exact ad,fun y aZ=>(List.mem_cons.1 aZ).elim (fun e=>by rw [e];simpa using al) (af y)⟩
    ·refine .inr ⟨k+1,by simp;omega,by rw [posOf,if_neg al,ad];omega,by simpa using af,?_⟩;intro y aZ;rw [List.take_succ_cons] at aZ;rcases List.mem_cons.1 aZ with rfl | aZ
     ·simpa using al
     ·exact aH y aZ
section
variable {id lo:Nat} {H:List au} {Gk:FuncId} {sd cs:List I} {p:Int→Bool} {cur rest:List Int}
theorem acj (bF:lo≤id) (aN:∀ c:au,sd.map (h6 (H.set id c))=cs) (BK:sd.map (hz H)=cs) (Jf:sg cs) (ak:cur.length≤1000) (av:∀ x,qC Gk (hG x::cs) (B (p x))) (ah:H[id]?=some (.cells ((cur++rest).map hG))) :
  Sem Go.Proofs.Tryz.prog (.fn 107) [.ref id 0 cur.length none 1,.func Gk [] sd] H lo (.ref id 0 (cur.filter fun x=>!p x).length none 1) (H.set id (.cells ((cur.filter (fun x=>!p x)++List.replicate (cur.length-(cur.filter fun x=>!p x).length) 0++rest).map hG))):=by
 have aE:=(List.getElem?_eq_some_iff.1 ah).1;have gs:∀ c:au,(H.set id c)[id]?=some c:=fun c=>by rw [List.getElem?_set_self aE]
 have same:H.set id (.cells ((cur++rest).map hG))=H:=by
  obtain ⟨ad,af⟩:=List.getElem?_eq_some_iff.1 ah;rw [←af,List.set_getElem_self]
 refine G0 dD V6 rfl ⟨by simp,fun j ad af=>by rw [List.getElem?_set_ne (by omega)]⟩ fun Q bz=>?_;unfold Sa Sc;obtain ⟨mC,GG⟩:∃ c,No=c:=⟨_,rfl⟩;rw [GG];conv=>whnf
 refine ⟨_,_,call6 (bs:=i' cur::[.func Gk [] cs]) ?_ ?_ (Th Jf (f:=fun x=>some (p x)) (fun y r aj=>by obtain rfl:=Option.some.inj aj;exact av y) (YH cur p (by omega))) rfl,?_⟩
 ·simp only [List.map_cons,List.map_nil,O4 cur rest ah,O3 BK];show [I.cm (i' cur),I.cm (.func Gk [] cs)]=_;rfl
 ·simp only [List.map_cons,List.map_nil,O4 cur rest ah,O3 BK,List.all_cons,List.all_nil,Jf.M4,Bool.and_true];exact rF (fun _=>rfl) _ _ _
 conv=>whnf
 subst GG;unfold No;obtain ⟨b6,il⟩:∃ c,Nl=c:=⟨_,rfl⟩;obtain ⟨fN,Gw⟩:∃ c,Nn=c:=⟨_,rfl⟩;rw [il,Gw];rcases RN p cur 0 with ⟨aW,aX⟩ | ⟨i,hi,aW,aX,cw⟩
 ·rw [aW];conv=>whnf
  have e:cur.filter (fun x=>!p x)=cur:=List.filter_eq_self.2 fun x al=>by rw [aX x al];rfl
  rw [e,Nat.sub_self,List.replicate_zero,List.append_nil,same] at bz;exact bz _ _ _ ⟨.inr rfl,⟨rfl,fun j o az=>.inr az⟩,rfl⟩
 ·rw [aW,Nat.zero_add];conv=>whnf
  have fP:(cur.take i).filter (fun x=>!p x)=cur.take i:=List.filter_eq_self.2 fun x al=>by rw [cw x al];rfl
  have e1:(cur.take (i+1)).filter (fun x=>!p x)=cur.take i:=by
   rw [List.take_succ_eq_append_getElem hi,List.filter_append,fP];simp [aX]
  rw [rW i (by omega)];refine .intro (fun m T H'=>∃ j,i+1≤j∧j≤cur.length∧m=cur.length-j∧((cur.take j).filter (fun x=>!p x)).length+1≤j∧T=F2 42 [(0,.ref id 0 cur.length none 1),(1,.func Gk [] sd),(5,hG ((cur.take j).filter (fun x=>!p x)).length),(6,hG (j:Nat))]∧H'=H.set id (.cells (((cur.take j).filter (fun x=>!p x)++cur.drop ((cur.take j).filter (fun x=>!p x)).length++rest).map hG))) _ ⟨i+1,Nat.le_refl _,hi,rfl,?_,?_,?_⟩ ?_
  ·rw [e1,List.length_take];omega
  ·rw [e1,List.length_take,Nat.min_eq_left (by omega)];rfl
  ·rw [e1,List.length_take,Nat.min_eq_left (by omega),List.take_append_drop];exact same.symm
  rintro m T H' ⟨j,hQ,fj,rfl,hw,rfl,rfl⟩;subst il;unfold Nl Sb;obtain ⟨bm,cp⟩:∃ c,Nk=c:=⟨_,rfl⟩;rw [cp];conv=>whnf
  refine Hj (fun h=>?_) (fun h=>?_)
  ·(have jt:j<cur.length:=by omega);(conv=>whnf);refine ⟨by omega,?_⟩;(conv=>whnf);refine Dj (gs _) ?_;(conv=>whnf);refine Dj (x:=hG (cur.getD j 0)) (by rw [show 0+(j:Int).toNat*1=j by simp];exact UM _ cur rest j (by omega) jt) ?_;(conv=>whnf);subst cp;refine HI fun mw IM=>?_;unfold Nk;obtain ⟨a',cn⟩:∃ c,Nj=c:=⟨_,rfl⟩;rw [cn];(conv=>whnf);refine ⟨_,_,call6 (bs:=hG (cur.getD j 0)::cs) ?_ ?_ (av (cur.getD j 0)) rfl,?_⟩
   ·show (_::sd.map (h6 _)).map I.cm=_;rw [aN,List.map_cons,Jf.cm];rfl
   ·show (_::sd.map (h6 _)).all (cl 8)=true;rw [aN];exact p5 rfl Jf.Lk
   (conv=>whnf);(have QF:cur.getD j 0=cur[j]:=by simp [jt]);have cd:(cur.take (j+1)).filter (fun x=>!p x)=(cur.take j).filter (fun x=>!p x)++if (!p (cur.getD j 0))=true then [cur.getD j 0] else []:=by
    rw [List.take_succ_eq_append_getElem jt,List.filter_append,QF];simp only [List.filter_cons,List.filter_nil]
   cases ag:p (cur.getD j 0) with
   | false =>
     rw [ag,if_pos (show (!false)=true from rfl)] at cd;(conv=>whnf);subst cn;unfold Nj;(conv=>whnf);refine ⟨by omega,?_⟩;(conv=>whnf);rw [show Nat.ble lo id=true from Nat.ble_eq_true_of_le bF];(conv=>whnf);refine Dj (gs _) ?_;(conv=>whnf);refine E7 (by simp;omega) ?_;(conv=>whnf);refine IM _ _ _ ?_;(conv=>whnf);refine ⟨cur.length-(j+1),by omega,j+1,by omega,by omega,rfl,by rw [cd,List.length_append,List.length_singleton];omega,?_,?_⟩
     ·rw [cd,List.length_append,List.length_singleton,←rW j (by omega),←rW ((cur.take j).filter (fun x=>!p x)).length (by omega)];rfl
     ·rw [List.set_set,cd,show 0+(((cur.take j).filter (fun x=>!p x)).length:Int).toNat*1=((cur.take j).filter (fun x=>!p x)).length by simp,Xm cur rest ((cur.take j).filter (fun x=>!p x)) _ (by omega)]
   | true =>
     rw [ag,if_neg (by decide),List.append_nil] at cd;(conv=>whnf);refine IM _ _ _ ?_;(conv=>whnf);refine ⟨cur.length-(j+1),by omega,j+1,by omega,by omega,rfl,by rw [cd];omega,?_,by rw [cd]⟩;rw [cd,←rW j (by omega)];rfl
  ·(obtain rfl:j=cur.length:=by omega);rw [List.take_length] at hw ⊢;(conv=>whnf);subst Gw;unfold Nn;obtain ⟨dQ,Bp⟩:∃ c,Nm=c:=⟨_,rfl⟩;rw [Bp];(conv=>whnf);refine ⟨rfl,⟨by omega,by omega⟩,fun _=>?_,fun h=>absurd h (by omega)⟩;(conv=>whnf);refine ⟨_,_,fun C=>(M1 rfl).trans (UX lo id _ _ _ _ bF (gs _) (by simp <;> omega)),?_⟩;(conv=>whnf);subst Bp;unfold Nm;(conv=>whnf);refine ⟨rfl,⟨by omega,by omega⟩,?_⟩;(conv=>whnf);refine bz _ _ _ ⟨.inr rfl,?_,rfl⟩;rw [List.set_set];generalize cur.filter (fun x=>!p x)=A at hw bz ⊢;have e:(List.take (0+(A.length:Int).toNat*1) ((A++cur.drop A.length++rest).map hG)++List.replicate (cur.length-(A.length:Int).toNat) (hG 0)++List.drop (0+(A.length:Int).toNat*1+(cur.length-(A.length:Int).toNat)) ((A++cur.drop A.length++rest).map hG))=(A++List.replicate (cur.length-A.length) 0++rest).map hG:=by
    rw [show 0+(A.length:Int).toNat*1=A.length by simp,show (A.length:Int).toNat=A.length by simp];rw [←List.map_take,←List.map_drop,List.append_assoc A,List.take_left' rfl,show A.length+(cur.length-A.length)=cur.length by omega,←List.append_assoc,List.drop_left' (by simp;omega)];simp
   rw [e];exact ⟨rfl,fun j o az=>.inr az⟩
theorem acn {ID:List au} (Gx:H=ID++[.cells (cur.map hG)]) (oX:id=ID.length) (aj:rest=[]) (aT:cur.length≠0) (bF:lo≤id) (aN:∀ c:au,sd.map (h6 (H.set id c))=cs) (BK:sd.map (hz H)=cs) (Jf:sg cs) (ak:cur.length≤1000) (av:∀ x,qC Gk (hG x::cs) (B (p x))) :
  Sem Go.Proofs.Tryz.prog (.fn 107) [.ax (cur.map hG) cur.length (.uniq 1),.func Gk [] sd] ID lo (.ref id 0 (cur.filter fun x=>!p x).length none 1) (H.set id (.cells ((cur.filter (fun x=>!p x)++List.replicate (cur.length-(cur.filter fun x=>!p x).length) 0++rest).map hG))):=by
 have ah:H[id]?=some (.cells ((cur++rest).map hG)):=by rw [Gx,oX,aj,List.append_nil];simp
 have aE:=(List.getElem?_eq_some_iff.1 ah).1;have gs:∀ c:au,(H.set id c)[id]?=some c:=fun c=>by rw [List.getElem?_set_self aE]
 have same:H.set id (.cells ((cur++rest).map hG))=H:=by
  obtain ⟨ad,af⟩:=List.getElem?_eq_some_iff.1 ah;rw [←af,List.set_getElem_self]
 refine G0 dD V6 rfl ⟨by rw [Gx];simp,fun j ad af=>by rw [List.getElem?_set_ne (by omega),Gx,List.getElem?_append_left (by omega)]⟩ fun Q bz=>?_;unfold Sa Sc;obtain ⟨mC,GG⟩:∃ c,No=c:=⟨_,rfl⟩;rw [GG];conv=>whnf
 refine .inl ⟨aT,?_⟩;rw [←Gx,←oX];conv=>whnf
 refine ⟨_,_,call6 (bs:=i' cur::[.func Gk [] cs]) ?_ ?_ (Th Jf (f:=fun x=>some (p x)) (fun y r aj=>by obtain rfl:=Option.some.inj aj;exact av y) (YH cur p (by omega))) rfl,?_⟩
 ·simp only [List.map_cons,List.map_nil,O4 cur rest ah,O3 BK];show [I.cm (i' cur),I.cm (.func Gk [] cs)]=_;rfl
 ·simp only [List.map_cons,List.map_nil,O4 cur rest ah,O3 BK,List.all_cons,List.all_nil,Jf.M4,Bool.and_true];exact rF (fun _=>rfl) _ _ _
 conv=>whnf
 subst GG;unfold No;obtain ⟨b6,il⟩:∃ c,Nl=c:=⟨_,rfl⟩;obtain ⟨fN,Gw⟩:∃ c,Nn=c:=⟨_,rfl⟩;rw [il,Gw];rcases RN p cur 0 with ⟨aW,aX⟩ | ⟨i,hi,aW,aX,cw⟩
 ·rw [aW];conv=>whnf
  have e:cur.filter (fun x=>!p x)=cur:=List.filter_eq_self.2 fun x al=>by rw [aX x al];rfl
  rw [e,Nat.sub_self,List.replicate_zero,List.append_nil,same] at bz;exact bz _ _ _ ⟨.inr rfl,⟨rfl,fun j o az=>.inr az⟩,rfl⟩
 ·rw [aW,Nat.zero_add];conv=>whnf
  have fP:(cur.take i).filter (fun x=>!p x)=cur.take i:=List.filter_eq_self.2 fun x al=>by rw [cw x al];rfl
  have e1:(cur.take (i+1)).filter (fun x=>!p x)=cur.take i:=by
   rw [List.take_succ_eq_append_getElem hi,List.filter_append,fP];simp [aX]
  rw [rW i (by omega)];refine .intro (fun m T H'=>∃ j,i+1≤j∧j≤cur.length∧m=cur.length-j∧((cur.take j).filter (fun x=>!p x)).length+1≤j∧T=F2 42 [(0,.ref id 0 cur.length none 1),(1,.func Gk [] sd),(5,hG ((cur.take j).filter (fun x=>!p x)).length),(6,hG (j:Nat))]∧H'=H.set id (.cells (((cur.take j).filter (fun x=>!p x)++cur.drop ((cur.take j).filter (fun x=>!p x)).length++rest).map hG))) _ ⟨i+1,Nat.le_refl _,hi,rfl,?_,?_,?_⟩ ?_
  ·rw [e1,List.length_take];omega
  ·rw [e1,List.length_take,Nat.min_eq_left (by omega)];rfl
  ·rw [e1,List.length_take,Nat.min_eq_left (by omega),List.take_append_drop];exact same.symm
  rintro m T H' ⟨j,hQ,fj,rfl,hw,rfl,rfl⟩;subst il;unfold Nl Sb;obtain ⟨bm,cp⟩:∃ c,Nk=c:=⟨_,rfl⟩;rw [cp];conv=>whnf
  refine Hj (fun h=>?_) (fun h=>?_)
  ·(have jt:j<cur.length:=by omega);(conv=>whnf);refine ⟨by omega,?_⟩;(conv=>whnf);refine Dj (gs _) ?_;(conv=>whnf);refine Dj (x:=hG (cur.getD j 0)) (by rw [show 0+(j:Int).toNat*1=j by simp];exact UM _ cur rest j (by omega) jt) ?_;(conv=>whnf);subst cp;refine HI fun mw IM=>?_;unfold Nk;obtain ⟨a',cn⟩:∃ c,Nj=c:=⟨_,rfl⟩;rw [cn];(conv=>whnf);refine ⟨_,_,call6 (bs:=hG (cur.getD j 0)::cs) ?_ ?_ (av (cur.getD j 0)) rfl,?_⟩
   ·show (_::sd.map (h6 _)).map I.cm=_;rw [aN,List.map_cons,Jf.cm];rfl
   ·show (_::sd.map (h6 _)).all (cl 8)=true;rw [aN];exact p5 rfl Jf.Lk
   (conv=>whnf);(have QF:cur.getD j 0=cur[j]:=by simp [jt]);have cd:(cur.take (j+1)).filter (fun x=>!p x)=(cur.take j).filter (fun x=>!p x)++if (!p (cur.getD j 0))=true then [cur.getD j 0] else []:=by
    rw [List.take_succ_eq_append_getElem jt,List.filter_append,QF];simp only [List.filter_cons,List.filter_nil]
   cases ag:p (cur.getD j 0) with
   | false =>
     rw [ag,if_pos (show (!false)=true from rfl)] at cd;(conv=>whnf);subst cn;unfold Nj;(conv=>whnf);refine ⟨by omega,?_⟩;(conv=>whnf);rw [show Nat.ble lo id=true from Nat.ble_eq_true_of_le bF];(conv=>whnf);refine Dj (gs _) ?_;(conv=>whnf);refine E7 (by simp;omega) ?_;(conv=>whnf);refine IM _ _ _ ?_;(conv=>whnf);refine ⟨cur.length-(j+1),by omega,j+1,by omega,by omega,rfl,by rw [cd,List.length_append,List.length_singleton];omega,?_,?_⟩
     ·rw [cd,List.length_append,List.length_singleton,←rW j (by omega),←rW ((cur.take j).filter (fun x=>!p x)).length (by omega)];rfl
     ·rw [List.set_set,cd,show 0+(((cur.take j).filter (fun x=>!p x)).length:Int).toNat*1=((cur.take j).filter (fun x=>!p x)).length by simp,Xm cur rest ((cur.take j).filter (fun x=>!p x)) _ (by omega)]
   | true =>
     rw [ag,if_neg (by decide),List.append_nil] at cd;(conv=>whnf);refine IM _ _ _ ?_;(conv=>whnf);refine ⟨cur.length-(j+1),by omega,j+1,by omega,by omega,rfl,by rw [cd];omega,?_,by rw [cd]⟩;rw [cd,←rW j (by omega)];rfl
  ·(obtain rfl:j=cur.length:=by omega);rw [List.take_length] at hw ⊢;(conv=>whnf);subst Gw;unfold Nn;obtain ⟨dQ,Bp⟩:∃ c,Nm=c:=⟨_,rfl⟩;rw [Bp];(conv=>whnf);refine ⟨rfl,⟨by omega,by omega⟩,fun _=>?_,fun h=>absurd h (by omega)⟩;(conv=>whnf);refine ⟨_,_,fun C=>(M1 rfl).trans (UX lo id _ _ _ _ bF (gs _) (by simp <;> omega)),?_⟩;(conv=>whnf);subst Bp;unfold Nm;(conv=>whnf);refine ⟨rfl,⟨by omega,by omega⟩,?_⟩;(conv=>whnf);refine bz _ _ _ ⟨.inr rfl,?_,rfl⟩;rw [List.set_set];generalize cur.filter (fun x=>!p x)=A at hw bz ⊢;have e:(List.take (0+(A.length:Int).toNat*1) ((A++cur.drop A.length++rest).map hG)++List.replicate (cur.length-(A.length:Int).toNat) (hG 0)++List.drop (0+(A.length:Int).toNat*1+(cur.length-(A.length:Int).toNat)) ((A++cur.drop A.length++rest).map hG))=(A++List.replicate (cur.length-A.length) 0++rest).map hG:=by
    rw [show 0+(A.length:Int).toNat*1=A.length by simp,show (A.length:Int).toNat=A.length by simp];rw [←List.map_take,←List.map_drop,List.append_assoc A,List.take_left' rfl,show A.length+(cur.length-A.length)=cur.length by omega,←List.append_assoc,List.drop_left' (by simp;omega)];simp
   rw [e];exact ⟨rfl,fun j o az=>.inr az⟩
end

section
variable {id lo:Nat} {H:List au}
theorem ace (l r:List Int) (aT:0<l.length) (aq:l.length≤1000) (ah:H[id]?=some (.cells ((l++r).map hG))) :
  Sem Go.Proofs.Tryz.prog (.fn 75) [.ref id 0 l.length none 1] H lo (.ax (l.map hG) l.length (.uniq 1)) H:=by
 refine G0 dD aen rfl ⟨Nat.le_refl _,fun j _ _=>rfl⟩ fun Q bz=>?_;unfold WW WX;conv=>whnf
 refine ⟨.bool false,H,fun C=>by kernel_rfl,?_⟩;conv=>whnf
 refine Dj ah ?_;conv=>whnf
 refine ⟨by simp,?_⟩;rw [show List.map I.view (List.take (l.length*1) (List.drop 0 (List.map hG (l++r))))=l.map hG by rw [List.drop_zero,Nat.mul_one,List.map_append,List.take_left' (by simp),List.map_map];rfl];conv=>whnf
 refine ⟨by simp,by omega,rfl,by omega,?_⟩;conv=>whnf
 exact bz _ _ _ ⟨.inr rfl,⟨rfl,fun j o az=>.inr az⟩,by rw [Nat.zero_add];rfl⟩
theorem aaL {t:qb} (aT:0<t.2.length) (aq:t.2.length≤1000) :
  Sem Go.Proofs.Tryz.prog (.fn 77) [Gq t] H lo (.ax ((upto t.2.length).map hG) t.2.length (.uniq 1)) H:=by
 refine G0 dD V_ rfl ⟨Nat.le_refl _,fun j _ _=>rfl⟩ fun Q bz=>?_;unfold TH NS;conv=>whnf
 refine .intro (fun m T H'=>∃ i:Nat,i≤t.2.length∧m=t.2.length-i∧T=F2 20 [(3,(.ax ((upto i).map hG) (upto i).length (.uniq 1))),(10,(hG (t.2.length:Int))),(11,(hG (i:Int)))]∧H'=H) _ ⟨0,by omega,rfl,rfl,rfl⟩ ?_;rintro m T H' ⟨i,hi,rfl,rfl,rfl⟩;conv=>whnf
 refine Hj (fun h=>?_) (fun h=>?_)
 ·conv=>whnf
  refine ⟨rfl,by omega,rfl,?_,?_⟩
  ·rw [r3];omega
  erw [Ii hG (upto i) (i:Int)];conv=>whnf
  refine ⟨t.2.length-(i+1),by omega,i+1,by omega,rfl,?_,rfl⟩;rw [←rW i (by omega),KC];rfl
 ·obtain rfl:i=t.2.length:=by omega
  conv=>whnf
  exact bz _ _ _ ⟨.inr rfl,⟨rfl,fun j o az=>.inr az⟩,by rw [r3];rfl⟩
theorem acK {P:Program} {C:cc} {o:Oper} {x:Operand} {l r:List Int} (ar:o.op=.assign x) (bF:lo≤id) (ah:H[id]?=some (.cells ((l++r).map hG))) :
  a6 P C lo o 2 [.ref id 0 l.length none 1] H=some (.ax (l.map hG) l.length .shared,H.set id .dead):=by
 unfold a6;rw [ar];show eK P lo 2 o.type x H [.ref id 0 l.length none 1]=_;unfold eK;simp only [bF,if_true,Xd l r ah,Option.bind_some,lenOf,Option.map_some,gU]
end

noncomputable def Pz:eM :=
 .loop (some (DX false [1,1,2,2,6,3,10])) (FY [gO 15 [.sl 14,.sl 13] (.bin .lss)] (.seq (.cond (.sl 15) .skip (.exit 0)) (.seq (.block 1 (FY [gO 16 [.sl 12,.sl 14] (.pq 2),gO 17 [.hD 16] (.px (.str 2)),gO 7 [] (.alloc [.int .i64 0,.int .i64 0]),⟨none,[.sl 7,.hA 17],none,none,.st 2⟩] (FY [FN 18 1,gO 19 [.sl 7] (.px (.str 2)),gO 20 [.sl 5] (.px (.str 2)),gO 21 [.sl 18,.sl 19,.sl 20] (.call 6)] (.cond (.sl 21) (FR [gO 22 [.hD 7] (.px (.str 2)),⟨none,[.sl 5,.hA 22],none,none,.st 2⟩]) .skip)))) (FR [Fk 23 14 1,FO 14 23]))))
noncomputable def ZJ:eM :=
 FY [gO 4 [] (.alloc [.int .i64 0,.int .i64 0])] (FY [FN 8 0,gO 9 [.hD 8,.ij (.int .i64 0)] (.pq 2),gO 10 [.hD 9] (.px (.str 2)),gO 5 [] (.alloc [.int .i64 0,.int .i64 0]),⟨none,[.sl 5,.hA 10],none,none,.st 2⟩] (.seq (FY [FO 11 0,gO 12 [.hA 11,.ij (.int .i64 1)] (.Ap 2 true false false),gO 13 [.sl 12] .pz,FM 14 0] (.block 0 Pz)) (FY [gO 24 [.hD 5] (.px (.str 2)),⟨none,[.sl 4,.hA 24],none,none,.st 2⟩] .ret)))
theorem aey:yQ Tryz.prog Qd 110=some (ZJ,25,[.cell 4 (.str 2)]):=by kernel_rfl
def JX (l:qe) (better:((Int×Int)→(Int×Int)→Option Bool)) (qh:Int→Int→Option (Int×Int)):Nat→Int→Int→Int→Option (Int×Int)
 | 0,_,_,_=>none
 | m+1,s1,s2,nL =>
   if (decide (s1<((l.drop (1:Int).toNat).length:Int)))=true then
    qd (0≤s1∧s1<((l.drop (1:Int).toNat).length:Int)) <|
    (better (ix (l.drop (1:Int).toNat) s1) (s2,nL)).bind fun aR =>
    if aR=true then
     JX l better qh m (w (s1+(1:Int))) ((ix (l.drop (1:Int).toNat) s1).1) ((ix (l.drop (1:Int).toNat) s1).2)
    else
     JX l better qh m (w (s1+(1:Int))) s2 nL
   else
    qh s2 nL
def Pf (l:qe) (better:((Int×Int)→(Int×Int)→Option Bool)):Option (Int×Int) :=
 qd (0≤(0:Int)∧(0:Int)<(l.length:Int)) <|
 qd (0≤(1:Int)∧(1:Int)≤(l.length:Int)) <|
 JX l better (fun xt n0 =>
   some (xt,n0)) p' (0:Int) ((ix l (0:Int)).1) ((ix l (0:Int)).2)
theorem aiH {l:qe} {better:((Int×Int)→(Int×Int)→Option Bool)} {qh:Int→Int→Option (Int×Int)} {s1:Int} {s2:Int} {nL:Int} {LB:FuncId} {I9:List I} (Lu:sg I9) (Rn:∀ (qR:(Int×Int)) (AH:(Int×Int)) (r:Bool),better qR AH=some r→qC LB ((.agg [(hG qR.1),(hG qR.2)])::(.agg [(hG AH.1),(hG AH.2)])::I9) (B r)) {v:(Int×Int)} {Q:ra}   (rf:∀ (xt n0:Int) (qO:List au) (p_:List I),qh xt n0=some v→qV 25 [(4,(.ptr 0 0)),(5,(.ptr 1 0))] p_→Q (.exit 0) p_ (au.cells [(hG (0:Int)),(hG (0:Int))]::au.cells [(hG xt),(hG n0)]::qO)) {T:List I} (bW:eL (DX false [1,1,2,2,6,3,10]) T=F2 25 [(1,(.func LB [] I9)),(4,(.ptr 0 0)),(5,(.ptr 1 0)),(12,(qf (l.drop (1:Int).toNat) .shared)),(13,(hG ((l.drop (1:Int).toNat).length:Int))),(14,(hG s1))]) (h:JX l better qh p' s1 s2 nL=some v) :
  dB Tryz.prog Qd 110 0 none Pz T [au.cells [(hG (0:Int)),(hG (0:Int))],au.cells [(hG s2),(hG nL)]] Q:=by
 unfold Pz;refine wp_loop bW ?_;refine .intro (fun m T H=>∃ (s1 s2 nL:Int) (TP:List au),T=F2 25 [(1,(.func LB [] I9)),(4,(.ptr 0 0)),(5,(.ptr 1 0)),(12,(qf (l.drop (1:Int).toNat) .shared)),(13,(hG ((l.drop (1:Int).toNat).length:Int))),(14,(hG s1))]∧H=(au.cells [(hG (0:Int)),(hG (0:Int))]::au.cells [(hG s2),(hG nL)]::TP)∧JX l better qh m s1 s2 nL=some v) p' ⟨s1,s2,nL,[],rfl,rfl,h⟩ ?_;clear h bW;rintro m T H ⟨s1,s2,nL,TP,rfl,rfl,h⟩;cases m
 ·exact q3 h
 rename_i m;rw [JX.eq_2] at h;conv=>whnf
 refine bs h (fun qu h=>?_) fun qu h=>?_
 ·rw [qu];conv=>whnf
  refine qy h id fun qA h=>?_;rw [qQ p6 2 qz (l.drop (1:Int).toNat) s1 qA];conv=>whnf
  refine Dj (x:=au.cells [(hG (0:Int)),(hG (0:Int))]) (by first | exact qs.h | rfl | (simp [List.getElem?_append,I.settle];done)) ?_
  conv=>whnf
  rw [rK];refine Dj (x:=au.cells [(hG (ix (l.drop (1:Int).toNat) s1).1),(hG (ix (l.drop (1:Int).toNat) s1).2)]) (by first | exact qs.h | rfl | (simp [List.getElem?_append,I.settle];done)) ?_
  conv=>whnf
  obtain ⟨aR,qG,h⟩:=qi h;refine ⟨_,_,call6 (bs:=((.agg [(hG (ix (l.drop (1:Int).toNat) s1).1),(hG (ix (l.drop (1:Int).toNat) s1).2)])::(.agg [(hG s2),(hG nL)])::I9)) (by simp only [List.map_cons,Lu.h6,Lu.cm];rfl) (by simp only [List.map_cons,Lu.h6];exact (p5 (H8 (p5 rfl (p5 rfl rfl))) (p5 (H8 (p5 rfl (p5 rfl rfl))) Lu.Lk))) (Rn _ _ _ qG) rfl,?_⟩;conv=>whnf
  cases aR
  ·(conv=>whnf);replace h:=r5 rfl h;exact ⟨m,Nat.lt_succ_self m,(w (s1+(1:Int))),s2,nL,_,rfl,rfl,h⟩
  ·(conv=>whnf);replace h:=r4 rfl h;refine Dj (x:=au.cells [(hG (ix (l.drop (1:Int).toNat) s1).1),(hG (ix (l.drop (1:Int).toNat) s1).2)]) (by first | exact qs.h | rfl | (simp [List.getElem?_append,I.settle];done)) ?_
   (conv=>whnf);exact ⟨m,Nat.lt_succ_self m,(w (s1+(1:Int))),(ix (l.drop (1:Int).toNat) s1).1,(ix (l.drop (1:Int).toNat) s1).2,_,rfl,rfl,h⟩
 ·rw [qu];conv=>whnf
  exact rf _ _ _ _ h ⟨rfl,rfl⟩
theorem aiI {l:qe} {better:((Int×Int)→(Int×Int)→Option Bool)} {LB:FuncId} {I9:List I} (Lu:sg I9) (Rn:∀ (qR:(Int×Int)) (AH:(Int×Int)) (r:Bool),better qR AH=some r→qC LB ((.agg [(hG qR.1),(hG qR.2)])::(.agg [(hG AH.1),(hG AH.2)])::I9) (B r)) {v:(Int×Int)} (h:Pf l better=some v):qC 110 [(.ax (l.flatMap p6) l.length .shared),(.func LB [] I9)] (.agg [(hG v.1),(hG v.2)]):=by
 refine qN dD aey rfl (H8 (p5 rfl (p5 rfl rfl))) fun Q bz=>?_;have lj:qE [.cell 4 (.str 2)] Q (fun v=>(.agg [(hG v.1),(hG v.2)])) v:=fun T H bJ=>bz _ T H bJ;unfold Pf at h;unfold ZJ;obtain ⟨Gi,qF⟩:∃ c,Pz=c:=⟨_,rfl⟩;rw [qF];conv=>whnf
 refine qy h id fun eQ h=>?_;rw [qQ p6 2 qz l (0:Int) eQ];conv=>whnf
 refine qy h id fun fi h=>?_;erw [O5 p6 2 qz l (1:Int) fi];conv=>whnf
 subst qF;refine aiH Lu Rn ?_ (by exact rfl) h;intro xt n0 qO p_ h qt;obtain ⟨qT,rfl⟩:=qt.ex;conv=>whnf
 exact qj h lj rfl rfl

noncomputable def ZH:eM :=
 FY [gO 3 [.ij (.bool false)] .iH] (FY [FO 4 0,FL 5 1,Fo 6 4 5 .eql,FO 3 6] .ret)
theorem aew:yQ Tryz.prog TZ 108=some (ZH,7,[.tmp 3]):=by kernel_rfl
def YE (k c0:Int):Option Bool :=
 some (decide (k=c0))
theorem aiF {k:Int} {c0:Int} {v:Bool} (h:YE k c0=some v):qC 108 [(hG k),(.bT [(hG c0)])] (B v):=by
 refine qN dD aew rfl rfl fun Q bz=>?_;have lj:qE [.tmp 3] Q (fun v=>(B v)) v:=fun T H bJ=>bz _ T H bJ;unfold YE at h;unfold ZH;conv=>whnf
 exact qj h lj rfl rfl

noncomputable def ZK:eM :=
 FY [gO 2 [.hA 0] .box,gO 3 [.hA 1] .box,gO 4 [.ij (.bool false)] .iH] (FY [Fu 5 2 0,FL 6 5,Fu 7 3 0,FL 8 7,Fo 9 6 8 .lss,FO 4 9] .ret)
theorem aez:yQ Tryz.prog T1 111=some (ZK,10,[.tmp 4]):=by kernel_rfl
def Nx (x:(Int×Int)) (y:(Int×Int)):Option Bool :=
 some (decide (x.1<y.1))
theorem aiJ {x:(Int×Int)} {y:(Int×Int)} {v:Bool} (h:Nx x y=some v):qC 111 [(.agg [(hG x.1),(hG x.2)]),(.agg [(hG y.1),(hG y.2)])] (B v):=by
 refine qN dD aez rfl rfl fun Q bz=>?_;have lj:qE [.tmp 4] Q (fun v=>(B v)) v:=fun T H bJ=>bz _ T H bJ;unfold Nx at h;unfold ZK;conv=>whnf
 exact qj h lj rfl rfl

noncomputable def ZL:eM :=
 FY [gO 3 [.ij (.bool false)] .iH] (FY [FO 4 0,Fu 5 1 0,FL 6 5,Fo 7 4 6 .eql,FO 3 7] .ret)
theorem aeA:yQ Tryz.prog T2 112=some (ZL,8,[.tmp 3]):=by kernel_rfl
def YG (k:Int) (c0:(Int×Int)):Option Bool :=
 some (decide (k=c0.1))
theorem aiK {k:Int} {c0:(Int×Int)} {v:Bool} (h:YG k c0=some v):qC 112 [(hG k),(.bT [(hG c0.1),(hG c0.2)])] (B v):=by
 refine qN dD aeA rfl rfl fun Q bz=>?_;have lj:qE [.tmp 3] Q (fun v=>(B v)) v:=fun T H bJ=>bz _ T H bJ;unfold YG at h;unfold ZL;conv=>whnf
 exact qj h lj rfl rfl

theorem OO (t:qb):cl 8 (Gq t)=true:=by
 show (([hG t.1,.ax (t.2.flatMap p6) t.2.length .shared]:List I).all (cl 7))=true;exact p5 rfl (p5 (q4 (fun _=>(p5 rfl (p5 rfl rfl))) _ _ _) rfl)
section
variable {t:qb} {S:List Int} {H:List au} {bi k:Nat} {at_ i:Int} {can out:Row} {Pd ahZ ah0:I} {K:cC→List I→List au→Prop}
theorem afC (p8:qJ t) (cg:rm t S) (aP:S.Nodup) (hi:i∈S) (ak:can.length≤1000) (ag:H[bi]?=some (.cells [hG i]))
 (gw:∀ (Y:List au),K .normal (F2 81 [(0,Gq t),(3,.ax (out.flatMap p6) out.length (.uniq 2)),(4,.ref 0 0 S.length none 1),(5,hG at_),(6,.ax ((can++GC t S at_ i).flatMap p6) (can++GC t S at_ i).length (.uniq 2)),(8,.ptr bi 0),(9,.ax ((rE S i).map hG) (rE S i).length .shared),(20,.ref 0 0 S.length none 1),(21,hG S.length),(22,hG (k:Int)),(30,hG 2),(31,B false)]) (H++Y)) :
  dB Tryz.prog Qr 85 0 none OZ (F2 81 [(0,Gq t),(3,.ax (out.flatMap p6) out.length (.uniq 2)),(4,.ref 0 0 S.length none 1),(5,hG at_),(6,.ax (can.flatMap p6) can.length (.uniq 2)),(8,.ptr bi 0),(9,.ax ((rE S i).map hG) (rE S i).length .shared),(20,.ref 0 0 S.length none 1),(21,hG S.length),(22,hG (k:Int)),(23,Pd),(26,ahZ),(29,ah0)]) H K:=by
 have gY:=cg i hi;unfold OZ;obtain ⟨dQ,Bp⟩:∃ c,SG=c:=⟨_,rfl⟩;rw [Bp];conv=>whnf
 refine .intro (fun m T H'=>∃ (e:Nat) (Y:List au),e≤2∧m=2-e∧T=F2 81 [(0,Gq t),(3,.ax (out.flatMap p6) out.length (.uniq 2)),(4,.ref 0 0 S.length none 1),(5,hG at_),(6,.ax ((can++([(i,0),(i,1)].take e).filter (rV t S at_)).flatMap p6) (can++([(i,0),(i,1)].take e).filter (rV t S at_)).length (.uniq 2)),(8,.ptr bi 0),(9,.ax ((rE S i).map hG) (rE S i).length .shared),(20,.ref 0 0 S.length none 1),(21,hG S.length),(22,hG (k:Int)),(30,hG (e:Int))]∧H'=H++Y) 2 ⟨0,[],by omega,rfl,?_,by simp⟩ ?_
 ·rw [List.take_zero,List.filter_nil,List.append_nil];rfl
 rintro m T H' ⟨e,Y,he,rfl,rfl,rfl⟩;conv=>whnf
 refine Hj (fun h=>?_) (fun h=>?_)
 ·subst Bp;unfold SG;obtain ⟨b6,il⟩:∃ c,SF=c:=⟨_,rfl⟩;rw [il];conv=>whnf
  subst il;unfold SF;obtain ⟨bt,ed⟩:∃ c,SE=c:=⟨_,rfl⟩;rw [ed];conv=>whnf
  refine Dj (qU ag) ?_;conv=>whnf
  refine Dj (x:=au.cells [(hG (0:Int)),(hG (0:Int))]) (by first | exact qs.h | rfl | (simp [List.getElem?_append,I.settle];done)) ?_
  conv=>whnf
  rw [rK];subst ed;unfold SE;obtain ⟨bm,cp⟩:∃ c,SD=c:=⟨_,rfl⟩;rw [cp];conv=>whnf
  refine Dj (x:=au.cells [hG i,hG (e:Int)]) (by first | exact qs.h | rfl | (simp [List.getElem?_append,I.settle];done)) ?_
  conv=>whnf
  refine ⟨p5 (OO t) (p5 rfl rfl),_,I3 (Ix (p:=(i,(e:Int))) gY),?_⟩;conv=>whnf
  subst cp;unfold SD;obtain ⟨a',cn⟩:∃ c,OX=c:=⟨_,rfl⟩;rw [cn];conv=>whnf
  have Hz:KF t (rE S i) (fin t (i,(e:Int)))=some (Hx t (rE S i) (fin t (i,(e:Int)))):=(Od p8 (JU cg i) (KD aP i) _).1;have Cz:∀ q:Bool,rV t S at_ (i,(e:Int))=q→([(i,0),(i,1)].take (e+1)).filter (rV t S at_)=([(i,0),(i,1)].take e).filter (rV t S at_)++if q=true then [(i,(e:Int))] else []:=fun q bl=>by
   subst bl;rcases (show e=0∨e=1 by omega) with rfl | rfl
   ·simp [List.filter_cons]
   ·simp only [List.take_succ_cons,List.take_zero,List.filter_cons,List.filter_nil];split <;> simp
  have Rx:rV t S at_ (i,(e:Int))=true→_:=fun bl=>Cz true bl;have fS:rV t S at_ (i,(e:Int))=false→([(i,0),(i,1)].take (e+1)).filter (rV t S at_)=([(i,0),(i,1)].take e).filter (rV t S at_):=fun bl=>by
   have:=Cz false bl;rw [if_neg (by decide),List.append_nil] at this;exact this
  rw [if_pos rfl] at Rx;have dh:(can++([(i,0),(i,1)].take e).filter (rV t S at_)).length≤1002:=by
   have ad:=List.length_filter_le (rV t S at_) ([(i,0),(i,1)].take e);rw [List.length_take] at ad;simp only [List.length_append,List.length_cons,List.length_nil] at ad ⊢;omega
  rcases Hu (decide (at_<0)) with eQ | eQ
  ·rw [eQ];(conv=>whnf);refine ⟨p5 (OO t) (p5 (rF (fun _=>rfl) _ _ _) (p5 rfl rfl)),_,YF Hz,?_⟩;(conv=>whnf);rcases Hu (Hx t (rE S i) (fin t (i,(e:Int)))) with fi | fi
   ·rw [fi];(have bl:rV t S at_ (i,(e:Int))=true:=by unfold rV;rw [eQ,fi];rfl);(conv=>whnf);subst cn;unfold OX;(conv=>whnf);refine Dj (x:=au.cells [hG i,hG (e:Int)]) (by first | exact qs.h | rfl | (simp [List.getElem?_append,I.settle];done)) ?_
    (conv=>whnf);refine ⟨rfl,by omega,rfl,by omega,?_⟩;erw [F_ p6 _ (i,(e:Int))];(conv=>whnf);exact ⟨2-(e+1),by omega,e+1,Y++[au.cells [hG i,hG (e:Int)]],by omega,rfl,by rw [Rx bl,←List.append_assoc,←rW e (by omega)] <;> rfl,by rw [List.append_assoc] <;> rfl⟩
   ·rw [fi];(have bl:rV t S at_ (i,(e:Int))=false:=by unfold rV;rw [eQ,fi];rfl);(conv=>whnf);exact ⟨2-(e+1),by omega,e+1,Y++[au.cells [hG i,hG (e:Int)]],by omega,rfl,by rw [fS bl,←rW e (by omega)] <;> rfl,by rw [List.append_assoc] <;> rfl⟩
  ·rw [eQ];(conv=>whnf);rcases Hu (decide (qX t (i,(e:Int))=at_)) with qu | qu
   ·rw [qu];(conv=>whnf);refine ⟨p5 (OO t) (p5 (rF (fun _=>rfl) _ _ _) (p5 rfl rfl)),_,YF Hz,?_⟩;(conv=>whnf);rcases Hu (Hx t (rE S i) (fin t (i,(e:Int)))) with fi | fi
    ·rw [fi];(have bl:rV t S at_ (i,(e:Int))=true:=by unfold rV;rw [eQ,fi,qu];rfl);(conv=>whnf);subst cn;unfold OX;(conv=>whnf);refine Dj (x:=au.cells [hG i,hG (e:Int)]) (by first | exact qs.h | rfl | (simp [List.getElem?_append,I.settle];done)) ?_
     (conv=>whnf);refine ⟨rfl,by omega,rfl,by omega,?_⟩;erw [F_ p6 _ (i,(e:Int))];(conv=>whnf);exact ⟨2-(e+1),by omega,e+1,Y++[au.cells [hG i,hG (e:Int)]],by omega,rfl,by rw [Rx bl,←List.append_assoc,←rW e (by omega)] <;> rfl,by rw [List.append_assoc] <;> rfl⟩
    ·rw [fi];(have bl:rV t S at_ (i,(e:Int))=false:=by unfold rV;rw [eQ,fi,qu];rfl);(conv=>whnf);exact ⟨2-(e+1),by omega,e+1,Y++[au.cells [hG i,hG (e:Int)]],by omega,rfl,by rw [fS bl,←rW e (by omega)] <;> rfl,by rw [List.append_assoc] <;> rfl⟩
   ·rw [qu];(have bl:rV t S at_ (i,(e:Int))=false:=by unfold rV;rw [eQ,qu];rfl);(conv=>whnf);exact ⟨2-(e+1),by omega,e+1,Y++[au.cells [hG i,hG (e:Int)]],by omega,rfl,by rw [fS bl,←rW e (by omega)] <;> rfl,by rw [List.append_assoc] <;> rfl⟩
 ·obtain rfl:e=2:=by omega
  conv=>whnf
  exact gw Y
theorem Xo {G:List au} {bi:Nat} {cs:List I} (h:G[bi]?=some (.cells cs)) (aD:(cs.map I.view).map (jU G)=cs):[I.ptr bi 0].map (h6 G)=[.bT cs]:=by
 simp only [List.map_cons,List.map_nil,h6,hz,h,List.drop_zero];rw [aD]
theorem Xp {G:List au} {bi:Nat} {cs:List I} (h:G[bi]?=some (.cells cs)) (aD:(cs.map I.view).map (jU G)=cs):[I.ptr bi 0].map (hz G)=[.bT cs]:=by
 simp only [List.map_cons,List.map_nil,hz,h,List.drop_zero];rw [aD]
theorem UQ {cs:List I} (h:cs.all (cl 6)=true):sg [.bT cs]:=⟨by
 simp only [List.all_cons,List.all_nil,Bool.and_true];show cs.all (cl 6)=true
 exact h,by simp⟩
theorem Yy (S:List Int) (i:Int):(S.filter fun x=>!decide (x=i))=rE S i:=by
 unfold rE;congr 1;funext x;simp
theorem SS (G:List au) (a c:au):(G++[a]).set G.length c=G++[c]:=rK G a c
theorem Qz {b:qb} {S:List Int} {at_:Int}:∀ L:List Int,(L.flatMap (GC b S at_)).length≤2*L.length
 | []=>by simp
 | i::L=>by
   have a9:=Qz (b:=b) (S:=S) (at_:=at_) L;have ad:(GC b S at_ i).length≤2:=List.length_filter_le _ _;rw [List.flatMap_cons,List.length_append,List.length_cons];omega
theorem ab1 {b:qb} {S:List Int} {at_:Int} (ai:S.Pairwise (·<·)):(Gj b S at_).Pairwise fun p q=>p.1≤q.1:=by
 unfold Gj;have ad:∀ i,∀ x∈GC b S at_ i,x.1=i:=fun i x al=>by
  have:=(List.mem_filter.1 al).1;simp only [List.mem_cons,List.not_mem_nil,or_false] at this;rcases this with rfl | rfl <;> rfl
 refine List.pairwise_flatMap.2 ⟨fun i _=>?_,ai.imp fun jn x al y aZ=>?_⟩
 ·exact List.Pairwise.sublist List.filter_sublist (by simp)
 ·rw [ad _ x al,ad _ y aZ];omega
theorem UP {l:Row} (aq:l.length≤1000) {p:Int×Int}:∀ (m i:Nat) (z:Int),z=i→i≤(l.drop 1).length→(l.drop 1).length-i<m→(∀ q∈l.drop 1,p.1≤q.1)→JX l Nx (fun xt n0=>some (xt,n0)) m z p.1 p.2=some p
 | 0,_,_,_,_,h,_=>absurd h (by omega)
 | m+1,i,_,rfl,hi,hm,bl=>by
   rw [JX,show (1:Int).toNat=1 from rfl];by_cases h:(i:Int)<((l.drop 1).length:Int)
   ·(have rb:i<(l.drop 1).length:=by omega);have hle:=bl _ (List.getElem_mem rb);(have FB:(l.drop 1).length≤1000:=by simp;omega);rw [if_pos (decide_eq_true h),qp ⟨by omega,h⟩,rn rb,Nx,Option.bind_some,if_neg (by simp;simpa using hle),rq i (by omega)];exact UP aq m (i+1) _ rfl (by omega) (by omega) bl
   ·rw [if_neg (by simpa using h)]
theorem abV {b:qb} {S:List Int} {at_:Int} (ai:S.Pairwise (·<·)) {p:Int×Int} {r:Row} (h:Gj b S at_=p::r) (aq:(p::r).length≤1000):Pf (Gj b S at_) Nx=some p:=by
 have aj:=ab1 (b:=b) (at_:=at_) ai;rw [h] at aj ⊢;have js:0<(p::r).length:=by simp
 have bl:∀ q∈(p::r).drop 1,p.1≤q.1:=(List.pairwise_cons.1 aj).1;rw [Pf,qp ⟨by omega,by omega⟩,qp ⟨by omega,by omega⟩];have BI:((p::r).drop 1).length≤(p::r).length:=by simp
 exact UP aq p' 0 0 rfl (by omega) (ru (by omega)) bl
theorem afA (p8:qJ t) (cg:rm t S) (ai:S.Pairwise (·<·)) (aT:S≠[]) {Z:List Int} (ah:H[0]?=some (.cells ((S++Z).map hG))) (ar:out.length≤1000)
 (Gy:∀ (bb:List I) (G:List au),Gj t S at_=[]→(jN G bb [.tmp 2]).map g9=some (.ax (out.flatMap p6) out.length (.uniq 2))→K .ret bb G)
 (IM:∀ (p:Int×Int) (r:Row) (Qc:List Int) (P_:List au) (X7 X8 X9 Pd X_ Ya Yb Yc Yd:I),Gj t S at_=p::r→P_[0]?=some (.cells ((rE S p.1++Qc).map hG))→K .normal (F2 81 [(0,Gq t),(3,.ax ((out++[p]).flatMap p6) (out++[p]).length (.uniq 2)),(4,.ref 0 0 (rE S p.1).length none 1),(5,hG (fin t p)),(20,X7),(21,X8),(22,X9),(23,Pd),(63,Ya),(65,X_),(75,Yb),(76,Yc),(78,Yd)]) P_) :
  dB Tryz.prog Qr 85 0 none OY (F2 81 [(0,Gq t),(3,.ax (out.flatMap p6) out.length (.uniq 2)),(4,.ref 0 0 S.length none 1),(5,hG at_),(6,.ax [] 0 (.uniq 2))]) H K:=by
 have aP:S.Nodup:=ai.imp fun h e=>by omega
 have ac0:S.length≤10:=Nat.le_trans (HV aP cg) p8.len;unfold OY;obtain ⟨akp,Vl⟩:∃ c,SA=c:=⟨_,rfl⟩;obtain ⟨mD,Hw⟩:∃ c,SI=c:=⟨_,rfl⟩;rw [Vl,Hw];conv=>whnf
 refine .intro (fun m T H'=>∃ (k:Nat) (Y:List au),k≤S.length∧m=S.length-k∧T=F2 81 [(0,Gq t),(3,.ax (out.flatMap p6) out.length (.uniq 2)),(4,.ref 0 0 S.length none 1),(5,hG at_),(6,.ax (((S.take k).flatMap (GC t S at_)).flatMap p6) ((S.take k).flatMap (GC t S at_)).length (.uniq 2)),(20,.ref 0 0 S.length none 1),(21,hG S.length),(22,hG (k:Int))]∧H'=H++Y) _ ⟨0,[],by omega,rfl,rfl,by simp⟩ ?_;rintro m T H' ⟨k,Y,av,rfl,rfl,rfl⟩;conv=>whnf
 refine Hj (fun h=>?_) (fun h=>?_)
 ·have Ov:k<S.length:=by omega
  subst Hw;unfold SI;obtain ⟨mC,GG⟩:∃ c,SH=c:=⟨_,rfl⟩;rw [GG];conv=>whnf
  refine ⟨by omega,?_⟩;conv=>whnf
  refine Dj (qU ah) ?_;conv=>whnf
  refine Dj (x:=hG S[k]) (by rw [show 0+(k:Int).toNat*1=k by simp,List.map_append,List.getElem?_append_left (by simpa using Ov),List.getElem?_map,List.getElem?_eq_getElem Ov];rfl) ?_;conv=>whnf
  refine Dj (x:=au.cells [(hG (0:Int))]) (by first | exact qs.h | rfl | (simp [List.getElem?_append,I.settle];done)) ?_
  conv=>whnf
  rw [rK];subst GG;unfold SH;obtain ⟨fN,Gw⟩:∃ c,OZ=c:=⟨_,rfl⟩;rw [Gw];conv=>whnf
  refine ⟨_,_,N4 (rF (fun _=>rfl) _ _ _) (ace S Z (by omega) (by omega) (qU (qU ah))),?_⟩;conv=>whnf
  obtain ⟨bi,Lt⟩:∃ bi,bi=(H++Y).length:=⟨_,rfl⟩;obtain ⟨G,Gx⟩:∃ G,G=H++Y++[au.cells [I.int .i64 S[k]]]:=⟨_,rfl⟩;have Lp:G[bi]?=some (.cells [hG S[k]]):=by rw [Gx,Lt];simp
  rw [←Gx,←Lt];have aN:∀ c:au,[I.ptr bi 0].map (h6 ((G++[au.cells (S.map hG)]).set G.length c))=[.bT [hG S[k]]]:=fun c=>by
   rw [SS];exact Xo (qU Lp) rfl
  have BK:[I.ptr bi 0].map (hz (G++[au.cells (S.map hG)]))=[.bT [hG S[k]]]:=Xp (qU Lp) rfl;refine ⟨_,_,G9 (acn (id:=G.length) (rest:=[]) (cur:=S) (p:=fun x=>decide (x=S[k])) rfl rfl rfl (by omega) (Nat.zero_le _) aN BK (UQ rfl) (by omega) fun x=>aiF rfl),?_⟩;rw [SS,Yy];conv=>whnf
  refine ⟨_,_,fun C=>acK (l:=rE S S[k]) (r:=List.replicate (S.length-(rE S S[k]).length) 0++[]) (id:=G.length) (H:=G++[au.cells ((rE S S[k]++List.replicate (S.length-(rE S S[k]).length) 0++[]).map hG)]) rfl (Nat.zero_le _) (by simp),?_⟩;rw [SS];conv=>whnf
  subst Gw;refine afC (k:=k) (can:=(S.take k).flatMap (GC t S at_)) (out:=out) (at_:=at_) p8 cg aP (List.getElem_mem Ov) ?_ (qU Lp) fun rL=>?_
  ·have:=Qz (b:=t) (S:=S) (at_:=at_) (S.take k);rw [List.length_take] at this;omega
  conv=>whnf
  have adl:(S.take (k+1)).flatMap (GC t S at_)=(S.take k).flatMap (GC t S at_)++GC t S at_ S[k]:=by
   rw [List.take_succ_eq_append_getElem Ov,List.flatMap_append];simp
  refine ⟨S.length-(k+1),by omega,k+1,Y++[au.cells [I.int .i64 S[k]]]++[au.dead]++rL,by omega,rfl,by rw [adl,←rW k (by omega)] <;> rfl,by rw [Gx];simp only [List.append_assoc]⟩
 ·obtain rfl:k=S.length:=by omega
  conv=>whnf
  rw [List.take_length,show S.flatMap (GC t S at_)=Gj t S at_ from rfl];subst Vl;unfold SA;obtain ⟨ako,Vk⟩:∃ c,Sz=c:=⟨_,rfl⟩;rw [Vk];conv=>whnf
  rcases Hu (decide (((Gj t S at_).length:Int)=0)) with eQ | eQ
  ·rw [eQ];(conv=>whnf);exact Gy _ _ (List.length_eq_zero_iff.1 (by have:=of_decide_eq_true eQ;omega)) rfl
  ·rw [eQ];(conv=>whnf);have eQ:=of_decide_eq_false eQ;obtain ⟨p,r,Kq⟩:∃ p r,Gj t S at_=p::r:=by
    cases e:Gj t S at_ with
    | nil=>rw [e] at eQ;exact absurd rfl eQ
    | cons p r=>exact ⟨p,r,rfl⟩
   have aD:=MX.1 (show p∈Gj t S at_ by rw [Kq];simp);have Ko:=cg p.1 aD.1;subst Vk;unfold Sz;obtain ⟨abY,MB⟩:∃ c,Sy=c:=⟨_,rfl⟩;rw [MB];(conv=>whnf);refine ⟨p5 (q4 (fun _=>(p5 rfl (p5 rfl rfl))) _ _ _) (p5 rfl rfl),_,aiI sg.nil (fun qR AH r h=>aiJ h) (abV ai Kq (by have:=Qz (b:=t) (S:=S) (at_:=at_) S;rw [show S.flatMap (GC t S at_)=Gj t S at_ from rfl,Kq] at this;omega)),?_⟩;(conv=>whnf);refine Dj (x:=au.cells [(hG (0:Int)),(hG (0:Int))]) (by first | exact qs.h | rfl | (simp [List.getElem?_append,I.settle];done)) ?_
   (conv=>whnf);rw [rK];subst MB;unfold Sy;obtain ⟨abX,MA⟩:∃ c,Sx=c:=⟨_,rfl⟩;rw [MA];(conv=>whnf);refine Dj (x:=au.cells [hG p.1,hG p.2]) (by first | exact qs.h | rfl | (simp [List.getElem?_append,I.settle];done)) ?_
   (conv=>whnf);refine ⟨rfl,by omega,rfl,by omega,?_⟩;erw [F_ p6 _ p];(conv=>whnf);subst MA;unfold Sx;obtain ⟨A8,MD⟩:∃ c,SJ=c:=⟨_,rfl⟩;rw [MD];(conv=>whnf);have fA:0<H.length:=(List.getElem?_eq_some_iff.1 ah).1;obtain ⟨bi,Lt⟩:∃ bi,bi=(H++Y).length:=⟨_,rfl⟩;(have adk:bi≠0:=by rw [Lt,List.length_append];omega);obtain ⟨G,Gx⟩:∃ G,G=H++Y++[au.cells [(hG p.1).gS.settle,(hG p.2).gS.settle]]:=⟨_,rfl⟩;(have Lp:G[bi]?=some (.cells [hG p.1,hG p.2]):=by rw [Gx,Lt];simp;exact ⟨rfl,rfl⟩);(have Jb:G[0]?=some (.cells ((S++Z).map hG)):=by rw [Gx];exact qU (qU ah));(have Vw:∀ c:au,(G.set 0 c)[bi]?=some (.cells [hG p.1,hG p.2]):=fun c=>by rw [List.getElem?_set_ne (Ne.symm adk)];exact Lp);rw [←Gx,←Lt];have aN:∀ c:au,[I.ptr bi 0].map (h6 (G.set 0 c))=[.bT [hG p.1,hG p.2]]:=fun c=>Xo (Vw c) rfl;have BK:[I.ptr bi 0].map (hz G)=[.bT [hG p.1,hG p.2]]:=Xp Lp rfl;refine ⟨_,_,G9 (acj (id:=0) (cur:=S) (rest:=Z) (p:=fun x=>decide (x=p.1)) (Nat.zero_le _) aN BK (UQ rfl) (by omega) (fun x=>aiK (c0:=p) rfl) Jb),?_⟩;rw [Yy];(conv=>whnf);subst MD;unfold SJ;(conv=>whnf);refine Dj (Vw _) ?_;(conv=>whnf);refine ⟨p5 (OO t) (p5 rfl rfl),_,I3 (Ix (p:=p) Ko),?_⟩;(conv=>whnf);exact IM p r (List.replicate (S.length-(rE S p.1).length) 0++Z) _ _ _ _ _ _ _ _ _ _ Kq (by rw [←List.append_assoc];exact List.getElem?_set_self (List.getElem?_eq_some_iff.1 Jb).1)
def Pr (t:qb):Option Row:=if q9 t=0∧0<t.2.length then some (Gn t) else none
theorem aj4 {v:Row} (h:Pr t=some v):qC 85 [Gq t] (.ax (v.flatMap p6) v.length .shared):=by
 unfold Pr at h;split at h
 ·rename_i ak;obtain rfl:=Option.some.inj h;have p8:=GM.1 ak.1;have dq:=p8.len;clear h;refine qN dD aep rfl (q4 (fun _=>(p5 rfl (p5 rfl rfl))) _ _ _) fun Q bz=>?_;have lj:∀ T H,HZ [.tmp 2] (.ax ((Gn t).flatMap p6) (Gn t).length .shared) .ret T H→Q .ret T H:=fun T H bJ=>bz _ T H bJ;unfold WZ;obtain ⟨aks,Vo⟩:∃ c,SC=c:=⟨_,rfl⟩;rw [Vo];conv=>whnf
  subst Vo;unfold SC W0;obtain ⟨akr,Vn⟩:∃ c,SB=c:=⟨_,rfl⟩;rw [Vn];conv=>whnf
  refine ⟨_,_,N4 (rF (fun _=>rfl) _ _ _) (aaL ak.2 (by omega)),?_⟩;conv=>whnf
  refine .inl ⟨by omega,?_⟩;conv=>whnf
  refine .intro (fun m T H'=>∃ (S Z:List Int) (out:Row) (at_:Int),S.length<m∧IV t m S out at_=Gn t∧rm t S∧S.Pairwise (·<·)∧out.length+S.length≤10∧T=F2 81 [(0,Gq t),(3,.ax (out.flatMap p6) out.length (.uniq 2)),(4,.ref 0 0 S.length none 1),(5,hG at_)]∧H'[0]?=some (.cells ((S++Z).map hG))) (t.2.length+1) ⟨upto t.2.length,[],[],-1,by rw [r3];omega,rfl,It,S9 _,by rw [r3];simpa using dq,by rw [r3] <;> rfl,by rw [List.append_nil];rfl⟩ ?_;rintro m T H' ⟨S,Z,out,at_,hm,ae,cg,ai,ar,rfl,ah⟩;obtain ⟨m,rfl⟩:∃ g3,m=g3+1:=⟨m-1,by omega⟩;subst Vn;unfold SB;obtain ⟨akq,Vm⟩:∃ c,OY=c:=⟨_,rfl⟩;rw [Vm];conv=>whnf
  rcases Hu (decide ((0:Int)<(S.length:Int))) with eQ | eQ
  ·rw [eQ];(conv=>whnf);subst Vm;(have aT:S≠[]:=fun e=>by rw [e] at eQ;simp at eQ);refine afA (at_:=at_) (out:=out) p8 cg ai aT ah (by omega) ?_ ?_
   ·intro bb G ak aj;(conv=>whnf);(have bc:out=Gn t:=by rw [IV,ak] at ae;exact ae);rw [bc] at aj;obtain ⟨vs,ad,af⟩:=Option.map_eq_some_iff.1 aj;exact lj _ _ ⟨.inr rfl,vs,ad,_,by rw [af];exact ox (q4 (fun _=>(p5 rfl (p5 rfl rfl))) _ _ _),rfl⟩
   ·intro p r Qc P_ X7 X8 X9 Pd X_ Ya Yb Yc Yd Kq Gx;(conv=>whnf);have aD:=(MX.1 (show p∈Gj t S at_ by rw [Kq];simp)).1;(have aP:S.Nodup:=ai.imp fun h e=>by omega);have aY:=(Nv aP aD).length_eq;rw [List.length_cons] at aY;refine ⟨m,by omega,rE S p.1,Qc,out++[p],fin t p,by omega,?_,JU cg _,ai.filter _,by simp only [List.length_append,List.length_singleton];omega,rfl,Gx⟩;rw [IV,Kq] at ae;exact ae
  ·rw [eQ];(conv=>whnf);have aT:S=[]:=List.length_eq_zero_iff.1 (by have:=of_decide_eq_false eQ;omega);(have bc:out=Gn t:=by rw [IV,aT] at ae;exact ae);rw [bc];exact lj _ _ ⟨.inr rfl,_,rfl,_,ox (q4 (fun _=>(p5 rfl (p5 rfl rfl))) _ _ _),rfl⟩
 ·cases h
end

noncomputable def Z1:eM :=
 FY [gO 1 [.hA 0] .box,gO 2 [.ij (.ax [] 0 .full)] (.nil 2),FM 3 0] (FY [gO 7 [.sl 1] (.px (.str 2)),gO 8 [.ij (.func 64 [] []),.sl 7] (.call 3),FO 6 8,F5 9 6 0,gO 10 [.hD 6] (.ext 1),FO 4 9,FO 5 10] (.seq (.block 0 (FY [FN 12 5,Fm 13 12 0 .neq,FO 11 13] (.cond (.sl 11) (FY [FO 14 5,gO 2 [.ij (.ax [] 0 .full)] (.nil 2),FO 3 14] .ret) (FY [Fu 16 1 1,FL 17 16,FK 18 17,Fm 19 18 0 .eql,FO 15 19] (.cond (.sl 15) (FY [gO 2 [.ij (.ax [] 0 .full)] (.nil 2),FM 3 5] .ret) (FY [FN 21 4,gO 22 [.ij (.func 83 [] []),.sl 21] (.call 3),FK 23 22,Fm 24 23 1 .gtr,FO 20 24] (.cond (.sl 20) (FY [gO 2 [.ij (.ax [] 0 .full)] (.nil 2),FM 3 27] .ret) .skip))))))) (FY [FO 25 4,gO 26 [.ij (.func 85 [] []),.sl 25] (.call 3),FO 2 26,FM 3 0] .ret)))
theorem aeQ:yQ Tryz.prog Uh 37=some (Z1,27,[.tmp 2,.tmp 3]):=by kernel_rfl
def L2 (b:qn):Option (qe×Int) :=
 (Iw b).bind fun aR =>
 match aR with
 | (none,aW) =>
   if (decide (aW≠(0:Int)))=true then
    some ([],aW)
   else
    if (decide ((b.2.length:Int)=(0:Int)))=true then
     some ([],(5:Int))
    else
     none
 | (some bP,aW) =>
   if (decide (aW≠(0:Int)))=true then
    some ([],aW)
   else
    if (decide ((b.2.length:Int)=(0:Int)))=true then
     some ([],(5:Int))
    else
     (I4 bP).bind fun r2 =>
     if (decide ((1:Int)<(r2.length:Int)))=true then
      some ([],(27:Int))
     else
      (Pr bP).bind fun ew =>
      some (ew,(0:Int))
theorem Y0 {b:qn} {v:(qe×Int)} (h:L2 b=some v):qC 37 [(.agg [(hG b.1),(.ax (b.2.flatMap p6) b.2.length .shared)])] (.tuple [(.ax (v.1.flatMap p6) v.1.length .shared),(hG v.2)]):=by
 refine qN dD aeQ rfl (HX (p5 (q4 (fun _=>(p5 rfl (p5 rfl rfl))) _ _ _) (p5 rfl rfl))) fun Q bz=>?_;have lj:qE [.tmp 2,.tmp 3] Q (fun v=>(.tuple [(qf v.1 .shared),(hG v.2)])) v:=fun T H bJ=>bz _ T H bJ;unfold L2 at h;unfold Z1;conv=>whnf
 obtain ⟨aR,eQ,h⟩:=qi h;rcases aR with ⟨_ | bP,aW⟩
 ·refine ⟨qm.pl,_,J1 eQ,?_⟩;conv=>whnf
  refine bs h (fun fi h=>?_) fun fi h=>?_
  ·rw [fi];(conv=>whnf);exact qj h lj rfl rfl
  ·rw [fi];(conv=>whnf);refine bs h (fun qu h=>?_) fun qu h=>?_
   ·rw [qu];(conv=>whnf);exact qj h lj rfl rfl
   ·rw [qu];(conv=>whnf);exact q3 h
 ·refine ⟨qm.pl,_,J1 eQ,?_⟩;conv=>whnf
  refine bs h (fun qA h=>?_) fun qA h=>?_
  ·rw [qA];(conv=>whnf);exact qj h lj rfl rfl
  ·rw [qA];(conv=>whnf);refine bs h (fun qG h=>?_) fun qG h=>?_
   ·rw [qG];(conv=>whnf);exact qj h lj rfl rfl
   ·rw [qG];(conv=>whnf);obtain ⟨r2,q7,h⟩:=qi h;refine ⟨qm.pl,_,Tz q7,?_⟩;(conv=>whnf);refine bs h (fun qM h=>?_) fun qM h=>?_
    ·rw [qM];(conv=>whnf);exact qj h lj rfl rfl
    ·rw [qM];(conv=>whnf);obtain ⟨ew,qI,h⟩:=qi h;refine ⟨qm.pl,_,aj4 qI,?_⟩;(conv=>whnf);exact qj h lj rfl rfl
end Go.Proofs.YtfakoboiahbhaaaGreat.Ab
