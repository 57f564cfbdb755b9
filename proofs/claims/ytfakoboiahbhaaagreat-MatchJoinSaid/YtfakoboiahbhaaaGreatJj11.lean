
import Derived.Test.YtfakoboiahbhaaaGreatJj4
import Derived.Test.YtfakoboiahbhaaaGreatJj9
import Derived.KernelRfl
import Derived.Test.YtfakoboiahbhaaaGreatJj8
import Derived.Test.YtfakoboiahbhaaaGreatJj10
set_option linter.unusedSimpArgs false
set_option linter.unusedVariables false
set_option linter.unusedSectionVars false

open Bool renaming and_eq_true→sy
open Int renaming toNat_natCast→tB,toNat_of_nonneg→tb
open List renaming any_eq_true→uw,append_assoc→sj,append_nil→sP,ext_getElem→vK,flatten_append→vQ,getElem_mem→sD,length_cons→sI,length_filter_le→tq,length_map→sZ,map_cons→ss,mem_append→sS,mem_cons→sk,mem_filter→sK,mem_map→sv,mem_singleton→sN,nodup_append→ux,pairwise_cons→tc,perm_ext_iff_of_nodup→uy,take_append_drop→vR,take_length→tQ,take_succ_eq_append_getElem→tX,take_zero→tg
open Nat renaming le_trans→sH,lt_succ_self→sm
open Option renaming bind_some→sb
namespace Go.Proofs.YtfakoboiahbhaaaGreat.Ab
open Go
set_option maxRecDepth 20000
set_option maxHeartbeats 4000000
noncomputable def Rv:ez :=
 .loop (some (Ez false [4,1,1,4,73])) (.seq (Gz [Gn 36 9,Gn 37 4,Gn 38 8,Gh 39 37 38 1,Gl 40 39,Gk 41 40,F1 42 36 41 .lss] (.cond (.sl 42) .skip (.exit 2))) (.seq (.block 3 (Gz [Gn 45 4,Gn 46 8,Gh 47 45 46 1,Gl 48 47,Gn 49 9,Gh 50 48 49 1,Gl 51 50,Gp 10 51] (.seq (Gz [Gn 52 10,F0 53 52 0 .lss,Gp 54 53,cP 55 [.sl 10] 54 false .iQ,cP 56 [.sl 6] 54 false .iQ,cP 57 [.hG 56] 54 false .pV,cP 58 [.hJ 55,.hJ 57] 54 false (.bin .geq),gM 59 [.hJ 54,.iA (.bool true),.hJ 58] .pick,Gp 60 59,cP 61 [.sl 6] 60 false .iQ,cP 62 [.sl 10] 60 false .iQ,cP 63 [.hJ 61,.hJ 62] 60 false (.pM 1),cP 64 [.hJ 63] 60 false (.pT .one),cP 65 [.hJ 64,.iA (.int .i64 0)] 60 false (.bin .gtr),gM 66 [.hJ 60,.iA (.bool true),.hJ 65] .pick] (.cond (.sl 66) (Gz [gM 2 [.iA (.ay [] 0 .full)] (.nil 1),gM 3 [.iA (.bool false)] .iQ] .ret) .skip)) (Gz [Gn 67 6,Gp 68 10,Gh 69 67 68 1,⟨none,[.hG 69,.iA (.int .i64 1)],none,none,.st 1⟩] (Gs [Gp 70 7,FZ 71 70 1,Gp 7 71]))))) (Gs [Gp 43 9,FZ 44 43 1,Gp 9 44])))
noncomputable def Rw:ez :=
 .loop (some (Ez false [4,1,1,3,74])) (.seq (Gz [Gn 30 8,Gn 31 4,Gk 32 31,F1 33 30 32 .lss] (.cond (.sl 33) .skip (.exit 0))) (.seq (.block 1 (.seq (Gz [Gm 9 0] (.block 2 Rv)) (Gz [Gn 72 4,Gn 73 8,Gh 74 72 73 1,Gl 75 74,Gk 76 75,F0 77 76 0 .eql] (.cond (.sl 77) (Gz [gM 2 [.iA (.ay [] 0 .full)] (.nil 1),gM 3 [.iA (.bool false)] .iQ] .ret) .skip)))) (Gs [Gp 34 8,FZ 35 34 1,Gp 8 35])))
noncomputable def abk:ez :=
 Gz [gM 1 [.hG 0] .box,gM 2 [.iA (.ay [] 0 .full)] (.nil 1),gM 3 [.iA (.bool false)] .iQ] (Gz [gM 12 [.sl 1] (.pT (.str 2)),gM 13 [.iA (.func 29 [] []),.sl 12] (.call 3),Gp 11 13,GJ 14 11 0,gM 15 [.hJ 11] (.ext 1),Gp 4 14,Gp 5 15] (.seq (Gz [Gp 16 5,F0 17 16 0 .neq,Gp 18 17,cP 19 [.sl 4] 18 false .iQ,cP 20 [.hG 19] 18 false .pV,cP 21 [.sl 1] 18 false (.oP 1),cP 22 [.hJ 21] 18 false (.pT .one),cP 23 [.hG 22] 18 false .pV,cP 24 [.hJ 20,.hJ 23] 18 false (.bin .gtr),gM 25 [.hJ 18,.iA (.bool true),.hJ 24] .pick] (.cond (.sl 25) (Gz [gM 2 [.iA (.ay [] 0 .full)] (.nil 1),gM 3 [.iA (.bool false)] .iQ] .ret) .skip)) (Gz [F6 26 1 1,Gl 27 26,Gk 28 27,gM 29 [.sl 28,.hJ 28] (.zy [.int .i64 0] 1 8),Gp 6 29] (Gz [Gm 7 0] (.seq (Gz [Gm 8 0] (.block 0 Rw)) (Gz [Gp 78 4,Gp 79 7,Gp 80 6,Gk 81 80,F1 82 79 81 .eql,Gp 2 78,Gp 3 82] .ret))))))
theorem age:zf Tryz.prog PO 49=some (abk,83,[.tmp 2,.tmp 3]):=by kernel_rfl
def Mu (b:qa) (r1:(rf×Int)) (s2:Int) (qB:Int→p5→Option (rf×Bool)):Nat→Int→Int→p5→Option (rf×Bool)
 | 0,_,_,_=>none
 | m+1,Gy,qg,qp =>
   p8 (0≤s2∧s2<(r1.1.length:Int)) <|
   if (decide (qg<((ix r1.1 s2).length:Int)))=true then
    p8 (0≤s2∧s2<(r1.1.length:Int)) <|
    p8 (0≤qg∧qg<((ix r1.1 s2).length:Int)) <|
    if (decide ((ix (ix r1.1 s2) qg)<(0:Int)))=true then
     some ([],false)
    else
     if (decide ((((b.2.length:Int).toNat:Nat):Int)≤(ix (ix r1.1 s2) qg)))=true then
      some ([],false)
     else
      p8 (0≤(ix (ix r1.1 s2) qg)∧(ix (ix r1.1 s2) qg)<(((b.2.length:Int).toNat:Nat):Int)∧(b.2.length:Int).toNat=qp.length) <|
      if (decide ((0:Int)<(ix qp (ix (ix r1.1 s2) qg))))=true then
       some ([],false)
      else
       p8 (0≤(ix (ix r1.1 s2) qg)∧(ix (ix r1.1 s2) qg)<(((b.2.length:Int).toNat:Nat):Int)∧(b.2.length:Int).toNat=qp.length) <|
       Mu b r1 s2 qB m (w (Gy+(1:Int))) (w (qg+(1:Int))) (qp.set (ix (ix r1.1 s2) qg).toNat (1:Int))
   else
    qB Gy qp
def LM (b:qa) (r1:(rf×Int)) (p9:Int→p5→Option (rf×Bool)):Nat→Int→Int→p5→Option (rf×Bool)
 | 0,_,_,_=>none
 | m+1,s1,s2,s3 =>
   if (decide (s2<(r1.1.length:Int)))=true then
    Mu b r1 s2 (fun xZ oi =>
      p8 (0≤s2∧s2<(r1.1.length:Int)) <|
      if (decide (((ix r1.1 s2).length:Int)=(0:Int)))=true then
       some ([],false)
      else
       LM b r1 p9 m xZ (w (s2+(1:Int))) oi) p_ s1 (0:Int) s3
   else
    p9 s1 s3
def Nw (b:qa):Option (rf×Bool) :=
 (Pl b).bind fun r1 =>
 if (decide (r1.2≠(0:Int)))=true then
  some ([],false)
 else
  if (decide ((b.2.length:Int)<(r1.1.length:Int)))=true then
   some ([],false)
  else
   p8 (0≤(b.2.length:Int)∧(b.2.length:Int)≤(b.2.length:Int)∧(b.2.length:Int).toNat*8≤140737488355328) <|
   LM b r1 (fun FW PI =>
     some (r1.1,(decide (FW=(((b.2.length:Int).toNat:Nat):Int))))) p_ (0:Int) (0:Int) (List.replicate (b.2.length:Int).toNat (0:Int))
theorem akR {b:qa} {r1:(rf×Int)} {s2:Int} {qB:Int→p5→Option (rf×Bool)} {Gy:Int} {qg:Int} {qp:p5} {v:(rf×Bool)} {Q:q'} {bA:au}  (jw:qu [.tmp 2,.tmp 3] Q (fun v=>(.tuple [(.ay (v.1.map jh) v.1.length .shared),(B v.2)])) v) (IK:∀ (xZ:Int) (oi:p5) (p6:List I),qB xZ oi=some v→qU 83 [(4,(.ay (r1.1.map jh) r1.1.length .shared)),(6,(.ref 1 0 (b.2.length:Int).toNat (some (b.2.length:Int).toNat) 1)),(7,(hP xZ)),(8,(hP s2))] p6→Q (.exit 2) p6 [bA,au.cells (oi.map hP)]) {T:List I} (bX:eR (Ez false [4,1,1,4,73]) T=GG 83 [(4,(.ay (r1.1.map jh) r1.1.length .shared)),(6,(.ref 1 0 (b.2.length:Int).toNat (some (b.2.length:Int).toNat) 1)),(7,(hP Gy)),(8,(hP s2)),(9,(hP qg))]) (h:Mu b r1 s2 qB p_ Gy qg qp=some v) :
  dC Tryz.prog PO 49 0 none Rv T [bA,au.cells (qp.map hP)] Q:=by
 unfold Rv;refine wp_loop bX ?_;refine .intro (fun m T H=>∃ (Gy qg:Int) (qp:p5),T=GG 83 [(4,(.ay (r1.1.map jh) r1.1.length .shared)),(6,(.ref 1 0 (b.2.length:Int).toNat (some (b.2.length:Int).toNat) 1)),(7,(hP Gy)),(8,(hP s2)),(9,(hP qg))]∧H=[bA,au.cells (qp.map hP)]∧Mu b r1 s2 qB m Gy qg qp=some v) p_ ⟨Gy,qg,qp,rfl,rfl,h⟩ ?_;clear h bX;rintro m T H ⟨Gy,qg,qp,rfl,rfl,h⟩;cases m
 ·exact q7 h
 rename_i m;rw [Mu.eq_2] at h;conv=>whnf
 refine qk h id fun rr h=>?_;rw [rT jh r1.1 s2 rr];conv=>whnf
 refine bs h (fun qN h=>?_) fun qN h=>?_
 ·rw [qN];conv=>whnf
  refine qk h id fun qQ h=>?_;rw [rT jh r1.1 s2 qQ];conv=>whnf
  refine qk h id fun q5 h=>?_;rw [rT hP (ix r1.1 s2) qg q5];conv=>whnf
  refine bs h (fun qV h=>?_) fun qV h=>?_
  ·rw [qV];(conv=>whnf);exact p7 h jw rfl rfl
  ·rw [qV];(conv=>whnf);refine bs h (fun rK h=>?_) fun rK h=>?_
   ·rw [rK];(conv=>whnf);exact p7 h jw rfl rfl
   ·rw [rK];(conv=>whnf);obtain ⟨rj,h⟩:=qn h;refine ⟨⟨rj.1,rj.2.1⟩,?_⟩;replace rj:0≤(ix (ix r1.1 s2) qg)∧(ix (ix r1.1 s2) qg)<(qp.length:Int):=⟨rj.1,by have:=rj.2;omega⟩;(conv=>whnf);refine IL hP qp (ix (ix r1.1 s2) qg) rj ?_;(conv=>whnf);refine bs h (fun rA h=>?_) fun rA h=>?_
    ·rw [rA];(conv=>whnf);exact p7 h jw rfl rfl
    ·rw [rA];(conv=>whnf);obtain ⟨rW,h⟩:=qn h;refine ⟨⟨rW.1,rW.2.1⟩,?_⟩;replace rW:0≤(ix (ix r1.1 s2) qg)∧(ix (ix r1.1 s2) qg)<(qp.length:Int):=⟨rW.1,by have:=rW.2;omega⟩;(conv=>whnf);refine Kq hP qp (ix (ix r1.1 s2) qg) (1:Int) rW ?_;(conv=>whnf);exact ⟨m,sm m,(w (Gy+(1:Int))),(w (qg+(1:Int))),(qp.set (ix (ix r1.1 s2) qg).toNat (1:Int)),rfl,rfl,h⟩
 ·rw [qN];conv=>whnf
  exact IK _ _ _ h ⟨rfl,rfl⟩
theorem akQ {b:qa} {r1:(rf×Int)} {p9:Int→p5→Option (rf×Bool)} {s1:Int} {s2:Int} {s3:p5} {v:(rf×Bool)} {Q:q'} {bA:au}  (jw:qu [.tmp 2,.tmp 3] Q (fun v=>(.tuple [(.ay (v.1.map jh) v.1.length .shared),(B v.2)])) v) (q8:∀ (FW:Int) (PI:p5) (p6:List I),p9 FW PI=some v→qU 83 [(4,(.ay (r1.1.map jh) r1.1.length .shared)),(6,(.ref 1 0 (b.2.length:Int).toNat (some (b.2.length:Int).toNat) 1)),(7,(hP FW))] p6→Q (.exit 0) p6 [bA,au.cells (PI.map hP)]) {T:List I} (bX:eR (Ez false [4,1,1,3,74]) T=GG 83 [(4,(.ay (r1.1.map jh) r1.1.length .shared)),(6,(.ref 1 0 (b.2.length:Int).toNat (some (b.2.length:Int).toNat) 1)),(7,(hP s1)),(8,(hP s2))]) (h:LM b r1 p9 p_ s1 s2 s3=some v) :
  dC Tryz.prog PO 49 0 none Rw T [bA,au.cells (s3.map hP)] Q:=by
 unfold Rw;obtain ⟨Ho,qz⟩:∃ c,Rv=c:=⟨_,rfl⟩;rw [qz];refine wp_loop bX ?_;refine .intro (fun m T H=>∃ (s1 s2:Int) (s3:p5),T=GG 83 [(4,(.ay (r1.1.map jh) r1.1.length .shared)),(6,(.ref 1 0 (b.2.length:Int).toNat (some (b.2.length:Int).toNat) 1)),(7,(hP s1)),(8,(hP s2))]∧H=[bA,au.cells (s3.map hP)]∧LM b r1 p9 m s1 s2 s3=some v) p_ ⟨s1,s2,s3,rfl,rfl,h⟩ ?_;clear h bX;rintro m T H ⟨s1,s2,s3,rfl,rfl,h⟩;cases m
 ·exact q7 h
 rename_i m;rw [LM.eq_2] at h;conv=>whnf
 refine bs h (fun qD h=>?_) fun qD h=>?_
 ·rw [qD];conv=>whnf
  subst qz;refine akR ?_ ?_ (by exact rfl) h
  ·exact fun T H bI=>jw T H bI
  ·intro xZ oi p6 h qh;obtain ⟨qS,rfl⟩:=qh.ex;(conv=>whnf);refine qk h id fun rH h=>?_;rw [rT jh r1.1 s2 rH];(conv=>whnf);refine bs h (fun q9 h=>?_) fun q9 h=>?_
   ·rw [q9];(conv=>whnf);exact p7 h jw rfl rfl
   ·rw [q9];(conv=>whnf);exact ⟨m,sm m,xZ,(w (s2+(1:Int))),oi,rfl,rfl,h⟩
 ·rw [qD];conv=>whnf
  exact q8 _ _ _ h ⟨rfl,rfl⟩
theorem Q7 {b:qa} {v:(rf×Bool)} (h:Nw b=some v):ql 49 [(.agg [(hP b.1),(.ay (b.2.flatMap p1) b.2.length .shared)])] (.tuple [(.ay (v.1.map jh) v.1.length .shared),(B v.2)]):=by
 refine qM dI age rfl (Kl (pY (rp (fun _=>(rp (fun _=>rfl) _ _ _)) _ _ _) (pY rfl rfl))) fun Q bl=>?_;have jw:qu [.tmp 2,.tmp 3] Q (fun v=>(.tuple [(.ay (v.1.map jh) v.1.length .shared),(B v.2)])) v:=fun T H bI=>bl _ T H bI;unfold Nw at h;unfold abk;obtain ⟨J8,rm⟩:∃ c,Rw=c:=⟨_,rfl⟩;rw [rm];conv=>whnf
 obtain ⟨r1,eU,h⟩:=qd h;refine ⟨qj.pl,_,akB eU,?_⟩;conv=>whnf
 refine bs h (fun fk h=>?_) fun fk h=>?_
 ·rw [fk];conv=>whnf
  exact p7 h jw rfl rfl
 ·rw [fk];conv=>whnf
  refine bs h (fun qf h=>?_) fun qf h=>?_
  ·rw [qf];(conv=>whnf);exact p7 h jw rfl rfl
  ·rw [qf];(conv=>whnf);obtain ⟨qo,h⟩:=qn h;refine ⟨qo.1,qo.2.1,qo.2.2,?_⟩;rw [Uy hP (0:Int)];(conv=>whnf);subst rm;refine akQ ?_ ?_ (by exact rfl) h
   ·exact fun T H bI=>jw T H bI
   ·intro FW PI p6 h qh;obtain ⟨qS,rfl⟩:=qh.ex;(conv=>whnf);exact p7 h jw rfl rfl

end Go.Proofs.YtfakoboiahbhaaaGreat.Ab


namespace Go.Proofs.YtfakoboiahbhaaaGreat.Ab
open Go
section
variable {b:p4}
def Js (n:Nat) (S:List Int):List Int:=(upto n).map fun x=>if x∈S then 1 else 0
theorem Nj (n:Nat) (S:List Int):(Js n S).length=n:=by rw [Js,sZ,rF]
theorem aiB {n:Nat} {S:List Int} {x:Int} (h:0≤x∧x<(n:Int)):ix (Js n S) x=if x∈S then 1 else 0:=by
 obtain ⟨i,rfl⟩:∃ i:Nat,x=i:=⟨x.toNat,by omega⟩;have hi:i<n:=by omega
 rw [re (by rw [Nj];exact hi)];simp [Js,upto]
theorem aiC (n:Nat):List.replicate n (0:Int)=Js n []:=by
 refine vK (by rw [Nj];simp) fun i ad af=>?_;simp [Js]
theorem aiD {n:Nat} {S:List Int} {x:Int} (h:0≤x∧x<(n:Int)):(Js n S).set x.toNat 1=Js n (S++[x]):=by
 refine vK (by simp [Nj]) fun i ad af=>?_;rw [List.getElem_set];have hi:i<n:=by rw [Nj] at af;exact af
 simp only [Js,upto,List.getElem_map,List.getElem_range,sS,sN];by_cases e:x.toNat=i
 ·rw [if_pos e,if_pos (.inr (by omega))]
 ·rw [if_neg e];by_cases aG:(i:Int)∈S
  ·rw [if_pos aG,if_pos (.inl aG)]
  ·rw [if_neg aG,if_neg (by rintro (a6 | a6);exact aG a6;omega)]
theorem aao {r1:List (List Int)×Int} {s2:Int} (ai:0≤s2∧s2<(r1.1.length:Int)) {r D:List Int} (aj:ix r1.1 s2=r) (aN:(D++r).Nodup) (gX:q6 b r) (ag:b.2.length≤1000) (qt:D.length≤1000) (C3:r.length≤1000) {k:Int→List Int→Option (List (List Int)×Bool)} :
  ∀ (m i:Nat) (z y:Int),z=((D.length+i:Nat):Int)→y=(i:Int)→i≤r.length→r.length-i<m→Mu b r1 s2 k m z y (Js b.2.length (D++r.take i))=k ((D.length+r.length:Nat):Int) (Js b.2.length (D++r))
 | 0,_,_,_,_,_,_,h=>absurd h (by omega)
 | m+1,i,_,_,rfl,rfl,hi,hm=>by
   rw [Mu,qc ai,aj];by_cases h:(i:Int)<(r.length:Int)
   ·(have ra:i<r.length:=by omega);have al:=gX _ (sD ra);have ae3:r[i] ∉ D++r.take i:=fun hm=>by
     rw [←vR i r,List.drop_eq_getElem_cons ra,←sj] at aN;exact (ux.1 aN).2.2 _ hm _ (List.mem_cons_self ..) rfl
    rw [if_pos (decide_eq_true h),qc ai,qc ⟨by omega,h⟩,re ra,if_neg (by simpa using al.1),if_neg (by simpa using al.2),qc ⟨al.1,by simpa using al.2,by rw [Nj];simp⟩,aiB al,if_neg ae3,if_neg (by simp),qc ⟨al.1,by simpa using al.2,by rw [Nj];simp⟩,aiD al,sj,←tX ra,rz i (by omega),rz (D.length+i) (by omega)];exact aao ai aj aN gX ag qt C3 m (i+1) _ _ rfl rfl (by omega) (by omega)
   ·rw [if_neg (by simpa using h),show i=r.length by omega,tQ]
theorem aan {r1:List (List Int)×Int} {P:List (List Int)} (B_:r1.1=P) (aN:P.flatten.Nodup) (gX:∀ r∈P,q6 b r) (bM:∀ r∈P,r≠[]) (ag:b.2.length≤1000) (ak:P.length≤1000) {k:Int→List Int→Option (List (List Int)×Bool)} :
  ∀ (m i:Nat) (z y:Int),z=(((P.take i).flatten.length:Nat):Int)→y=(i:Int)→i≤P.length→P.length-i<m→LM b r1 k m z y (Js b.2.length (P.take i).flatten)=k ((P.flatten.length:Nat):Int) (Js b.2.length P.flatten)
 | 0,_,_,_,_,_,_,h=>absurd h (by omega)
 | m+1,i,_,_,rfl,rfl,hi,hm=>by
   rw [LM,B_];have Mb:∀ l:List (List Int),(∀ r∈l,q6 b r)→q6 b l.flatten:=fun l ak x al=>by
    obtain ⟨r,aj,al⟩:=List.mem_flatten.1 al;exact ak r aj x al
   by_cases h:(i:Int)<(P.length:Int)
   ·(have ra:i<P.length:=by omega);have ku:=sD ra;(have e:(P.take (i+1)).flatten=(P.take i).flatten++P[i]:=by rw [tX ra,vQ];simp);have jG:((P.take i).flatten++P[i]).Nodup:=by
     rw [←e];refine List.Nodup.sublist ?_ aN;(conv=>rhs;rw [←vR (i+1) P,vQ]);exact List.sublist_append_left _ _
    have qt:(P.take i).flatten.length≤1000:=sH (Nb (ux.1 jG).1 (Mb _ fun r aj=>gX r (List.mem_of_mem_take aj))) ag;have aj:(P[i]).length≤1000:=sH (Nb (ux.1 jG).2.1 (gX _ ku)) ag;rw [if_pos (decide_eq_true h)];have key:=aao (b:=b) (r1:=r1) (s2:=(i:Int)) (D:=(P.take i).flatten) (r:=P[i]) (by rw [B_];exact ⟨by omega,h⟩) (by rw [B_,re ra]) jG (gX _ ku) ag qt aj
     (k:=fun xZ oi=>p8 (0≤(i:Int)∧(i:Int)<(r1.1.length:Int)) <| if (decide (((ix r1.1 (i:Int)).length:Int)=(0:Int)))=true then some ([],false) else LM b r1 k m xZ (w ((i:Int)+(1:Int))) oi) p_ 0 ((P.take i).flatten.length:Int) 0 (by simp) rfl (by omega) (rn (by omega))
    rw [tg,sP,B_] at key;rw [key,qc ⟨by omega,h⟩,re ra,if_neg (by simpa using bM _ ku),rz i (by omega),←e];exact aan B_ aN gX bM ag ak m (i+1) _ _ (by rw [e,List.length_append]) rfl (by omega) (by omega)
   ·rw [if_neg (by simpa using h),show i=P.length by omega,tQ]
theorem Tt (pZ:qm b):(parts b).flatten.Perm (upto b.2.length):=(Ku pZ).2.1.flat (Ju _)
theorem aam (pZ:qm b):Nw b=some (parts b,true):=by
 have hlen:=pZ.len;have SR:=(Ku pZ).2.1.few Kr;have aC:=Tt pZ;have ak:=aC.length_eq;rw [rF] at ak;rw [Nw,akA (by omega),sb,X8 pZ,if_neg (by simp),if_neg (by simp;exact SR),qc ⟨by omega,by omega,by omega⟩];have key:=aan (b:=b) (r1:=(parts b,0)) (P:=parts b) rfl (aC.nodup_iff.2 (Ju _)) (fun r aj=>(ag6 pZ r aj).1) (Ku pZ).2.1.ne (by omega) (by omega)
  (k:=fun FW PI=>some (parts b,(decide (FW=(((b.2.length:Int).toNat:Nat):Int))))) p_ 0 0 0 (by simp) rfl (by omega) (rn (by omega))
 rw [tg,List.flatten_nil,←aiC] at key;rw [tB];refine key.trans ?_;rw [ak,tB,decide_eq_true rfl]
def Tn (b:p4) (done own:Row) (p:Int×Int):Bool:=!(done.any fun q=>decide (q.1=p.1)) && (decide (own=[]) || decide (fin b (own.getD (own.length-1) default)=qy b p))
def XW (b:p4) (done own:Row) (i:Int):Row:=[(i,0),(i,1)].filter (Tn b done own)
def Tl (b:p4) (done own:Row):Row:=(upto b.2.length).flatMap (XW b done own)
theorem agI {done own:Row} {p:Int×Int}:p∈Tl b done own↔Im b p∧Tn b done own p=true:=by
 unfold Tl XW;rw [List.mem_flatMap];constructor
 ·rintro ⟨i,hi,aC⟩;rw [sK] at aC;have:=rL.1 hi;simp only [sk,List.not_mem_nil,or_false] at aC;rcases aC with ⟨rfl | rfl,h⟩
  ·exact ⟨⟨this.1,this.2,by simp,by simp⟩,h⟩
  ·exact ⟨⟨this.1,this.2,by simp,by simp⟩,h⟩
 ·rintro ⟨⟨ad,af,aG,a6⟩,h⟩;refine ⟨p.1,rL.2 ⟨ad,af⟩,sK.2 ⟨?_,h⟩⟩;obtain ⟨x,y⟩:=p;have alP:0≤y:=aG;have alQ:y≤1:=a6;rcases (show y=0∨y=1 by omega) with rfl | rfl <;> simp
structure NS (b:p4) (D own:Row):Prop where
 ok:∀ p∈D++own,Im b p
 r5:((D++own).map (·.1)).Nodup
 go:own=[]∨∃ a,qE b a own=some (fin b (own.getD (own.length-1) default))
theorem NS.len {D own:Row} (h:NS b D own):D.length+own.length≤b.2.length:=by
 have:=Nb h.r5 (n:=b.2.length) fun x al=>by
  obtain ⟨p,aC,rfl⟩:=sv.1 al;exact ⟨(h.ok p aC).1,(h.ok p aC).2.1⟩
 simpa using this
theorem NS.next {D own:Row} (h:NS b D own) {p:Int×Int} (aC:p∈Tl b (D++own) own):NS b D (own++[p]):=by
 obtain ⟨bO,aN⟩:=agI.1 aC;unfold Tn at aN;simp only [sy,Bool.or_eq_true,Bool.not_eq_true',decide_eq_true_eq] at aN;refine ⟨fun q a3=>?_,?_,.inr ?_⟩
 ·rw [←sj] at a3;rcases sS.1 a3 with a3 | a3
  ·exact h.ok q a3
  ·rw [sN.1 a3];exact bO
 ·rw [←sj,List.map_append,ux];refine ⟨h.r5,by simp,fun x al y a0 e=>?_⟩;simp only [ss,List.map_nil,sN] at a0;subst a0;subst e;obtain ⟨q,a3,e⟩:=sv.1 al;have:=List.any_eq_false.1 aN.1 q a3;simp [e] at this
 ·have JS:(own++[p]).getD ((own++[p]).length-1) default=p:=by simp
  rw [JS];rcases aN.2 with aS | aS
  ·subst aS;exact ⟨qy b p,KS.2 ⟨rfl,rfl⟩⟩
  ·by_cases ad:own=[]
   ·subst ad;exact ⟨qy b p,KS.2 ⟨rfl,rfl⟩⟩
   ·rcases h.go with af | ⟨a,af⟩
    ·exact absurd af ad
    ·refine ⟨a,?_⟩;rw [JY,af,sb];exact KS.2 ⟨aS.symm,rfl⟩
section
variable {Wg:List Int} (yA:Wg.length≤1000) (aew:∀ x∈Wg,0≤x∧x≤255)
include yA aew
end
end
end Go.Proofs.YtfakoboiahbhaaaGreat.Ab


namespace Go.Proofs.YtfakoboiahbhaaaGreat.Ab
open Go
set_option maxRecDepth 20000
set_option maxHeartbeats 4000000
section
variable {H:List au} {id lo:Nat}
end

section
variable {H:List au} {lo:Nat}
end

end Go.Proofs.YtfakoboiahbhaaaGreat.Ab


namespace Go.Proofs.YtfakoboiahbhaaaGreat.Ab
open Go
set_option maxRecDepth 20000
set_option maxHeartbeats 4000000

end Go.Proofs.YtfakoboiahbhaaaGreat.Ab


namespace Go.Proofs.YtfakoboiahbhaaaGreat.Ab
open Go
section
variable {b:p4}
end
end Go.Proofs.YtfakoboiahbhaaaGreat.Ab


namespace Go.Proofs.YtfakoboiahbhaaaGreat.Ab
open Go
set_option maxRecDepth 20000
set_option maxHeartbeats 4000000

end Go.Proofs.YtfakoboiahbhaaaGreat.Ab


namespace Go.Proofs.YtfakoboiahbhaaaGreat.Ab
open Go
section
variable {b:p4}
theorem agL (r:List Int):1≤JW b r:=by unfold JW;omega
theorem ag7:(parts b).length≤IV b:=by
 unfold IV;generalize parts b=P
 induction P with
 | nil=>simp
 | cons r P a_ =>
   have:=agL (b:=b) r;rw [ss,List.sum_cons,sI];omega
theorem ag_ (pZ:qm b) (aS:0<b.2.length):parts b≠[]:=fun e=>by
 have:=(Tt pZ).length_eq;rw [e,rF] at this;simp at this;omega
theorem WH (pZ:qm b) (aS:0<b.2.length):IV b≤1↔(parts b).length=1∧(Iy b).length≤2:=by
 have hle:=ag7 (b:=b);have bM:=List.length_pos_iff.2 (ag_ pZ aS);have lS:=Oz pZ (S:=upto b.2.length) Kr;have key:(parts b).length=1→IV b=max 1 ((Iy b).length / 2):=fun ad=>by
  obtain ⟨r,aj⟩:=List.length_eq_one_iff.1 ad;have aC:=Tt pZ;rw [aj] at aC
  have:r.Perm (upto b.2.length):=by simpa using aC
  unfold IV Iy;rw [aj,←agN this];simp [JW]
 constructor
 ·intro h;have ad:(parts b).length=1:=by omega
  have:=key ad;refine ⟨ad,?_⟩
  have:(Iy b).length=(q2 b (upto b.2.length)).length:=rfl
  omega
 ·rintro ⟨ad,af⟩;rw [key ad];omega
theorem agR (pZ:qm b) (aS:0<b.2.length):Il b=if (parts b).length=1∧(Iy b).length≤2 then 0 else 27:=by
 unfold Il;rw [if_neg (by simp [ID.2 pZ]),if_neg (by omega)];by_cases h:1<IV b
 ·rw [if_pos h,if_neg fun bI=>by have:=(WH pZ aS).2 bI;omega]
 ·rw [if_neg h,if_pos ((WH pZ aS).1 (by omega))]
theorem aij (pZ:qm b) (aS:0<b.2.length):Ly b=if (parts b).length=1∧(Iy b).length=0 then 0 else 27:=by
 unfold Ly;rw [agR pZ aS];by_cases h:(parts b).length=1∧(Iy b).length≤2
 ·rw [if_pos h,if_pos rfl];by_cases af:0<(Iy b).length
  ·rw [if_pos af,if_neg fun bI=>by omega]
  ·rw [if_neg af,if_pos ⟨h.1,by omega⟩]
 ·rw [if_neg h,if_neg (by decide),if_neg fun bI=>h ⟨bI.1,by omega⟩]
end
end Go.Proofs.YtfakoboiahbhaaaGreat.Ab


namespace Go.Proofs.YtfakoboiahbhaaaGreat.Ab
open Go
set_option maxRecDepth 20000
set_option maxHeartbeats 4000000
noncomputable def Rk:ez :=
 .loop (some (Ez false [2,1,2,2,1,4,175])) (.seq (Gz [Gn 50 11,gM 51 [.sl 2] (.oP 1),Gl 52 51,Gk 53 52,F1 54 50 53 .lss] (.cond (.sl 54) .skip (.exit 0))) (.seq (.block 1 (Gz [Gn 57 11,Gn 58 9,F1 59 57 58 .neq] (.cond (.sl 59) (Gs [Gp 60 10,Gn 61 11,gM 62 [.hJ 61] (.x' 1 1 [.int .i64 0] [0]),gM 63 [.hG 60,.hG 62] (.app 1 8),Gp 10 63]) .skip))) (Gs [Gp 55 11,FZ 56 55 1,Gp 11 56])))
noncomputable def MJ:ez :=
 .seq (Gz [Gp 140 15,F0 141 140 0 .eql] (.cond (.sl 141) (Gz [gM 143 [.hJ 12] (.pT (.str 2)),Gp 144 14,gM 145 [.iA (.func 19 [] []),.sl 143,.sl 144] (.call 3),Gp 142 145,GJ 146 142 0,GJ 147 142 1,gM 148 [.hJ 142] (.ext 2),Gp 20 146,Gp 21 147,Gp 22 148] (Gz [Gp 149 22,F0 150 149 0 .eql,Gp 151 150,cP 152 [.hG 18] 151 true .iQ,cP 153 [.hG 152] 151 true .pV,cP 154 [.hG 16] 151 true .iQ,cP 155 [.hG 154] 151 true .pV,cP 156 [.hJ 153,.hJ 155] 151 true (.bin .eql),gM 157 [.hJ 151,.hJ 156,.iA (.bool false)] .pick,Gp 158 157,⟨some 159,[.iA (.func 17 [] [])],some (158,true),none,.call 3⟩,gM 160 [.hJ 158,.hJ 159,.iA (.bool false)] .pick,Gp 4 160] .ret)) .skip)) (Gz [gM 161 [.hJ 12] (.pT (.str 2)),gM 162 [.iA (.func 55 [] []),.sl 161] (.call 3),Gp 23 162] (Gz [Gp 163 18,Gk 164 163,Gp 165 16,Gk 166 165,F1 167 164 166 .gtr,Gp 168 167,cP 169 [.sl 23] 168 false .iQ,cP 170 [.sl 13] 168 false (.oP 0),cP 171 [.hJ 170] 168 false (.pT .one),cP 172 [.hJ 169,.hJ 171] 168 false (.pM 1),cP 173 [.hJ 172] 168 false (.pT .one),cP 174 [.hJ 173,.iA (.int .i64 0)] 168 false (.bin .eql),gM 175 [.hJ 168,.iA (.bool true),.hJ 174] .pick,Gp 176 175,cP 177 [.hG 23] 176 false .iQ,cP 178 [.hJ 13] 176 false (.oP 1),cP 179 [.hJ 178] 176 false (.pT .one),cP 180 [.hJ 177,.hJ 179] 176 false (.pM 1),cP 181 [.hJ 180] 176 false (.pT .one),cP 182 [.hJ 181,.iA (.int .i64 0)] 176 false (.bin .eql),gM 183 [.hJ 176,.iA (.bool true),.hJ 182] .pick,Gp 184 183,⟨some 185,[.iA (.func 17 [] [])],some (184,true),none,.call 3⟩,gM 186 [.hJ 184,.hJ 185,.iA (.bool false)] .pick,Gp 4 186] .ret))
noncomputable def NK:ez :=
 .seq (Gz [gM 110 [.sl 13] (.oP 0),Gl 111 110,gM 112 [.sl 13] (.oP 1),Gl 113 112,F1 114 111 113 .eql] (.cond (.sl 114) (Gz [Gp 115 15,F0 116 115 2 .eql,Gp 117 116,cP 118 [.hG 5] 117 true .iQ,cP 119 [.hG 9] 117 true .iQ,⟨some 120,[.iA (.func 53 [] []),.sl 118,.sl 119],some (117,true),none,.call 3⟩,cP 121 [.hJ 120] 117 true (.un .not),gM 122 [.hJ 117,.hJ 121,.iA (.bool false)] .pick,Gp 123 122,⟨some 124,[.iA (.func 17 [] [])],some (123,true),none,.call 3⟩,gM 125 [.hJ 123,.hJ 124,.iA (.bool false)] .pick,Gp 4 125] .ret) .skip)) (.seq (Gz [Gp 126 5,Gp 127 9,gM 128 [.iA (.func 53 [] []),.sl 126,.sl 127] (.call 3),Gn 129 15,F0 130 129 5 .eql,gM 131 [.hJ 128,.hJ 130] (.oB true),Gp 132 131,cP 133 [.sl 15] 132 false .iQ,cP 134 [.hJ 133,.iA (.int .i64 0)] 132 false (.bin .neq),cP 135 [.hG 134] 132 false .iQ,cP 136 [.sl 15] 135 true .iQ,cP 137 [.hJ 136,.iA (.int .i64 5)] 135 true (.bin .neq),cP 138 [.hJ 135,.hJ 137,.iA (.bool false)] 132 false .pick,gM 139 [.hJ 132,.iA (.bool true),.hJ 138] .pick] (.cond (.sl 139) (Gz [gM 4 [.iA (.bool false)] .iQ] .ret) .skip)) MJ)
noncomputable def aa4:ez :=
 Gz [gM 2 [.hG 0] .x9,gM 4 [.iA (.bool false)] .iQ] (.seq (Gz [gM 24 [.sl 2] (.pT (.str 2)),gM 25 [.iA (.func 47 [] []),.sl 24] (.call 3),gM 26 [.hJ 25] (.un .not),Gp 27 26,cP 28 [.sl 2] 27 false (.oP 1),cP 29 [.hJ 28] 27 false (.pT .one),cP 30 [.hG 29] 27 false .pV,cP 31 [.hJ 30,.iA (.int .i64 0)] 27 false (.bin .eql),gM 32 [.hJ 27,.iA (.bool true),.hJ 31] .pick] (.cond (.sl 32) (Gz [gM 33 [.iA (.func 17 [] [])] (.call 3),Gp 4 33] .ret) .skip)) (Gz [gM 35 [.sl 2] (.pT (.str 2)),gM 36 [.iA (.func 31 [] []),.sl 35] (.call 3),Gp 34 36,GJ 37 34 0,gM 38 [.hJ 34] (.ext 1),Gp 5 37,Gp 6 38] (Gz [gM 40 [.sl 2] (.pT (.str 2)),gM 41 [.iA (.func 42 [] []),.sl 40] (.call 3),Gp 39 41,GJ 42 39 0,gM 43 [.hJ 39] (.ext 1),Gp 7 42,Gp 8 43] (Gz [Gp 44 1,gM 45 [.hJ 44] (.conv .i64),gM 46 [.sl 2] (.oP 1),Gl 47 46,Gk 48 47,F1 49 45 48 .rem,Gp 9 49] (Gz [gM 10 [.iA (.ay [] 0 .full)] (.nil 1)] (.seq (Gz [Gm 11 0] (.block 0 Rk)) (.seq (.two [gM 64 [.sl 2] (.pT (.str 2)),Gp 65 10,gM 66 [.iA (.func 51 [] []),.sl 64,.sl 65] (.call 3),gM 67 [.sl 2] (.oP 1),gM 68 [.hJ 67] (.zb .one),Gn 69 9,Gh 70 68 69 2,gM 71 [.hJ 70] (.zb (.str 2))] (gM 12 [] (.alloc [.int .i64 0,.ay [] 0 .full])) (gM 13 [] (.alloc [.int .i64 0,.int .i64 0])) [⟨none,[.sl 12,.hG 66],none,none,.st 2⟩,⟨none,[.sl 13,.hG 71],none,none,.st 2⟩]) (Gz [gM 73 [.sl 12] (.pT (.str 2)),gM 74 [.sl 13] (.oP 0),Gl 75 74,gM 76 [.sl 13] (.oP 1),Gl 77 76,gM 78 [.iA (.func 45 [] []),.sl 73,.sl 75,.sl 77] (.call 3),Gp 72 78,GJ 79 72 0,gM 80 [.hJ 72] (.ext 1),Gp 14 79,Gp 15 80] (Gz [gM 82 [.hJ 2] (.pT (.str 2)),gM 83 [.iA (.func 49 [] []),.sl 82] (.call 3),Gp 81 83,GJ 84 81 0,gM 85 [.hJ 81] (.ext 1),Gp 16 84,Gp 17 85] (Gz [gM 87 [.sl 12] (.pT (.str 2)),gM 88 [.iA (.func 49 [] []),.sl 87] (.call 3),Gp 86 88,GJ 89 86 0,gM 90 [.hJ 86] (.ext 1),Gp 18 89,Gp 19 90] (.seq (Gz [Gp 91 6,F0 92 91 0 .neq,Gp 93 92,cP 94 [.hG 8] 93 false .iQ,cP 95 [.hJ 94,.iA (.int .i64 0)] 93 false (.bin .eql),cP 96 [.hG 95] 93 false .iQ,cP 97 [.sl 5] 96 true .iQ,cP 98 [.hG 97] 96 true .pV,cP 99 [.hJ 98,.iA (.int .i64 0)] 96 true (.bin .gtr),cP 100 [.hJ 96,.hJ 99,.iA (.bool false)] 93 false .pick,gM 101 [.hJ 93,.iA (.bool true),.hJ 100] .pick,Gp 102 101,cP 103 [.hG 17] 102 false .iQ,cP 104 [.hJ 103] 102 false (.un .not),gM 105 [.hJ 102,.iA (.bool true),.hJ 104] .pick,Gp 106 105,cP 107 [.hG 19] 106 false .iQ,cP 108 [.hJ 107] 106 false (.un .not),gM 109 [.hJ 106,.iA (.bool true),.hJ 108] .pick] (.cond (.sl 109) (Gz [gM 4 [.iA (.bool false)] .iQ] .ret) .skip)) NK)))))))))))
theorem afZ:zf Tryz.prog LU 12=some (aa4,187,[.tmp 4]):=by kernel_rfl
def LI (b:qa) (which:Int) (p9:p5→Option Bool):Nat→p5→Int→Option Bool
 | 0,_,_=>none
 | m+1,s1,s2 =>
   if (decide (s2<(b.2.length:Int)))=true then
    if (decide (s2≠((w which).tmod (b.2.length:Int))))=true then
     p8 ((s1.length+1)*8≤140737488355328) <|
     LI b which p9 m (s1++[s2]) (w (s2+(1:Int)))
    else
     LI b which p9 m s1 (w (s2+(1:Int)))
   else
    p9 s1
def LH (b:qa) (which:Int) (qC:qa) (qs:(qb×Int)) (qK:(rf×Bool)) (rE:(rf×Bool))  : Option Bool :=
 if (decide (qs.2=(0:Int)))=true then
  (Mo qC qs.1).bind fun Nf =>
  if (decide (Nf.2.2=(0:Int)))=true then
   if (decide ((rE.1.length:Int)=(qK.1.length:Int)))=true then
    (JJ).bind fun Qx =>
    some Qx
   else
    some false
  else
   some false
 else
  (Pr qC).bind fun Km =>
  if (decide ((qK.1.length:Int)<(rE.1.length:Int)))=true then
   (JJ).bind fun TA =>
   some TA
  else
   p8 (0≤(ix b.2 ((w which).tmod (b.2.length:Int))).1∧(ix b.2 ((w which).tmod (b.2.length:Int))).1<(Km.length:Int)) <|
   if (decide ((ix Km ((ix b.2 ((w which).tmod (b.2.length:Int))).1))=(0:Int)))=true then
    (JJ).bind fun TB =>
    some TB
   else
    p8 (0≤(ix b.2 ((w which).tmod (b.2.length:Int))).2∧(ix b.2 ((w which).tmod (b.2.length:Int))).2<(Km.length:Int)) <|
    if (decide ((ix Km ((ix b.2 ((w which).tmod (b.2.length:Int))).2))=(0:Int)))=true then
     (JJ).bind fun TC =>
     some TC
    else
     some false
def K1 (b:qa) (which:Int) (r3:(p5×Int)) (qC:qa) (qs:(qb×Int)) (qK:(rf×Bool)) (rE:(rf×Bool))  : Option Bool :=
 if (decide ((ix b.2 ((w which).tmod (b.2.length:Int))).1=(ix b.2 ((w which).tmod (b.2.length:Int))).2))=true then
  if (decide (qs.2=(2:Int)))=true then
   (Nx r3.1 ((w which).tmod (b.2.length:Int))).bind fun Lx =>
   if Lx=true then
    some false
   else
    (JJ).bind fun Io =>
    some Io
  else
   some false
 else
  (Nx r3.1 ((w which).tmod (b.2.length:Int))).bind fun Lw =>
  if (Lw == (decide (qs.2=(5:Int))))=true then
   if (decide (qs.2≠(0:Int)))=true then
    if (decide (qs.2≠(5:Int)))=true then
     some false
    else
     LH b which qC qs qK rE
   else
    LH b which qC qs qK rE
  else
   some false
def Q4 (b:qa) (which:Int):Option Bool :=
 (Pp b).bind fun r1 =>
 if r1=true then
  if (decide ((b.2.length:Int)=(0:Int)))=true then
   (JJ).bind fun r2 =>
   some r2
  else
   (Pm b).bind fun r3 =>
   (Po b).bind fun r4 =>
   p8 ((b.2.length:Int)≠0) <|
   LI b which (fun xZ =>
     (Pq b xZ).bind fun qC =>
     p8 (0≤((w which).tmod (b.2.length:Int))∧((w which).tmod (b.2.length:Int))<(b.2.length:Int)) <|
     (LL qC ((ix b.2 ((w which).tmod (b.2.length:Int))).1) ((ix b.2 ((w which).tmod (b.2.length:Int))).2)).bind fun qs =>
     (Nw b).bind fun qK =>
     (Nw qC).bind fun rE =>
     if (decide (r3.2≠(0:Int)))=true then
      some false
     else
      if (decide (r4.2=(0:Int)))=true then
       if (decide ((0:Int)<(r3.1.length:Int)))=true then
        some false
       else
        if qK.2=true then
         if rE.2=true then
          K1 b which r3 qC qs qK rE
         else
          some false
        else
         some false
      else
       if qK.2=true then
        if rE.2=true then
         K1 b which r3 qC qs qK rE
        else
         some false
       else
        some false) p_ ([]:List Int) (0:Int)
 else
  (JJ).bind fun Yf =>
  some Yf
theorem akf {b:qa} {which:Int} {p9:p5→Option Bool} {s1:p5} {s2:Int} {r3:(p5×Int)} {r4:(qb×Int)} {v:Bool} {Q:q'}   (q8:∀ (xZ:p5) (p6:List I),p9 xZ=some v→qU 187 [(2,(.bU [(hP b.1),(p3 b.2 .shared)])),(5,(qe r3.1 .shared)),(6,(hP r3.2)),(8,(hP r4.2)),(9,(hP ((w which).tmod (b.2.length:Int)))),(10,(qe xZ (.uniq 1)))] p6→Q (.exit 0) p6 []) {T:List I} (bX:eR (Ez false [2,1,2,2,1,4,175]) T=GG 187 [(2,(.bU [(hP b.1),(p3 b.2 .shared)])),(5,(qe r3.1 .shared)),(6,(hP r3.2)),(8,(hP r4.2)),(9,(hP ((w which).tmod (b.2.length:Int)))),(10,(qe s1 (.uniq 1))),(11,(hP s2))]) (h:LI b which p9 p_ s1 s2=some v) :
  dC Tryz.prog LU 12 0 none Rk T [] Q:=by
 unfold Rk;refine wp_loop bX ?_;refine .intro (fun m T H=>∃ (s1:p5) (s2:Int),T=GG 187 [(2,(.bU [(hP b.1),(p3 b.2 .shared)])),(5,(qe r3.1 .shared)),(6,(hP r3.2)),(8,(hP r4.2)),(9,(hP ((w which).tmod (b.2.length:Int)))),(10,(qe s1 (.uniq 1))),(11,(hP s2))]∧H=[]∧LI b which p9 m s1 s2=some v) p_ ⟨s1,s2,rfl,rfl,h⟩ ?_;clear h bX;rintro m T H ⟨s1,s2,rfl,rfl,h⟩;cases m
 ·exact q7 h
 rename_i m;rw [LI.eq_2] at h;conv=>whnf
 refine bs h (fun qN h=>?_) fun qN h=>?_
 ·rw [qN];conv=>whnf
  refine bs h (fun qQ h=>?_) fun qQ h=>?_
  ·rw [qQ];(conv=>whnf);obtain ⟨q5,h⟩:=qn h;refine ⟨by first | rfl | simp,by have:=q5;omega,rfl,q5,?_⟩
   erw [Lb hP s1 s2];(conv=>whnf);exact ⟨m,sm m,(s1++[s2]),(w (s2+(1:Int))),rfl,rfl,h⟩
  ·rw [qQ];(conv=>whnf);exact ⟨m,sm m,s1,(w (s2+(1:Int))),rfl,rfl,h⟩
 ·rw [qN];conv=>whnf
  exact q8 _ _ h ⟨rfl,rfl⟩
theorem Z5 {b:qa} {which:Int} {qC:qa} {qs:(qb×Int)} {qK:(rf×Bool)} {rE:(rf×Bool)} {v:Bool} {Q:q'}  {p6:List I}  (jw:qu [.tmp 4] Q (fun v=>(B v)) v) (qh:qU 187 [(12,(.ptr 0 0)),(13,(.ptr 1 0)),(14,(p3 qs.1 .shared)),(15,(hP qs.2)),(16,(.ay (qK.1.map jh) qK.1.length .shared)),(18,(.ay (rE.1.map jh) rE.1.length .shared))] p6) (h:LH b which qC qs qK rE  = some v) :
  dC Tryz.prog LU 12 0 none MJ p6 [Hv qC,au.cells [(hP (ix b.2 ((w which).tmod (b.2.length:Int))).1),(hP (ix b.2 ((w which).tmod (b.2.length:Int))).2)]] Q:=by
 obtain ⟨qS,rfl⟩:=qh.ex;unfold LH at h;unfold MJ;conv=>whnf
 refine bs h (fun KD h=>?_) fun KD h=>?_
 ·rw [KD];conv=>whnf
  obtain ⟨Nf,Oj,h⟩:=qd h;refine ⟨qj.pl,_,aaf Oj,?_⟩;conv=>whnf
  refine bs h (fun JQ h=>?_) fun JQ h=>?_
  ·rw [JQ];(conv=>whnf);refine bs h (fun KE h=>?_) fun KE h=>?_
   ·rw [KE];(conv=>whnf);obtain ⟨Qx,Ol,h⟩:=qd h;refine ⟨rfl,_,JK Ol,?_⟩;(conv=>whnf);exact p7 h jw rfl rfl
   ·rw [KE];(conv=>whnf);exact p7 h jw rfl rfl
  ·rw [JQ];(conv=>whnf);exact p7 h jw rfl rfl
 ·rw [KD];conv=>whnf
  obtain ⟨Km,Om,h⟩:=qd h;refine ⟨qj.pl,_,aat Om,?_⟩;conv=>whnf
  refine bs h (fun L3 h=>?_) fun L3 h=>?_
  ·rw [L3];(conv=>whnf);obtain ⟨TA,SF,h⟩:=qd h;refine ⟨rfl,_,JK SF,?_⟩;(conv=>whnf);exact p7 h jw rfl rfl
  ·rw [L3];(conv=>whnf);refine qk h id fun SG h=>?_;rw [rT hP Km ((ix b.2 ((w which).tmod (b.2.length:Int))).1) SG];(conv=>whnf);refine bs h (fun L4 h=>?_) fun L4 h=>?_
   ·rw [L4];(conv=>whnf);obtain ⟨TB,SH,h⟩:=qd h;refine ⟨rfl,_,JK SH,?_⟩;(conv=>whnf);exact p7 h jw rfl rfl
   ·rw [L4];(conv=>whnf);refine qk h id fun SI h=>?_;rw [rT hP Km ((ix b.2 ((w which).tmod (b.2.length:Int))).2) SI];(conv=>whnf);refine bs h (fun L5 h=>?_) fun L5 h=>?_
    ·rw [L5];(conv=>whnf);obtain ⟨TC,SJ,h⟩:=qd h;refine ⟨rfl,_,JK SJ,?_⟩;(conv=>whnf);exact p7 h jw rfl rfl
    ·rw [L5];(conv=>whnf);exact p7 h jw rfl rfl
theorem Z2 {b:qa} {which:Int} {r3:(p5×Int)} {qC:qa} {qs:(qb×Int)} {qK:(rf×Bool)} {rE:(rf×Bool)} {v:Bool} {Q:q'}  {p6:List I}  (jw:qu [.tmp 4] Q (fun v=>(B v)) v) (qh:qU 187 [(5,(qe r3.1 .shared)),(9,(hP ((w which).tmod (b.2.length:Int)))),(12,(.ptr 0 0)),(13,(.ptr 1 0)),(14,(p3 qs.1 .shared)),(15,(hP qs.2)),(16,(.ay (qK.1.map jh) qK.1.length .shared)),(18,(.ay (rE.1.map jh) rE.1.length .shared))] p6) (h:K1 b which r3 qC qs qK rE  = some v) :
  dC Tryz.prog LU 12 0 none NK p6 [Hv qC,au.cells [(hP (ix b.2 ((w which).tmod (b.2.length:Int))).1),(hP (ix b.2 ((w which).tmod (b.2.length:Int))).2)]] Q:=by
 obtain ⟨qS,rfl⟩:=qh.ex;unfold K1 at h;unfold NK;obtain ⟨J8,rm⟩:∃ c,MJ=c:=⟨_,rfl⟩;rw [rm];conv=>whnf
 refine bs h (fun G9 h=>?_) fun G9 h=>?_
 ·rw [G9];conv=>whnf
  refine bs h (fun Jk h=>?_) fun Jk h=>?_
  ·rw [Jk];(conv=>whnf);obtain ⟨Lx,JP,h⟩:=qd h;refine ⟨qj.pl,_,Q8 JP,?_⟩;(conv=>whnf);cases Lx
   ·(conv=>whnf);replace h:=Hf rfl h;obtain ⟨Io,Jl,h⟩:=qd h;refine ⟨rfl,_,JK Jl,?_⟩;(conv=>whnf);exact p7 h jw rfl rfl
   ·(conv=>whnf);replace h:=Hg rfl h;exact p7 h jw rfl rfl
  ·rw [Jk];(conv=>whnf);exact p7 h jw rfl rfl
 ·rw [G9];conv=>whnf
  obtain ⟨Lw,Kf,h⟩:=qd h;refine ⟨qj.pl,_,Q8 Kf,?_⟩;conv=>whnf
  refine bs h (fun IZ h=>?_) fun IZ h=>?_
  ·rw [IZ];(conv=>whnf);refine bs h (fun Ii h=>?_) fun Ii h=>?_
   ·rw [Ii];(conv=>whnf);refine bs h (fun JC h=>?_) fun JC h=>?_
    ·rw [JC];(conv=>whnf);exact p7 h jw rfl rfl
    ·rw [JC];(conv=>whnf);subst rm;refine Z5 ?_ (by exact ⟨rfl,rfl⟩) h;exact fun T H bI=>jw T H bI
   ·rw [Ii];(conv=>whnf);subst rm;refine Z5 ?_ (by exact ⟨rfl,rfl⟩) h;exact fun T H bI=>jw T H bI
  ·rw [IZ];(conv=>whnf);exact p7 h jw rfl rfl
theorem Z6 {b:qa} {which:Int} {qC:qa} {qs:(qb×Int)} {qK:(rf×Bool)} {rE:(rf×Bool)} {v:Bool} {Q:q'}  {p6:List I}  (jw:qu [.tmp 4] Q (fun v=>(B v)) v) (qh:qU 187 [(12,(.ptr 1 0)),(13,(.ptr 0 0)),(14,(p3 qs.1 .shared)),(15,(hP qs.2)),(16,(.ay (qK.1.map jh) qK.1.length .shared)),(18,(.ay (rE.1.map jh) rE.1.length .shared))] p6) (h:LH b which qC qs qK rE  = some v) :
  dC Tryz.prog LU 12 0 none MJ p6 [au.cells [(hP (ix b.2 ((w which).tmod (b.2.length:Int))).1),(hP (ix b.2 ((w which).tmod (b.2.length:Int))).2)],Hv qC] Q:=by
 obtain ⟨qS,rfl⟩:=qh.ex;unfold LH at h;unfold MJ;conv=>whnf
 refine bs h (fun KD h=>?_) fun KD h=>?_
 ·rw [KD];conv=>whnf
  obtain ⟨Nf,Oj,h⟩:=qd h;refine ⟨qj.pl,_,aaf Oj,?_⟩;conv=>whnf
  refine bs h (fun JQ h=>?_) fun JQ h=>?_
  ·rw [JQ];(conv=>whnf);refine bs h (fun KE h=>?_) fun KE h=>?_
   ·rw [KE];(conv=>whnf);obtain ⟨Qx,Ol,h⟩:=qd h;refine ⟨rfl,_,JK Ol,?_⟩;(conv=>whnf);exact p7 h jw rfl rfl
   ·rw [KE];(conv=>whnf);exact p7 h jw rfl rfl
  ·rw [JQ];(conv=>whnf);exact p7 h jw rfl rfl
 ·rw [KD];conv=>whnf
  obtain ⟨Km,Om,h⟩:=qd h;refine ⟨qj.pl,_,aat Om,?_⟩;conv=>whnf
  refine bs h (fun L3 h=>?_) fun L3 h=>?_
  ·rw [L3];(conv=>whnf);obtain ⟨TA,SF,h⟩:=qd h;refine ⟨rfl,_,JK SF,?_⟩;(conv=>whnf);exact p7 h jw rfl rfl
  ·rw [L3];(conv=>whnf);refine qk h id fun SG h=>?_;rw [rT hP Km ((ix b.2 ((w which).tmod (b.2.length:Int))).1) SG];(conv=>whnf);refine bs h (fun L4 h=>?_) fun L4 h=>?_
   ·rw [L4];(conv=>whnf);obtain ⟨TB,SH,h⟩:=qd h;refine ⟨rfl,_,JK SH,?_⟩;(conv=>whnf);exact p7 h jw rfl rfl
   ·rw [L4];(conv=>whnf);refine qk h id fun SI h=>?_;rw [rT hP Km ((ix b.2 ((w which).tmod (b.2.length:Int))).2) SI];(conv=>whnf);refine bs h (fun L5 h=>?_) fun L5 h=>?_
    ·rw [L5];(conv=>whnf);obtain ⟨TC,SJ,h⟩:=qd h;refine ⟨rfl,_,JK SJ,?_⟩;(conv=>whnf);exact p7 h jw rfl rfl
    ·rw [L5];(conv=>whnf);exact p7 h jw rfl rfl
theorem Z3 {b:qa} {which:Int} {r3:(p5×Int)} {qC:qa} {qs:(qb×Int)} {qK:(rf×Bool)} {rE:(rf×Bool)} {v:Bool} {Q:q'}  {p6:List I}  (jw:qu [.tmp 4] Q (fun v=>(B v)) v) (qh:qU 187 [(5,(qe r3.1 .shared)),(9,(hP ((w which).tmod (b.2.length:Int)))),(12,(.ptr 1 0)),(13,(.ptr 0 0)),(14,(p3 qs.1 .shared)),(15,(hP qs.2)),(16,(.ay (qK.1.map jh) qK.1.length .shared)),(18,(.ay (rE.1.map jh) rE.1.length .shared))] p6) (h:K1 b which r3 qC qs qK rE  = some v) :
  dC Tryz.prog LU 12 0 none NK p6 [au.cells [(hP (ix b.2 ((w which).tmod (b.2.length:Int))).1),(hP (ix b.2 ((w which).tmod (b.2.length:Int))).2)],Hv qC] Q:=by
 obtain ⟨qS,rfl⟩:=qh.ex;unfold K1 at h;unfold NK;obtain ⟨J8,rm⟩:∃ c,MJ=c:=⟨_,rfl⟩;rw [rm];conv=>whnf
 refine bs h (fun G9 h=>?_) fun G9 h=>?_
 ·rw [G9];conv=>whnf
  refine bs h (fun Jk h=>?_) fun Jk h=>?_
  ·rw [Jk];(conv=>whnf);obtain ⟨Lx,JP,h⟩:=qd h;refine ⟨qj.pl,_,Q8 JP,?_⟩;(conv=>whnf);cases Lx
   ·(conv=>whnf);replace h:=Hf rfl h;obtain ⟨Io,Jl,h⟩:=qd h;refine ⟨rfl,_,JK Jl,?_⟩;(conv=>whnf);exact p7 h jw rfl rfl
   ·(conv=>whnf);replace h:=Hg rfl h;exact p7 h jw rfl rfl
  ·rw [Jk];(conv=>whnf);exact p7 h jw rfl rfl
 ·rw [G9];conv=>whnf
  obtain ⟨Lw,Kf,h⟩:=qd h;refine ⟨qj.pl,_,Q8 Kf,?_⟩;conv=>whnf
  refine bs h (fun IZ h=>?_) fun IZ h=>?_
  ·rw [IZ];(conv=>whnf);refine bs h (fun Ii h=>?_) fun Ii h=>?_
   ·rw [Ii];(conv=>whnf);refine bs h (fun JC h=>?_) fun JC h=>?_
    ·rw [JC];(conv=>whnf);exact p7 h jw rfl rfl
    ·rw [JC];(conv=>whnf);subst rm;refine Z6 ?_ (by exact ⟨rfl,rfl⟩) h;exact fun T H bI=>jw T H bI
   ·rw [Ii];(conv=>whnf);subst rm;refine Z6 ?_ (by exact ⟨rfl,rfl⟩) h;exact fun T H bI=>jw T H bI
  ·rw [IZ];(conv=>whnf);exact p7 h jw rfl rfl
theorem akg {b:qa} {which:Int} {v:Bool} (h:Q4 b which=some v):ql 12 [(.agg [(hP b.1),(.ay (b.2.flatMap p1) b.2.length .shared)]),(Vm which)] (B v):=by
 refine qM dI afZ rfl rfl fun Q bl=>?_;have jw:qu [.tmp 4] Q (fun v=>(B v)) v:=fun T H bI=>bl _ T H bI;unfold Q4 at h;unfold aa4;obtain ⟨Ho,qz⟩:∃ c,Rk=c:=⟨_,rfl⟩;rw [qz];obtain ⟨NZ,Hq⟩:∃ c,NK=c:=⟨_,rfl⟩;rw [Hq];conv=>whnf
 refine ⟨rfl,?_⟩;conv=>whnf
 obtain ⟨r1,eU,h⟩:=qd h;refine ⟨qj.pl,_,akP eU,?_⟩;conv=>whnf
 cases r1
 ·conv=>whnf
  replace h:=Hf rfl h;obtain ⟨Yf,SK,h⟩:=qd h;refine ⟨rfl,_,JK SK,?_⟩;conv=>whnf
  exact p7 h jw rfl rfl
 ·conv=>whnf
  replace h:=Hg rfl h;refine bs h (fun fk h=>?_) fun fk h=>?_
  ·rw [fk];(conv=>whnf);obtain ⟨r2,qf,h⟩:=qd h;refine ⟨rfl,_,JK qf,?_⟩;(conv=>whnf);exact p7 h jw rfl rfl
  ·rw [fk];(conv=>whnf);obtain ⟨r3,qo,h⟩:=qd h;refine ⟨qj.pl,_,akF qo,?_⟩;(conv=>whnf);obtain ⟨r4,qD,h⟩:=qd h;refine ⟨qj.pl,_,akJ qD,?_⟩;(conv=>whnf);refine qk h id fun rr h=>?_;(conv=>whnf);subst qz;refine akf (r3:=r3) (r4:=r4) ?_ (by exact rfl) h;intro xZ p6 h qh;obtain ⟨qS,rfl⟩:=qh.ex;(conv=>whnf);obtain ⟨qC,qV,h⟩:=qd h;refine ⟨qj.pl,_,akU qV,Kz,?_⟩;(conv=>whnf);refine qk h id fun rK h=>?_;rw [qW p1 2 qw b.2 ((w which).tmod (b.2.length:Int)) rK];(conv=>whnf);refine ⟨?_,?_⟩
   ·(conv=>whnf);obtain ⟨qs,rj,h⟩:=qd h;refine ⟨qj.pl,_,aak rj,?_⟩;(conv=>whnf);obtain ⟨qK,rA,h⟩:=qd h;refine ⟨qj.pl,_,Q7 rA,?_⟩;(conv=>whnf);obtain ⟨rE,rW,h⟩:=qd h;refine ⟨qj.pl,_,Q7 rW,?_⟩;(conv=>whnf);refine bs h (fun rH h=>?_) fun rH h=>?_
    ·rw [rH];(conv=>whnf);exact p7 h jw rfl rfl
    ·rw [rH];(conv=>whnf);refine bs h (fun q9 h=>?_) fun q9 h=>?_
     ·rw [q9];(conv=>whnf);refine bs h (fun GM h=>?_) fun GM h=>?_
      ·rw [GM];(conv=>whnf);exact p7 h jw rfl rfl
      ·rw [GM];(conv=>whnf);refine bs h (fun ru h=>?_) fun ru h=>?_
       ·rw [ru];(conv=>whnf);refine bs h (fun Hr h=>?_) fun Hr h=>?_
        ·rw [Hr];(conv=>whnf);subst Hq;refine Z2 ?_ (by exact ⟨rfl,rfl⟩) h;exact fun T H bI=>jw T H bI
        ·rw [Hr];(conv=>whnf);exact p7 h jw rfl rfl
       ·rw [ru];(conv=>whnf);exact p7 h jw rfl rfl
     ·rw [q9];(conv=>whnf);refine bs h (fun KF h=>?_) fun KF h=>?_
      ·rw [KF];(conv=>whnf);refine bs h (fun JR h=>?_) fun JR h=>?_
       ·rw [JR];(conv=>whnf);subst Hq;refine Z2 ?_ (by exact ⟨rfl,rfl⟩) h;exact fun T H bI=>jw T H bI
       ·rw [JR];(conv=>whnf);exact p7 h jw rfl rfl
      ·rw [KF];(conv=>whnf);exact p7 h jw rfl rfl
   ·(conv=>whnf);obtain ⟨qs,rj,h⟩:=qd h;refine ⟨qj.pl,_,aak rj,?_⟩;(conv=>whnf);obtain ⟨qK,rA,h⟩:=qd h;refine ⟨qj.pl,_,Q7 rA,?_⟩;(conv=>whnf);obtain ⟨rE,rW,h⟩:=qd h;refine ⟨qj.pl,_,Q7 rW,?_⟩;(conv=>whnf);refine bs h (fun rH h=>?_) fun rH h=>?_
    ·rw [rH];(conv=>whnf);exact p7 h jw rfl rfl
    ·rw [rH];(conv=>whnf);refine bs h (fun q9 h=>?_) fun q9 h=>?_
     ·rw [q9];(conv=>whnf);refine bs h (fun GM h=>?_) fun GM h=>?_
      ·rw [GM];(conv=>whnf);exact p7 h jw rfl rfl
      ·rw [GM];(conv=>whnf);refine bs h (fun ru h=>?_) fun ru h=>?_
       ·rw [ru];(conv=>whnf);refine bs h (fun Hr h=>?_) fun Hr h=>?_
        ·rw [Hr];(conv=>whnf);subst Hq;refine Z3 ?_ (by exact ⟨rfl,rfl⟩) h;exact fun T H bI=>jw T H bI
        ·rw [Hr];(conv=>whnf);exact p7 h jw rfl rfl
       ·rw [ru];(conv=>whnf);exact p7 h jw rfl rfl
     ·rw [q9];(conv=>whnf);refine bs h (fun KF h=>?_) fun KF h=>?_
      ·rw [KF];(conv=>whnf);refine bs h (fun JR h=>?_) fun JR h=>?_
       ·rw [JR];(conv=>whnf);subst Hq;refine Z3 ?_ (by exact ⟨rfl,rfl⟩) h;exact fun T H bI=>jw T H bI
       ·rw [JR];(conv=>whnf);exact p7 h jw rfl rfl
      ·rw [KF];(conv=>whnf);exact p7 h jw rfl rfl
end Go.Proofs.YtfakoboiahbhaaaGreat.Ab


namespace Go.Proofs.YtfakoboiahbhaaaGreat.Ab
open Go
section
variable {b:p4}
def rest (b:p4) (e:Int):List Int:=(upto b.2.length).filter fun x=>decide (x≠e)
theorem Lr {e x:Int}:x∈rest b e↔x∈upto b.2.length∧x≠e:=by unfold rest;rw [sK,decide_eq_true_eq]
theorem O_ {e:Int}:(rest b e).length≤b.2.length:=by
 have:=tq (fun x=>decide (x≠e)) (upto b.2.length)
 rwa [rF] at this
theorem KR {e:Int}:q6 b (rest b e):=fun x al=>rL.1 (Lr.1 al).1
theorem Yx {e:Int}:(rest b e).Nodup:=(Ju _).filter _
theorem aic {e:Int} (he:e∈upto b.2.length):(upto b.2.length).Perm (e::rest b e):=by
 have h:rest b e=(upto b.2.length).erase e:=by
  rw [(Ju _).erase_eq_filter];unfold rest;refine List.filter_congr fun x _=>?_;by_cases h:x=e <;> simp [h]
 rw [h];exact List.perm_cons_erase he
theorem ady {e f g:Int}:qG b (rest b e) f g↔rI b e f g:=by
 constructor
 ·intro h
  induction h with
  | refl=>exact rI.refl _
  | step i _ hi aB aH a_ =>
    refine a_.trans ?_;obtain ⟨ad,af⟩:=Lr.1 hi;have ad:=rL.1 ad;obtain ⟨j,rfl⟩:∃ j:Nat,i=(j:Int):=⟨i.toNat,by omega⟩;have he:=G4.of (b:=b) (wo:=e) (i:=j) (by omega) af;rcases aB with rfl | rfl <;> rcases aH with rfl | rfl
    ·exact rI.refl _
    ·exact he.Lc
    ·exact he.symm.Lc
    ·exact rI.refl _
 ·rintro ⟨n,h⟩
  induction n generalizing g with
  | zero=>rw [show f=g from h];exact .refl
  | succ n a_ =>
    obtain ⟨c,ad,af⟩:=h;obtain ⟨i,hi,hw,aG⟩:=af.r0;refine .step (i:Int) (a_ ad) (Lr.2 ⟨rL.2 ⟨by omega,by omega⟩,hw⟩) ?_ ?_
    ·rcases aG with ⟨aG,_⟩ | ⟨aG,_⟩
     ·exact .inl aG
     ·exact .inr aG
    ·rcases aG with ⟨_,aG⟩ | ⟨_,aG⟩
     ·exact .inr aG
     ·exact .inl aG
theorem Xx {R:Int→List Int→Prop}:∀ (X:List Int) (Y:List (List Int)),(∀ x∈X,∃ y∈Y,R x y)→X.Pairwise (fun x z=>∀ y,R x y→¬ R z y)→X.length≤Y.length
 | [],_,_,_=>Nat.zero_le _
 | x::X,Y,h,aC=>by
   obtain ⟨y,a0,aj⟩:=h x (by simp);obtain ⟨ad,af⟩:=tc.1 aC
   have:=Xx X (Y.erase y) (fun z bm=>by
    obtain ⟨xY,afl,yS⟩:=h z (by simp [bm]);refine ⟨xY,(List.mem_erase_of_ne fun e=>?_).2 afl,yS⟩
    subst e;exact ad z bm _ aj yS) af
   have ak:=List.length_erase_of_mem a0;have:=List.length_pos_of_mem a0;simp only [sI];omega
theorem qZ.many {S:List Int} {out:List (List Int)} (h:qZ b S out) {X:List Int} (al:∀ x∈X,∃ s∈S,qv b s x) (aC:X.Pairwise fun x z=>¬ qG b S x z):X.length≤out.length:=by
 refine Xx (R:=fun x r=>r∈out∧∃ s∈r,qv b s x) X out (fun x S_=>?_) (aC.imp fun aN r aj yS=>aN ?_)
 ·obtain ⟨s,ai,aQ⟩:=al x S_;obtain ⟨r,aj,S5⟩:=(h.mem s).1 ai;exact ⟨r,aj,aj,s,S5,aQ⟩
 ·obtain ⟨hm,s,ai,aQ⟩:=aj;obtain ⟨_,aF,gZ,P'⟩:=yS;exact h.IF r hm s ai aF gZ _ _ aQ P'
theorem qZ.Uz {S:List Int} {out:List (List Int)} (h:qZ b S out) (c:List Int→Int) (ao:∀ r∈out,∃ s∈r,qv b s (c r)):(out.map c).Pairwise fun x z=>¬ qG b S x z:=by
 refine List.pairwise_map.2 ?_;refine List.Pairwise.imp_of_mem ?_ h.ri;intro r q aj a3 aZ Ci;obtain ⟨s,ai,aQ⟩:=ao r aj;obtain ⟨aF,gZ,P'⟩:=ao q a3;have:=h.closed aj ai aQ Ci aF ((h.mem aF).2 ⟨q,a3,gZ⟩) P';exact aZ aF this gZ
def O8 (b:p4) (r:List Int):Int:=(ix b.2 (r.headD 0)).1
theorem O9 {r:List Int} (h:r≠[]):∃ s∈r,qv b s (O8 b r):=by
 cases r with
 | nil=>exact absurd rfl h
 | cons s r=>exact ⟨s,by simp,.inl rfl⟩
theorem X5 {S X:List Int} (pZ:qm b) (cm:q6 b S) (ak:S.length≤10) (al:∀ x∈X,∃ s∈S,qv b s x) (aC:X.Pairwise fun x z=>¬ qG b S x z):X.length≤(parts (rR b S)).length:=by
 have B_:=(Ku (OC pZ cm ak)).2.1;refine B_.many (fun x S_=>?_) (aC.imp fun aN ao=>aN ?_)
 ·obtain ⟨s,ai,aQ⟩:=al x S_;obtain ⟨i,hi,rfl⟩:=List.getElem_of_mem ai;refine ⟨(i:Int),rL.2 ⟨by omega,by rw [Mg];omega⟩,?_⟩;unfold qv at aQ ⊢;rw [OD hi];exact aQ
 ·rw [Mg] at ao;exact Ts.1 ao
theorem ag3 {S:List Int} (pZ:qm b) (cm:q6 b S) (ak:S.length≤10):∃ X:List Int,X.length=(parts (rR b S)).length∧(∀ x∈X,∃ s∈S,qv b s x)∧X.Pairwise fun x z=>¬ qG b S x z:=by
 have B_:=(Ku (OC pZ cm ak)).2.1;refine ⟨(parts (rR b S)).map (O8 (rR b S)),by simp,fun x al=>?_,(B_.Uz _ fun r aj=>O9 (B_.ne r aj)).imp fun aN ao=>aN ?_⟩
 ·obtain ⟨r,aj,rfl⟩:=sv.1 al;obtain ⟨s,ai,aQ⟩:=O9 (b:=rR b S) (B_.ne r aj);have S4:=(B_.mem s).2 ⟨r,aj,ai⟩;have hi:=rL.1 S4;rw [Mg] at hi;obtain ⟨k,rfl⟩:∃ k:Nat,s=(k:Int):=⟨s.toNat,by omega⟩;have av:k<S.length:=by omega
  refine ⟨S[k],sD av,?_⟩;unfold qv at aQ ⊢;rw [OD av] at aQ;exact aQ
 ·rw [Mg];exact Ts.2 ao
theorem qG.Pc {S:List Int} {f g:Int} (h:qG b S f g) (bM:f≠g):∃ s∈S,qv b s g:=by
 cases h with
 | refl=>exact absurd rfl bM
 | step i _ hi _ aH=>exact ⟨i,hi,aH⟩
theorem adJ {S r:List Int} (cm:S.Nodup) (aj:r.Nodup) (ae9:∀ x∈r,x∈S) {v:Int} (h:∀ z∈S,qv b z v→z∈r):qH b r v=qH b S v:=by
 have aC:=List.filter_append_perm (fun x=>decide (x∈r)) S;rw [←Le aC,N0];have aS:qH b (S.filter fun x=>!decide (x∈r)) v=0:=LY.2 fun i hi aQ=>by
  have hi:=sK.1 hi;have:=h i hi.1 aQ;simp [this] at hi
 have ad:(S.filter fun x=>decide (x∈r)).Perm r:=(uy (cm.filter _) aj).2 fun x=>by
  rw [sK,decide_eq_true_eq];exact ⟨fun h=>h.2,fun h=>⟨ae9 x h,h⟩⟩
 rw [aS,Le ad,Nat.add_zero]
section
variable {e:Int} (pZ:qm b) (he:e∈upto b.2.length)
include pZ he
theorem aha (bM:(ix b.2 e).1≠(ix b.2 e).2) (ao:qG b (rest b e) (ix b.2 e).1 (ix b.2 e).2):(parts (rR b (rest b e))).length=(parts b).length:=by
 have dz:=pZ.len;have C3:=O_ (b:=b) (e:=e);have Iw:∀ x∈rest b e,x∈upto b.2.length:=fun x al=>(Lr.1 al).1;have aez:∀ {x z},qG b (upto b.2.length) x z→qG b (rest b e) x z:=fun {x z} h=>by
  induction h with
  | refl=>exact .refl
  | step i _ hi aB aH a_ =>
    by_cases h:i=e
    ·subst h;refine a_.trans ?_;rcases aB with rfl | rfl <;> rcases aH with rfl | rfl
     ·exact .refl
     ·exact ao
     ·exact ao.symm
     ·exact .refl
    ·exact .step i a_ (Lr.2 ⟨hi,h⟩) aB aH
 have B_:=(Ku pZ).2.1;refine Nat.le_antisymm ?_ ?_
 ·obtain ⟨X,ad,af,aG⟩:=ag3 pZ (KR (b:=b) (e:=e)) (by omega);rw [←ad];exact B_.many (fun x al=>(af x al).elim fun s ai=>⟨s,Iw s ai.1,ai.2⟩) (aG.imp fun aN h=>aN (aez h))
 ·have aG:=B_.Uz (O8 b) fun r aj=>O9 (B_.ne r aj);have:=X5 (X:=(parts b).map (O8 b)) pZ (KR (b:=b) (e:=e)) (by omega) (fun x al=>?_) (aG.imp fun aN h=>aN (h.mono Iw))
  ·simpa using this
  ·obtain ⟨r,aj,rfl⟩:=sv.1 al;obtain ⟨s,ai,aQ⟩:=O9 (b:=b) (B_.ne r aj);have S4:=(B_.mem s).2 ⟨r,aj,ai⟩;by_cases h:s=e
   ·subst h;rcases aQ with aQ | aQ
    ·rw [←aQ];exact ao.symm.Pc (Ne.symm bM)
    ·rw [←aQ];exact ao.Pc bM
   ·exact ⟨s,Lr.2 ⟨S4,h⟩,aQ⟩
theorem ag9 (ao:¬ qG b (rest b e) (ix b.2 e).1 (ix b.2 e).2) (ad:qH b (rest b e) (ix b.2 e).1≠0) (af:qH b (rest b e) (ix b.2 e).2≠0):(parts b).length<(parts (rR b (rest b e))).length:=by
 have dz:=pZ.len;have C3:=O_ (b:=b) (e:=e);have Iw:∀ x∈rest b e,x∈upto b.2.length:=fun x al=>(Lr.1 al).1;have B_:=(Ku pZ).2.1;have Pc:∀ v,qH b (rest b e) v≠0→∃ s∈rest b e,qv b s v:=fun v ae=>by
  refine Classical.byContradiction fun aN=>ae (LY.2 fun i hi aQ=>aN ⟨i,hi,aQ⟩)
 let c:List Int→Int:=fun r=>if e∈r then (ix b.2 e).1 else O8 b r
 have eB:∀ r∈parts b,∃ s∈r,qv b s (c r):=fun r aj=>by
  by_cases h:e∈r
  ·exact ⟨e,h,by simp only [c,if_pos h];exact .inl rfl⟩
  ·obtain ⟨s,ai,aQ⟩:=O9 (b:=b) (B_.ne r aj);exact ⟨s,ai,by simp only [c,if_neg h];exact aQ⟩
 have aG:=B_.Uz c eB;have:=X5 (X:=(ix b.2 e).2::(parts b).map c) pZ (KR (b:=b) (e:=e)) (by omega) (fun x al=>?_) (tc.2 ⟨fun x al Ci=>?_,aG.imp fun aN h=>aN (h.mono Iw)⟩)
 ·simp only [sI,sZ] at this;omega
 ·rcases sk.1 al with rfl | al
  ·exact Pc _ af
  ·obtain ⟨r,aj,rfl⟩:=sv.1 al;by_cases h:e∈r
   ·simp only [c,if_pos h];exact Pc _ ad
   ·obtain ⟨s,ai,aQ⟩:=eB r aj;exact ⟨s,Lr.2 ⟨(B_.mem s).2 ⟨r,aj,ai⟩,fun cM=>h (cM ▸ ai)⟩,aQ⟩
 ·obtain ⟨r,aj,rfl⟩:=sv.1 al;by_cases h:e∈r
  ·simp only [c,if_pos h] at Ci;exact ao Ci.symm
  ·obtain ⟨s,ai,aQ⟩:=eB r aj;exact h (B_.closed aj ai aQ (Ci.symm.mono Iw) e he (.inr rfl))
theorem adQ (aq:Iy b=[]):qG b (rest b e) (ix b.2 e).1 (ix b.2 e).2:=by
 refine Classical.byContradiction fun ao=>?_;have bM:(ix b.2 e).1≠(ix b.2 e).2:=fun h=>ao (by rw [h];exact .refl);have Xe:=rL.1 he;obtain ⟨j,rfl⟩:∃ j:Nat,e=(j:Int):=⟨e.toNat,by omega⟩;have ai:=Ko pZ (i:=j) (by omega);have bV:=pZ.f6;have c_:∀ v,qH b (upto b.2.length) v=Ie (ix b.2 (j:Int)) v+qH b (rest b j) v:=fun v=>by rw [Le (aic he),MS]
 have lS:∀ v,0≤v∧v<6→qH b (upto b.2.length) v % 2=0:=fun v ae=>by
  have:v ∉ Iy b:=by rw [aq];simp
  unfold Iy at this;rw [Lp] at this;have:=fun h=>this ⟨ae,h⟩;omega
 have adM:Ie (ix b.2 (j:Int)) (ix b.2 (j:Int)).1=1:=by unfold Ie;rw [if_pos rfl,if_neg (Ne.symm bM)]
 have Kg:=lS _ ⟨ai.1,by omega⟩;rw [c_,adM] at Kg;obtain ⟨out,-,B_,-⟩:=U5 (b:=b) (S:=rest b j) pZ.len Yx KR
 have:∃ s∈rest b j,qv b s (ix b.2 (j:Int)).1:=Classical.byContradiction fun aN=>by
  have:=LY.2 fun i hi aQ=>aN ⟨i,hi,aQ⟩;omega
 obtain ⟨s,S5,Xp⟩:=this;obtain ⟨r,aj,gZ⟩:=(B_.mem s).1 S5;have ae_:r.Nodup:=(B_.so r aj).imp fun h e=>by omega
 have sub:∀ {i v},i∈r→qv b i v→qH b r v=qH b (rest b j) v:=fun {i v} hi ae=>adJ Yx ae_ (fun x al=>(B_.mem x).2 ⟨r,aj,al⟩) (B_.closed aj hi ae .refl);have key:q2 b r=[(ix b.2 (j:Int)).1]:=by
  have hm:∀ v,v∈q2 b r↔v=(ix b.2 (j:Int)).1:=fun v=>by
   rw [Lp];constructor
   ·rintro ⟨ae,aq⟩
    have:∃ i∈r,qv b i v:=Classical.byContradiction fun aN=>by
     have:=LY.2 fun i hi aQ=>aN ⟨i,hi,aQ⟩;omega
    obtain ⟨i,hi,Xl⟩:=this;rw [sub hi Xl] at aq;have af:=lS v ae;rw [c_] at af;refine Classical.byContradiction fun afh=>?_;by_cases Xr:v=(ix b.2 (j:Int)).2
    ·exact ao (Xr ▸ B_.IF r aj s gZ i hi _ _ Xp Xl)
    ·have:Ie (ix b.2 (j:Int)) v=0:=by unfold Ie;rw [if_neg (Ne.symm afh),if_neg (Ne.symm Xr)]
     omega
   ·rintro rfl;exact ⟨⟨ai.1,by omega⟩,by rw [sub gZ Xp];omega⟩
  have aC:(q2 b r).Perm [(ix b.2 (j:Int)).1]:=(uy ((Qo r).imp fun h e=>by omega) (by simp)).2 fun v=>by rw [hm v];simp
  exact List.perm_singleton.1 aC
 have:=Oz pZ (S:=r) fun x al=>KR x ((B_.mem x).2 ⟨r,aj,al⟩);rw [key] at this;simp at this
end
theorem XC {e:Int} (pZ:qm b) (he:e∈upto b.2.length):((JV b).any fun x=>decide (x=e))=true↔¬ qG b (rest b e) (ix b.2 e).1 (ix b.2 e).2:=by
 rw [ady,←(XA pZ (rL.1 he)).2,uw];unfold JV;constructor
 ·rintro ⟨x,al,h⟩;rw [decide_eq_true_eq] at h;subst h;exact (sK.1 al).2
 ·intro h;exact ⟨e,sK.2 ⟨he,h⟩,by simp⟩
theorem aik (pZ:qm b) (aS:0<b.2.length) (h:Ly b=0):JV b=[]:=by
 rw [aij pZ aS] at h;have aq:Iy b=[]:=by
  split at h
  ·rename_i bI;exact List.length_eq_zero_iff.1 bI.2
  ·cases h
 refine List.eq_nil_iff_forall_not_mem.2 fun e he=>?_;have hm:=sK.1 he;have:=(XC pZ hm.1).1 (uw.2 ⟨e,he,by simp⟩);exact this (adQ pZ hm.1 aq)
theorem Z7 {which e:Int} (hlen:b.2.length≤10) (hw:(w which).tmod (b.2.length:Int)=e) {k:List Int→Option Bool}:∀ (m i:Nat) (z:Int),z=i→i≤b.2.length→b.2.length-i<m →
  LI b which k m ((upto i).filter fun x=>decide (x≠e)) z=k (rest b e)
 | 0,_,_,_,_,h=>absurd h (by omega)
 | m+1,i,_,rfl,hi,hm=>by
   rw [LI,hw];by_cases h:(i:Int)<(b.2.length:Int)
   ·have ak:=tq (fun x=>decide (x≠e)) (upto i);rw [rF] at ak;have a_:=Z7 (k:=k) hlen hw m (i+1) _ rfl (by omega) (by omega);rw [Q1] at a_;rw [if_pos (decide_eq_true h),rz i (by omega)];by_cases aw:(i:Int)≠e
    ·rw [decide_eq_true aw,if_pos rfl] at a_;rw [if_pos (decide_eq_true aw),qc (by omega)];exact a_
    ·rw [decide_eq_false aw,if_neg (by decide),sP] at a_;rw [if_neg (by simpa using aw)];exact a_
   ·rw [if_neg (by simpa using h),show i=b.2.length by omega];rfl
theorem Z4 {which e:Int} (pZ:qm b) (hw:(w which).tmod (b.2.length:Int)=e) (he:e∈upto b.2.length) {qs:Row×Int}
  (h:(qs.2=0∧qG b (rest b e) (ix b.2 e).1 (ix b.2 e).2∧(ix b.2 e).1≠(ix b.2 e).2∧(It (rR b (rest b e)) qs.1).2.2=0∧qs.1.length≤1000)∨(qs.2≠0∧¬ qG b (rest b e) (ix b.2 e).1 (ix b.2 e).2)) :
  LH b which (rR b (rest b e)) qs (parts b,true) (parts (rR b (rest b e)),true)=some true:=by
 have dz:=pZ.len;have C3:=O_ (b:=b) (e:=e);have bX:=OC pZ (KR (b:=b) (e:=e)) (by omega);have Xa:(rR b (rest b e)).2.length=(rest b e).length:=Mg;unfold LH;rw [hw];rcases h with ⟨aS,ao,bM,av,ak⟩ | ⟨aS,ao⟩
 ·rw [if_pos (decide_eq_true aS),akr _ _ (by omega) ak,sb,if_pos (decide_eq_true av),if_pos (decide_eq_true (by dsimp only;rw [aha pZ he bM ao]))];rfl
 ·obtain ⟨C,bt,e1⟩:=akW bX;rw [if_neg (by simpa using aS),e1,sb];dsimp only;by_cases aC:((parts b).length:Int)<((parts (rR b (rest b e))).length:Int)
  ·rw [if_pos (decide_eq_true aC)];rfl
  rw [if_neg (by simpa using aC)];have Xe:=rL.1 he;obtain ⟨j,rfl⟩:∃ j:Nat,e=(j:Int):=⟨e.toNat,by omega⟩;have ai:=Ko pZ (i:=j) (by omega);have ad_:=bt.len;have eU:(rR b (rest b (j:Int))).1=b.1:=rfl;rw [eU] at bt ad_;have v1:=bt.val _ ai.1 (by omega);have v2:=bt.val _ ai.2.2.1 (by omega);rw [ag2] at v1 v2;rw [qc ⟨ai.1,by omega⟩];by_cases d1:ix C (ix b.2 (j:Int)).1=0
  ·rw [if_pos (decide_eq_true d1)];rfl
  rw [if_neg (by simpa using d1),qc ⟨ai.2.2.1,by omega⟩];by_cases d2:ix C (ix b.2 (j:Int)).2=0
  ·rw [if_pos (decide_eq_true d2)];rfl
  exact absurd (ag9 pZ he ao (by omega) (by omega)) (by omega)
theorem ake {which e:Int} (pZ:qm b) (hw:(w which).tmod (b.2.length:Int)=e) (he:e∈upto b.2.length):∃ qs,LL (rR b (rest b e)) (ix b.2 e).1 (ix b.2 e).2=some qs ∧
  K1 b which (JV b,0) (rR b (rest b e)) qs (parts b,true) (parts (rR b (rest b e)),true)=some true:=by
 have dz:=pZ.len;have C3:=O_ (b:=b) (e:=e);have bX:=OC pZ (KR (b:=b) (e:=e)) (by omega);have Xa:(rR b (rest b e)).2.length=(rest b e).length:=Mg;have lV:(JV b).length≤1000:=sH afy (by omega);have SW:=XC pZ he;have Xe:=rL.1 he;have ai:0≤(ix b.2 e).1∧(ix b.2 e).1<b.1∧0≤(ix b.2 e).2∧(ix b.2 e).2<b.1:=by
  obtain ⟨j,rfl⟩:∃ j:Nat,e=(j:Int):=⟨e.toNat,by omega⟩;exact Ko pZ (i:=j) (by omega)
 have bV:=pZ.f6;by_cases kq:(ix b.2 e).1=(ix b.2 e).2
 ·refine ⟨_,akK bX (fun h=>h.2.2.2.2 kq),?_⟩;have aw:((JV b).any fun x=>decide (x=e))=false:=by
   refine Bool.eq_false_iff.2 fun h=>SW.1 h ?_;rw [kq];exact .refl
  unfold K1;rw [hw,if_pos (decide_eq_true kq),if_pos (by decide),aaq _ _ lV,sb,aw];rfl
 ·obtain ⟨D,qt,e1⟩:=akL bX (f:=(ix b.2 e).1) (t:=(ix b.2 e).2) ⟨ai.1,ai.2.1,ai.2.2.1,ai.2.2.2,kq⟩;refine ⟨_,e1,?_⟩;have Ci:=WD qt (f:=(ix b.2 e).1) ⟨ai.1,by omega⟩;have jA:rI (rR b (rest b e)) (-1) (ix b.2 e).1 (ix b.2 e).2↔qG b (rest b e) (ix b.2 e).1 (ix b.2 e).2:=by
   rw [←Ts,←Xa];exact ⟨rI.Wr,qG.Lc⟩
  unfold K1;rw [hw,if_neg (by simpa using kq),aaq _ _ lV,sb];by_cases aQ:ix D (ix b.2 e).1<0
  ·have a':PU (rR b (rest b e)) D (ix b.2 e).1=([],5):=if_pos aQ;(have fV:¬ qG b (rest b e) (ix b.2 e).1 (ix b.2 e).2:=fun h=>by have:=Ci.2 (jA.2 h);omega);rw [a',SW.2 fV,if_pos (by decide),if_pos (by decide),if_neg (by decide)];exact Z4 pZ hw he (.inr ⟨by decide,fV⟩)
  ·have a':PU (rR b (rest b e)) D (ix b.2 e).1=(Jz (rR b (rest b e)) D (ix D (ix b.2 e).1).toNat (ix b.2 e).1,0):=if_neg aQ;have M9:qG b (rest b e) (ix b.2 e).1 (ix b.2 e).2:=jA.1 (Ci.1 (by omega));have aw:((JV b).any fun x=>decide (x=e))=false:=Bool.eq_false_iff.2 fun h=>SW.1 h M9;have jw:=Wn bX qt (ix D (ix b.2 e).1).toNat (ix b.2 e).1 ai.1 ai.2.1 (by omega);have aU:=WG bX qt ai.1 ai.2.1;have eU:(rR b (rest b e)).1=b.1:=rfl;have M5:0<(ix D (ix b.2 e).1).toNat:=by
    refine Nat.pos_of_ne_zero fun cM=>kq ?_;have hw:=qt.walk (ix b.2 e).1.toNat (by omega) (by rw [tb ai.1];omega);rw [tb ai.1,cM] at hw;exact (show (ix b.2 e).2=(ix b.2 e).1 from hw).symm
   have ak:=jw.len;rw [a',aw,if_pos (show (false == decide ((0:Int)=5))=true from rfl),if_neg (show ¬ decide ((0:Int)≠0)=true by decide)];exact Z4 pZ hw he (.inl ⟨rfl,M9,kq,by rw [jw.check bX M5],by dsimp only;omega⟩)
theorem akd (b:p4) {which:Int} (h:0≤which∧which≤255):Q4 b which=some true:=by
 rw [Q4,akO,sb];by_cases aQ:(decide (b.2.length≤14) && decide (rX b=0))=true
 case neg=>rw [if_neg aQ];simp only [Z_,sb]
 rw [if_pos aQ];simp only [sy,decide_eq_true_eq] at aQ;have pZ:=ID.1 aQ.2;have dz:=pZ.len;by_cases aS:(b.2.length:Int)=0
 ·rw [if_pos (decide_eq_true aS)];simp only [Z_,sb]
 rw [if_neg (by simpa using aS),akC (by omega),sb,akI (by omega),sb,qc aS,XB pZ];have hm:=agJ (x:=w which) (n:=(b.2.length:Int)) (by rw [I8 (by omega)];omega) (by omega);obtain ⟨e,hw⟩:∃ e,(w which).tmod (b.2.length:Int)=e:=⟨_,rfl⟩;rw [hw] at hm;have he:e∈upto b.2.length:=rL.2 hm;have C3:=O_ (b:=b) (e:=e);have bX:=OC pZ (KR (b:=b) (e:=e)) (by omega);obtain ⟨qs,adL,aw⟩:=ake pZ hw he;refine (Z7 dz hw p_ 0 0 rfl (by omega) (rn (by omega))).trans ?_;dsimp only;rw [akS KR (by omega),sb,hw,qc hm,adL,sb,aam pZ,sb,aam bX,sb,aw,aii];dsimp only;rw [if_neg (by simp),if_pos rfl,if_pos rfl];by_cases aj:Ly b=0
 ·rw [if_pos (decide_eq_true aj),aik pZ (by omega) aj];rfl
 ·rw [if_neg (by simpa using aj)]
theorem agF {b:p4} {which:Int} (h:0≤which∧which≤255):ql 12 [.agg [hP b.1,.ay (b.2.flatMap p1) b.2.length .shared],Vm which] (B true):=akg (akd b h)
end
end Go.Proofs.YtfakoboiahbhaaaGreat.Ab
