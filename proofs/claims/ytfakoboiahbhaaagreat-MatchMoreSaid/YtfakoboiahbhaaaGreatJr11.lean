
import Derived.Test.YtfakoboiahbhaaaGreatJr10
import Derived.Test.YtfakoboiahbhaaaGreatJr4
import Derived.Test.YtfakoboiahbhaaaGreatJr9
import Derived.KernelRfl
import Derived.Test.YtfakoboiahbhaaaGreatJr8
set_option linter.unusedSimpArgs false
set_option linter.unusedVariables false
set_option linter.unusedSectionVars false

open Bool renaming and_eq_true→sx,or_eq_true→tH
open Decidable renaming not_not→uJ
open List renaming append_assoc→sj,append_nil→sN,append_of_mem→uW,find?_eq_none→vh,flatten_append→uV,getElem?_append→sc,getElem_mem→sE,length_append→sm,length_cons→sH,length_map→sZ,length_singleton→tn,length_take→sR,map_append→sY,map_congr_left→tR,map_cons→se,mem_append→sS,mem_cons→sk,mem_flatten→tT,mem_map→ss,mem_singleton→sB,not_mem_nil→tN,pairwise_iff_getElem→ti,perm_middle→wj,sum_cons→tj,take_length→tz,take_succ_eq_append_getElem→tx
open Nat renaming le_refl→sb,zero_le→sr
open Option renaming bind_some→r_
namespace Go.Proofs.YtfakoboiahbhaaaGreat.Ab
open Go
set_option maxRecDepth 20000
set_option maxHeartbeats 4000000
theorem ahK {b:p3} {rows:List Row} {k:Nat} (aS:qL b=0) (av:k<rows.length) (aO:∀ r∈rows.take k,(re b r).2.2=0) (ag:(re b rows[k]).2.2≠0):HL b rows=(0,(re b rows[k]).2.2):=by
 unfold HL;rw [if_neg (by simp [aS])]
 have:rows.find? (fun r=>decide ((re b r).2.2≠0))=some rows[k]:=by
  obtain ⟨x,al⟩:∃ x,x=rows[k]:=⟨_,rfl⟩;have e:rows=rows.take k++x::rows.drop (k+1):=by rw [al,←List.drop_eq_getElem_cons av,List.take_append_drop]
  rw [←al] at ag ⊢;conv=>lhs;rw [e]
  rw [List.find?_append,vh.2 (fun r aj=>by simpa using aO r aj),Option.none_or,List.find?_cons_of_pos (by simpa using ag)]
 rw [this]
theorem ahL {b:p3} {rows:List Row} (aS:qL b=0) (aO:∀ r∈rows,(re b r).2.2=0):HL b rows=if ((rows.flatten).map (·.1)).Nodup then (if (rows.flatten).length≠b.2.length then ((0:Int),(15:Int)) else ((rows.length:Int),0)) else (0,11):=by
 unfold HL;rw [if_neg (by simp [aS]),vh.2 (fun r aj=>by simpa using aO r aj)]
theorem VF {l:List Int} (ai:l.Pairwise (·≤·)):∀ k,k≤l.length→((qV l k).length=k↔(l.take k).Nodup)
 | 0,_=>by simp [qV]
 | k+1,av=>by
   have a_:=VF ai k (by omega);have hle:=QW l k;(have HR:k<l.length:=by omega);(have e1:l.getD k 0=l[k]:=by simp [HR]);have aeD:l.take (k+1)=l.take k++[l[k]]:=tx HR;have jI:(l.take (k+1)).Nodup↔(l.take k).Nodup∧l[k] ∉ l.take k:=by
    rw [aeD,List.nodup_append];constructor
    ·rintro ⟨a,_,c⟩;exact ⟨a,fun hm=>c _ hm _ (by simp) rfl⟩
    ·rintro ⟨a,c⟩;exact ⟨a,by simp,fun x al y a0 e=>c (by simp at a0;subst a0;subst e;exact al)⟩
   have kx:l[k]∈l.take k↔0<k∧l.getD k 0=l.getD (k-1) 0:=by
    constructor
    ·intro hm;obtain ⟨i,hi,e⟩:=List.getElem_of_mem hm;(have Wp:i<k:=by simp at hi;omega);rw [List.getElem_take] at e;(have CC:k-1<l.length:=by omega);refine ⟨by omega,?_⟩;rw [e1,show l.getD (k-1) 0=l[k-1] by simp [CC]];have ad:=ti.1 ai (k-1) k CC HR (by omega);have af:l[i]≤l[k-1]:=by
      rcases Nat.lt_or_ge i (k-1) with h | h
      ·exact ti.1 ai i (k-1) (by omega) CC h
      ·have:i=k-1:=by omega
       subst this;exact Int.le_refl _
     omega
    ·rintro ⟨ad,af⟩;(have CC:k-1<l.length:=by omega);rw [e1,show l.getD (k-1) 0=l[k-1] by simp [CC]] at af;rw [af];exact List.mem_iff_getElem.2 ⟨k-1,by simp;omega,by rw [List.getElem_take]⟩
   rw [jI];simp only [qV];split
   ·rename_i h;constructor
    ·intro af;omega
    ·rintro ⟨_,aG⟩;exact absurd (kx.2 h) aG
   ·rename_i h;rw [sm,tn];constructor
    ·intro af;exact ⟨a_.1 (by omega),fun hm=>h (kx.1 hm)⟩
    ·rintro ⟨aG,_⟩;rw [a_.2 aG]
theorem ahX (l:List Int):(GO l).Pairwise (·≤·):=by
 have:=(ND Sort.swo_ltInt l).2;refine this.imp fun h=>?_;simp only [Sort.ltInt,decide_eq_false_iff_not] at h;omega
theorem acL (l:List Int):(qV (GO l) (GO l).length).length<l.length↔¬ l.Nodup:=by
 have ad:=VF (ahX l) (GO l).length (sb _);have af:=QW (GO l) (GO l).length;have aG:=Po l;rw [tz,(X8 l).nodup_iff] at ad;rw [←ad];omega
theorem acF {n:Nat} (ai:Uq n) (aN:n≤1000) {b:p3} {rows:List Row} (ag:b.2.length≤1000) (aj:rows.length≤1000) (C1:∀ r∈rows,r.length≤1000) (ax:(∀ r∈rows,(re b r).2.2=0)→rows.flatten.length≤n) :
  qg 25 [(.agg [(hR b.1),(.ay (b.2.flatMap p0) b.2.length .shared)]),(.ay (rows.map (qy p0)) rows.length .shared)] (.tuple [(hR (HL b rows).1),(hR (HL b rows).2)]):=by
 refine qB dJ ae2 rfl (H5 (pY rfl (pY rfl rfl))) fun Q bl=>?_;have jy:∀ T H,HW [.tmp 4,.tmp 5] (.tuple [(hR (HL b rows).1),(hR (HL b rows).2)]) .ret T H→Q .ret T H:=fun T H bI=>bl _ T H bI;clear bl;have JH:∀ (x y:Int) T H,HL b rows=(x,y)→HW [.tmp 4,.tmp 5] (.tuple [hR x,hR y]) .ret T H→Q .ret T H:=fun x y T H e h=>by
  rw [e] at jy;exact jy T H h
 unfold XD;obtain ⟨acu,MV⟩:∃ c,SY=c:=⟨_,rfl⟩;rw [MV];conv=>whnf
 subst MV;unfold SY;obtain ⟨a',cb⟩:∃ c,SW=c:=⟨_,rfl⟩;obtain ⟨Vv,J4⟩:∃ c,SX=c:=⟨_,rfl⟩;rw [cb,J4];conv=>whnf
 refine ⟨qf.pl,_,ZC (PA b ag),?_⟩;conv=>whnf
 subst cb;unfold SW;conv=>whnf
 by_cases aS:qL b≠0
 ·rw [decide_eq_true aS];conv=>whnf
  exact JH 0 (qL b) _ _ (if_pos aS) (Kg rfl rfl)
 rw [decide_eq_false aS];have aS:=uJ.1 aS;conv=>whnf
 subst J4;unfold SX;obtain ⟨m1,G5⟩:∃ c,S5=c:=⟨_,rfl⟩;obtain ⟨BF,IF⟩:∃ c,O_=c:=⟨_,rfl⟩;obtain ⟨Vu,JF⟩:∃ c,O9=c:=⟨_,rfl⟩;rw [G5,IF,JF];conv=>whnf
 have Oy:∀ k,(rows.take k).flatten.length≤1000*rows.length:=fun k=>by
  refine Nat.le_trans (Q6 fun r aj=>C1 r (List.mem_of_mem_take aj)) ?_;rw [sR];exact Nat.mul_le_mul_left _ (Nat.min_le_right _ _)
 have ak6:1000*rows.length≤1000000:=by omega
 refine .intro (fun m T H=>∃ (k:Nat) (Y:List au),k≤rows.length∧(∀ r∈rows.take k,(re b r).2.2=0)∧m=rows.length-k∧T=GD 73 [(1,(.ay (rows.map (qy p0)) rows.length .shared)),(2,.ptr 0 0),(7,.ay (((rows.take k).flatten.map (·.1)).map hR) ((rows.take k).flatten.map (·.1)).length (.uniq 1)),(20,(.ay (rows.map (qy p0)) rows.length .shared)),(21,hR rows.length),(22,hR (k:Int))]∧H=au.cells [(hR b.1),(.ay (b.2.flatMap p0) b.2.length .shared)]::Y) _ ⟨0,[],by omega,by simp,rfl,rfl,rfl⟩ ?_;rintro m T H ⟨k,Y,av,aO,rfl,rfl,rfl⟩;conv=>whnf
 refine Hs (fun h=>?_) (fun h=>?_)
 ·have HR:k<rows.length:=by omega
  subst G5;unfold S5;obtain ⟨fR,rQ⟩:∃ c,S4=c:=⟨_,rfl⟩;rw [rQ];conv=>whnf
  refine ⟨⟨by omega,h⟩,?_⟩;rw [rP (qy p0) rows (k:Int) ⟨by omega,h⟩,qW HR];conv=>whnf
  subst rQ;unfold S4;obtain ⟨bk,b8⟩:∃ c,SZ=c:=⟨_,rfl⟩;obtain ⟨dY,BZ⟩:∃ c,S3=c:=⟨_,rfl⟩;rw [b8,BZ];conv=>whnf
  refine ⟨qf.pl,_,T5 (T4 b rows[k] ag (C1 _ (sE HR))),?_⟩;conv=>whnf
  subst b8;unfold SZ;conv=>whnf
  by_cases he:(re b rows[k]).2.2≠0
  ·rw [decide_eq_true he];(conv=>whnf);exact JH 0 _ _ _ (ahK aS HR aO he) (Kg rfl rfl)
  rw [decide_eq_false he];have he:=uJ.1 he;conv=>whnf
  subst BZ;unfold S3;obtain ⟨b7,hp⟩:∃ c,S2=c:=⟨_,rfl⟩;rw [hp];conv=>whnf
  have alb:=C1 _ (sE HR);have yD:=Oy k;refine .intro (fun m T H=>∃ (j:Nat) (Y:List au),j≤rows[k].length∧m=rows[k].length-j∧T=GD 73 [(1,(.ay (rows.map (qy p0)) rows.length .shared)),(2,.ptr 0 0),(7,.ay ((((rows.take k).flatten++rows[k].take j).map (·.1)).map hR) (((rows.take k).flatten++rows[k].take j).map (·.1)).length (.uniq 1)),(20,(.ay (rows.map (qy p0)) rows.length .shared)),(21,hR rows.length),(22,hR (k:Int)),(36,(.ay (rows[k].flatMap p0) rows[k].length .shared)),(37,hR rows[k].length),(38,hR (j:Int))]∧H=au.cells [(hR b.1),(.ay (b.2.flatMap p0) b.2.length .shared)]::Y) _ ⟨0,Y,by omega,rfl,by rw [List.take_zero,sN];rfl,rfl⟩ ?_;rintro m T H ⟨j,q6,aw,rfl,rfl,rfl⟩;conv=>whnf
  refine Hs (fun af=>?_) (fun af=>?_)
  ·(have lW:j<rows[k].length:=by omega);subst hp;unfold S2;obtain ⟨bq,d_⟩:∃ c,S1=c:=⟨_,rfl⟩;rw [d_];(conv=>whnf);refine ⟨⟨by omega,af⟩,?_⟩;rw [q3 p0 2 qw rows[k] (j:Int) ⟨by omega,af⟩,qW lW];(conv=>whnf);refine DU (x:=au.cells [(hR (0:Int)),(hR (0:Int))]) (by first | exact ql.h | rfl | (simp [sc,I.settle];done)) ?_
   (conv=>whnf);obtain ⟨A,aK⟩:∃ A,A=((rows.take k).flatten++rows[k].take j).map (·.1):=⟨_,rfl⟩;have Ro:A.length≤1002000:=by
    rw [aK,sZ,sm,sR];omega
   have oX:A++[rows[k][j].1]=((rows.take k).flatten++rows[k].take (j+1)).map (·.1):=by
    rw [tx lW,←sj,sY,←aK];rfl
   rw [←aK];subst d_;unfold S1;(conv=>whnf);have Ul:(A.length:Int)=(A.length:Int)∧0≤(A.length:Int)∧(A.length:Int)≤(A.length:Int):=⟨rfl,by omega,by omega⟩;refine ⟨Ul,?_⟩;erw [X5 hR A (A.length:Int) Ul.2];rw [Int.toNat_natCast,tz];(conv=>whnf);refine DU (x:=au.cells [hR rows[k][j].1,hR rows[k][j].2]) (by first | exact ql.h | rfl | (simp [sc,I.settle];done)) ?_
   (conv=>whnf);refine ⟨rfl,by omega,by omega,by omega,by simp,?_⟩;erw [Ly hR A rows[k][j].1];rw [oX];(conv=>whnf);exact ⟨rows[k].length-(j+1),by omega,j+1,q6++[au.cells [hR rows[k][j].1,hR rows[k][j].2]],by omega,rfl,by rw [←q5 j (by omega)];rfl,by rw [ru];rfl⟩
  ·(have fo:j=rows[k].length:=by omega);(have e:(rows.take k).flatten++rows[k].take j=(rows.take (k+1)).flatten:=by rw [fo,tz,tx HR,uV];simp);rw [e];(conv=>whnf);refine ⟨rows.length-(k+1),by omega,k+1,q6,by omega,fun r aj=>?_,rfl,by rw [←q5 k (by omega)];rfl,rfl⟩;rw [tx HR] at aj;rcases sS.1 aj with aj | aj
   ·exact aO r aj
   ·rw [sB.1 aj];exact he
 ·obtain rfl:k=rows.length:=by omega
  rw [tz] at aO ⊢;have G7:=ahL aS aO;have hlen:=ax aO;obtain ⟨A,aK⟩:∃ A,A=rows.flatten.map (·.1):=⟨_,rfl⟩;have Ro:A.length=rows.flatten.length:=by rw [aK,sZ]
  rw [←aK] at G7 ⊢;obtain ⟨id,aE⟩:∃ id,id=(au.cells [(hR b.1),(.ay (b.2.flatMap p0) b.2.length .shared)]::Y).length:=⟨_,rfl⟩;by_cases LF:A=[]
  ·subst LF;(conv=>whnf);refine .inr ⟨rfl,?_⟩;(conv=>whnf);refine ⟨_,_,Ha ahW,?_⟩;(conv=>whnf);subst IF;unfold O_;obtain ⟨m2,rT⟩:∃ c,Nx=c:=⟨_,rfl⟩;rw [rT];(conv=>whnf);refine ⟨_,_,LB rfl acJ,?_⟩;(conv=>whnf);refine ⟨_,_,Ha acN,?_⟩;(conv=>whnf);subst rT;unfold Nx;(conv=>whnf);rw [if_pos (by simp)] at G7;(have akT:rows.flatten.length=0:=by rw [←Ro];rfl);by_cases iG:(0:Int)<(b.2.length:Int)
   ·rw [show decide (((([]:List Int).length:Nat):Int)<(b.2.length:Int))=true from decide_eq_true iG];(conv=>whnf);exact JH 0 15 _ _ (by rw [G7,if_pos (by omega)]) (Kg rfl rfl)
   ·rw [show decide (((([]:List Int).length:Nat):Int)<(b.2.length:Int))=false from decide_eq_false iG];(conv=>whnf);subst JF;unfold O9;(conv=>whnf);exact JH _ 0 _ _ (by rw [G7,if_neg (by omega)]) (Kg rfl rfl)
  ·have b':A.length≠0:=fun h=>LF (List.length_eq_zero_iff.1 h);(conv=>whnf);refine .inl ⟨b',?_⟩;(conv=>whnf);rw [←aE];refine ⟨_,_,Ha (ai A (by omega) _ id 0 (sr _) (by rw [aE];exact IH _ _)),?_⟩;rw [aE,ru,←aE];(conv=>whnf);subst IF;unfold O_;obtain ⟨m2,rT⟩:∃ c,Nx=c:=⟨_,rfl⟩;rw [rT];(conv=>whnf);obtain ⟨S,cm⟩:∃ S,S=GO A:=⟨_,rfl⟩;(have Oq:S.length=A.length:=by rw [cm,Po]);have Ox:=acL A;rw [←cm] at Ox ⊢;rw [←Oq];rw [←Oq] at Ox;refine ⟨_,_,LB (ra (fun _=>rfl) _ _ _) (VE S [] (by omega) (by omega) (by rw [sN,aE];exact IH _ _)),?_⟩;(conv=>whnf);refine ⟨_,_,Ha (acO S (by omega) (by omega) (sr _)),?_⟩;(conv=>whnf);by_cases aZ:((qV S S.length).length:Int)<(S.length:Int)
   ·rw [decide_eq_true aZ];(conv=>whnf);exact JH 0 11 _ _ (by rw [G7,if_neg (Ox.1 (by omega))]) (Kg rfl rfl)
   rw [decide_eq_false aZ];(conv=>whnf);subst rT;unfold Nx;(conv=>whnf);have jI:A.Nodup:=uJ.1 fun h=>aZ (by have:=Ox.2 h;omega);rw [if_pos jI] at G7;have hle:rows.flatten.length≤b.2.length:=by
    rw [←Ro];refine Kc jI fun x al=>?_;rw [aK] at al;obtain ⟨p,aC,rfl⟩:=ss.1 al;obtain ⟨r,CV,aC⟩:=tT.1 aC;have:=Mc.1 ((VA (aO r CV)).2.2.1 p aC);exact ⟨this.1,this.2.1⟩
   by_cases iG:(S.length:Int)<(b.2.length:Int)
   ·rw [decide_eq_true iG];(conv=>whnf);exact JH 0 15 _ _ (by rw [G7,if_pos (by omega)]) (Kg rfl rfl)
   ·rw [decide_eq_false iG];(conv=>whnf);subst JF;unfold O9;(conv=>whnf);exact JH _ 0 _ _ (by rw [G7,if_neg (by omega)]) (Kg rfl rfl)
def T7 (b:p3) (rows:List Row):Option (Int×Int):=p6 (b.2.length≤1000∧rows.length≤1000∧rows.flatten.length≤12) (some (HL b rows))
theorem af1 {α:Type} {R:List (List α)} {r:List α} (h:r∈R):r.length≤R.flatten.length:=by
 obtain ⟨s,t,rfl⟩:=uW h;simp;omega
theorem ajO {b:p3} {rows:List Row} {v:Int×Int} (h:T7 b rows=some v):qg 25 [(.agg [(hR b.1),(.ay (b.2.flatMap p0) b.2.length .shared)]),(.ay (rows.map (qy p0)) rows.length .shared)] (.tuple [(hR v.1),(hR v.2)]):=by
 obtain ⟨⟨ad,af,aG⟩,h⟩:=qJ h;obtain rfl:=Option.some.inj h;exact acF ahZ (by decide) ad af (fun r aj=>by have:=af1 aj;omega) fun _=>aG
theorem ajN {b:p3} {rows:List Row} (ad:b.2.length≤1000) (af:rows.length≤1000) (aG:rows.flatten.length≤12):T7 b rows=some (HL b rows):=qe ⟨ad,af,aG⟩

noncomputable def aaO:eA :=
 Gx [gO 1 [.hI 0] .box,Gk 2 0,gO 3 [.iC (.bool false)] .iS] (Gx [gO 11 [.sl 1] (.pV (.str 2)),gO 12 [.iC (.func 35 [] []),.sl 11] (.call 3),Gm 10 12,GH 13 10 0,gO 14 [.hL 10] (.ext 1),Gm 4 13,Gm 5 14] (Gx [gO 16 [.sl 1] (.pV (.str 2)),gO 17 [.iC (.func 41 [] []),.sl 16] (.call 3),Gm 15 17,GH 18 15 0,gO 19 [.hL 15] (.ext 1),Gm 6 18,Gm 7 19] (.seq (Gx [Gm 20 5,FY 21 20 0 .neq,Gm 22 21,cP 23 [.hI 7] 22 false .iS,cP 24 [.hL 23,.iC (.int .i64 0)] 22 false (.bin .neq),gO 25 [.hL 22,.iC (.bool true),.hL 24] .pick,Gm 26 25,cP 27 [.sl 6] 26 false .iS,⟨some 28,[.iC (.func 24 [] []),.sl 27],some (26,false),none,.call 3⟩,gO 29 [.hL 26,.iC (.bool true),.hL 28] .pick] (.cond (.sl 29) (Gx [Gm 30 4,Gm 2 30,gO 3 [.iC (.bool false)] .iS] .ret) .skip)) (Gx [gO 32 [.sl 1] (.pV (.str 2)),Gl 33 6,gO 34 [.iC (.func 25 [] []),.sl 32,.sl 33] (.call 3),Gm 31 34,GH 35 31 0,gO 36 [.hL 31] (.ext 1),Gm 8 35,Gm 5 36] (Gx [gO 38 [.hL 1] (.pV (.str 2)),Gm 39 6,gO 40 [.iC (.func 26 [] []),.sl 38,.sl 39] (.call 3),Gm 37 40,GH 41 37 0,gO 42 [.hL 37] (.ext 1),Gm 9 41,Gm 7 42] (Gx [Gl 43 4,Gm 44 5,FY 45 44 0 .eql,Gm 46 45,cP 47 [.hI 7] 46 true .iS,cP 48 [.hL 47,.iC (.int .i64 0)] 46 true (.bin .eql),gO 49 [.hL 46,.hL 48,.iC (.bool false)] .pick,Gm 50 49,cP 51 [.hI 8] 50 true .iS,cP 52 [.sl 4] 50 true .iS,cP 53 [.hL 51,.hL 52] 50 true (.bin .eql),gO 54 [.hL 50,.hL 53,.iC (.bool false)] .pick,Gm 55 54,cP 56 [.hI 9] 55 true .iS,cP 57 [.hI 4] 55 true .iS,cP 58 [.hL 56,.hL 57] 55 true (.bin .eql),gO 59 [.hL 55,.hL 58,.iC (.bool false)] .pick,Gm 2 43,Gm 3 59] .ret))))))
theorem afz:ze Tryz.prog U3 48=some (aaO,60,[.tmp 2,.tmp 3]):=by kernel_rfl
def Kp (b:qb):Option (Int×Bool) :=
 (NQ b).bind fun r1 =>
 (NR b).bind fun r2 =>
 if (decide (r1.2≠(0:Int)))=true then
  some (r1.1,false)
 else
  if (decide (r2.2≠(0:Int)))=true then
   some (r1.1,false)
  else
   (Mp r2.1).bind fun eF =>
   if eF=true then
    some (r1.1,false)
   else
    (T7 b r2.1).bind fun qh =>
    (Mq b r2.1).bind fun qk =>
    if (decide (qh.2=(0:Int)))=true then
     if (decide (qk.2=(0:Int)))=true then
      if (decide (qh.1=r1.1))=true then
       some (r1.1,(decide (qk.1=r1.1)))
      else
       some (r1.1,false)
     else
      some (r1.1,false)
    else
     some (r1.1,false)
theorem ZQ {b:qb} {v:(Int×Bool)} (h:Kp b=some v):qg 48 [(.agg [(hR b.1),(.ay (b.2.flatMap p0) b.2.length .shared)])] (.tuple [(hR v.1),(B v.2)]):=by
 refine qB dJ afz rfl (H5 (pY rfl (pY rfl rfl))) fun Q bl=>?_;have jy:qn [.tmp 2,.tmp 3] Q (fun v=>(.tuple [(hR v.1),(B v.2)])) v:=fun T H bI=>bl _ T H bI;unfold Kp at h;unfold aaO;conv=>whnf
 obtain ⟨r1,eW,h⟩:=p' h;refine ⟨qf.pl,_,ajU eW,?_⟩;conv=>whnf
 obtain ⟨r2,fm,h⟩:=p' h;refine ⟨qf.pl,_,ajW fm,?_⟩;conv=>whnf
 refine bs h (fun qd h=>?_) fun qd h=>?_
 ·rw [qd];conv=>whnf
  exact p4 h jy rfl rfl
 ·rw [qd];conv=>whnf
  refine bs h (fun qq h=>?_) fun qq h=>?_
  ·rw [qq];(conv=>whnf);exact p4 h jy rfl rfl
  ·rw [qq];(conv=>whnf);obtain ⟨eF,qP,h⟩:=p' h;refine ⟨qf.pl,_,ajM qP,?_⟩;(conv=>whnf);cases eF
   ·(conv=>whnf);replace h:=GK rfl h;obtain ⟨qh,q_,h⟩:=p' h;refine ⟨qf.pl,_,ajO q_,?_⟩;(conv=>whnf);obtain ⟨qk,qO,h⟩:=p' h;refine ⟨qf.pl,_,ZK qO,?_⟩;(conv=>whnf);refine bs h (fun qR h=>?_) fun qR h=>?_
    ·rw [qR];(conv=>whnf);refine bs h (fun ry h=>?_) fun ry h=>?_
     ·rw [ry];(conv=>whnf);refine bs h (fun q4 h=>?_) fun q4 h=>?_
      ·rw [q4];(conv=>whnf);exact p4 h jy rfl rfl
      ·rw [q4];(conv=>whnf);exact p4 h jy rfl rfl
     ·rw [ry];(conv=>whnf);exact p4 h jy rfl rfl
    ·rw [qR];(conv=>whnf);exact p4 h jy rfl rfl
   ·(conv=>whnf);replace h:=GL rfl h;exact p4 h jy rfl rfl

end Go.Proofs.YtfakoboiahbhaaaGreat.Ab


namespace Go.Proofs.YtfakoboiahbhaaaGreat.Ab
open Go
section
variable {b:p3}
theorem Lv.adm {R:List Row} (h:Lv b R):R.flatten.length=b.2.length:=by
 have:=h.all.length_eq
 rwa [sZ,rN] at this
theorem ZP (p2:qu b):Kp b=some ((G3 b:Int),true):=by
 have dA:=p2.len;obtain ⟨ad,qM⟩:=L' p2;have ai:=qM.short p2;have ao:=VB p2 qM.toRowsOf qM.ne;rw [Kp,ajT (by omega),r_,ajV (by omega),r_,VS p2,if_pos (G_.2 p2)];rw [if_neg (by simp),if_neg (by simp),ajL (by simp;omega) (fun r aj=>by have:=ai.2 r aj;omega),r_,if_neg (by decide),ajN (by omega) (show (JS b).length≤1000 by omega) (show (JS b).flatten.length≤12 by have:=qM.adm;omega),r_,ZH (by omega) (show (JS b).length≤20 by omega) (fun r aj=>by have:=ai.2 r aj;omega),r_,ao];simp [qM.len]
theorem VW {α:Type} (p:α→Bool):∀ l:List α,(l.filter p).length=(l.map fun x=>if p x=true then 1 else 0).sum
 | []=>rfl
 | x::l=>by
   rw [se,tj,←VW p l,List.filter_cons];split
   ·rw [sH];omega
   ·omega
end
end Go.Proofs.YtfakoboiahbhaaaGreat.Ab


namespace Go.Proofs.YtfakoboiahbhaaaGreat.Ab
open Go
set_option maxRecDepth 20000
set_option maxHeartbeats 4000000
noncomputable def aaQ:eA :=
 Gx [gO 2 [.iC (.ay [] 0 .full)] (.nil 1)] (Gx [Gm 3 0,Gm 2 3] .ret)
theorem afB:ze Tryz.prog U4 52=some (aaQ,4,[.tmp 2]):=by kernel_rfl
def PB (x:qt):Option qt :=
 some x
theorem aj4 {x:qt} {v:qt} (h:PB x=some v):qg 52 [(.ay (x.map (qy p0)) x.length .shared)] (.ay (v.map (qy p0)) v.length .shared):=by
 refine qB dJ afB rfl (ra (fun _=>(qG (fun _=>(pY rfl (pY rfl rfl))) _ _ _)) _ _ _) fun Q bl=>?_;have jy:qn [.tmp 2] Q (fun v=>(.ay (v.map (qy p0)) v.length .shared)) v:=fun T H bI=>bl _ T H bI;unfold PB at h;unfold aaQ;conv=>whnf
 exact p4 h jy rfl rfl

noncomputable def Qg:eA :=
 .seq (Gx [Gm 137 11,gO 138 [.hL 137] (.un .not)] (.cond (.sl 138) (Gx [gO 139 [.iC (.func 17 [] [])] (.call 3),Gm 2 139] .ret) .skip)) (Gx [gO 141 [.sl 1] (.pV (.str 2)),Gl 142 7,gO 143 [.iC (.func 18 [] []),.sl 141,.sl 142] (.call 3),Gm 140 143,GH 144 140 0,GH 145 140 1,gO 146 [.hL 140] (.ext 2),Gm 13 144,Gm 14 145,Gm 15 146] (.seq (Gr [gO 148 [.hL 1] (.pV (.str 2)),Gm 149 7,gO 150 [.hL 149] (.x_ 1 1 [.ay [] 0 .full] [0]),gO 151 [.iC (.func 52 [] []),.sl 150] (.call 3),gO 152 [.iC (.func 26 [] []),.sl 148,.sl 151] (.call 3),Gm 147 152,GH 153 147 0,GH 154 147 1,Gm 16 153,Gm 17 154]) (.seq (Gx [Gm 155 15,FY 156 155 0 .neq,Gm 157 156,cP 158 [.hI 17] 157 false .iS,cP 159 [.hL 158,.iC (.int .i64 0)] 157 false (.bin .neq),gO 160 [.hL 157,.iC (.bool true),.hL 159] .pick] (.cond (.sl 160) (Gx [gO 2 [.iC (.bool false)] .iS] .ret) .skip)) (.seq (Gx [Gm 161 12] (.cond (.sl 161) (Gx [Gm 162 13,Gm 163 14,FZ 164 162 163 .eql,Gm 165 164,⟨some 166,[.iC (.func 17 [] [])],some (165,true),none,.call 3⟩,gO 167 [.hL 165,.hL 166,.iC (.bool false)] .pick,Gm 2 167] .ret) .skip)) (Gx [Gl 168 13,Gl 169 14,gO 170 [.hI 168,.hI 169] .min,Gl 171 5,gO 172 [.hL 171,.iC (.int .i64 0)] (.pO 1),Gj 173 172,FZ 174 170 173 .eql,Gm 175 174,cP 176 [.hI 13] 175 true .iS,cP 177 [.hI 14] 175 true .iS,cP 178 [.hI 176,.hI 177] 175 true .max,cP 179 [.hI 5] 175 true .iS,cP 180 [.hL 179,.iC (.int .i64 1)] 175 true (.pO 1),cP 181 [.hL 180] 175 true (.pV .one),cP 182 [.hL 178,.hL 181] 175 true (.bin .eql),gO 183 [.hL 175,.hL 182,.iC (.bool false)] .pick,Gm 184 183,⟨some 185,[.iC (.func 17 [] [])],some (184,true),none,.call 3⟩,gO 186 [.hL 184,.hL 185,.iC (.bool false)] .pick,Gm 2 186] .ret)))))
noncomputable def Qi:eA :=
 .seq (Gx [Gl 124 12,Gm 125 124,cP 126 [.sl 1] 125 true (.pV (.str 2)),cP 127 [.sl 9] 125 true .iS,⟨some 128,[.iC (.func 22 [] []),.sl 126,.sl 127],some (125,true),none,.call 3⟩,cP 129 [.hL 128,.iC (.int .i64 0)] 125 true (.bin .neq),cP 130 [.hI 129] 125 true .iS,cP 131 [.sl 1] 130 false (.pV (.str 2)),cP 132 [.hI 9] 130 false .iS,⟨some 133,[.iC (.func 23 [] []),.sl 131,.sl 132],some (130,false),none,.call 3⟩,cP 134 [.hL 133,.iC (.int .i64 0)] 130 false (.bin .neq),cP 135 [.hL 130,.iC (.bool true),.hL 134] 125 true .pick,gO 136 [.hL 125,.hL 135,.iC (.bool false)] .pick] (.cond (.sl 136) (Gx [gO 2 [.iC (.bool false)] .iS] .ret) .skip)) Qg
noncomputable def Qj:eA :=
 .seq (Gx [Gl 98 8,FY 99 98 0 .eql,Gl 100 11,gO 101 [.hL 99,.hL 100] (.oD true),Gm 102 101,cP 103 [.sl 10] 102 false .iS,cP 104 [.hL 103,.iC (.int .i64 0)] 102 false (.bin .eql),cP 105 [.sl 12] 102 false .iS,cP 106 [.hL 104,.hL 105] 102 false (.oD true),gO 107 [.hL 102,.iC (.bool true),.hL 106] .pick,Gm 108 107,cP 109 [.sl 11] 108 false .iS,cP 110 [.hL 109] 108 false (.un .not),cP 111 [.hI 110] 108 false .iS,cP 112 [.hI 8] 111 true .iS,cP 113 [.hL 112,.iC (.int .i64 27)] 111 true (.bin .neq),cP 114 [.hL 111,.hL 113,.iC (.bool false)] 108 false .pick,gO 115 [.hL 108,.iC (.bool true),.hL 114] .pick,Gm 116 115,cP 117 [.sl 12] 116 false .iS,cP 118 [.hL 117] 116 false (.un .not),cP 119 [.hI 118] 116 false .iS,cP 120 [.hI 10] 119 true .iS,cP 121 [.hL 120,.iC (.int .i64 27)] 119 true (.bin .neq),cP 122 [.hL 119,.hL 121,.iC (.bool false)] 116 false .pick,gO 123 [.hL 116,.iC (.bool true),.hL 122] .pick] (.cond (.sl 123) (Gx [gO 2 [.iC (.bool false)] .iS] .ret) .skip)) Qi
noncomputable def aa3:eA :=
 Gx [gO 1 [.hI 0] .box,gO 2 [.iC (.bool false)] .iS] (.seq (Gx [gO 18 [.sl 1] (.pV (.str 2)),gO 19 [.iC (.func 47 [] []),.sl 18] (.call 3),gO 20 [.hL 19] (.un .not)] (.cond (.sl 20) (Gx [gO 21 [.iC (.func 17 [] [])] (.call 3),Gm 2 21] .ret) .skip)) (Gx [gO 23 [.sl 1] (.pV (.str 2)),gO 24 [.iC (.func 49 [] []),.sl 23] (.call 3),Gm 22 24,GH 25 22 0,gO 26 [.hL 22] (.ext 1),Gm 3 25,Gm 4 26] (Gx [gO 28 [.sl 1] (.pV (.str 2)),gO 29 [.iC (.func 27 [] []),.sl 28] (.call 3),Gm 27 29,GH 30 27 0,gO 31 [.hL 27] (.ext 1),Gm 5 30,Gm 6 31] (Gx [gO 33 [.sl 1] (.pV (.str 2)),gO 34 [.iC (.func 37 [] []),.sl 33] (.call 3),Gm 32 34,GH 35 32 0,gO 36 [.hL 32] (.ext 1),Gm 7 35,Gm 8 36] (Gx [gO 38 [.sl 1] (.pV (.str 2)),gO 39 [.iC (.func 42 [] []),.sl 38] (.call 3),Gm 37 39,GH 40 37 0,gO 41 [.hL 37] (.ext 1),Gm 9 40,Gm 10 41] (.seq (Gx [Gm 42 4,gO 43 [.hL 42] (.un .not),Gm 44 43,cP 45 [.hI 6] 44 false .iS,cP 46 [.hL 45,.iC (.int .i64 0)] 44 false (.bin .neq),gO 47 [.hL 44,.iC (.bool true),.hL 46] .pick,Gm 48 47,cP 49 [.sl 7] 48 false .iS,cP 50 [.hI 49] 48 false .w8,cP 51 [.sl 1] 48 false (.oR 1),cP 52 [.hL 51] 48 false (.pV .one),cP 53 [.hI 52] 48 false .w8,cP 54 [.hL 50,.hL 53] 48 false (.bin .gtr),gO 55 [.hL 48,.iC (.bool true),.hL 54] .pick,Gm 56 55,cP 57 [.sl 9] 56 false .iS,cP 58 [.hI 57] 56 false .w8,cP 59 [.sl 1] 56 false (.oR 1),cP 60 [.hL 59] 56 false (.pV .one),cP 61 [.hI 60] 56 false .w8,cP 62 [.hL 58,.hL 61] 56 false (.bin .gtr),gO 63 [.hL 56,.iC (.bool true),.hL 62] .pick] (.cond (.sl 63) (Gx [gO 2 [.iC (.bool false)] .iS] .ret) .skip)) (.seq (Gx [gO 64 [.sl 1] (.oR 1),Gj 65 64,Gi 66 65,FY 67 66 0 .eql] (.cond (.sl 67) (Gx [Gm 68 8,FY 69 68 5 .eql,Gm 70 69,cP 71 [.hI 10] 70 true .iS,cP 72 [.hL 71,.iC (.int .i64 5)] 70 true (.bin .eql),gO 73 [.hL 70,.hL 72,.iC (.bool false)] .pick,Gm 74 73,cP 75 [.hI 5] 74 true .iS,cP 76 [.hI 75] 74 true .w8,cP 77 [.hL 76,.iC (.int .i64 0)] 74 true (.bin .eql),gO 78 [.hL 74,.hL 77,.iC (.bool false)] .pick,Gm 79 78,⟨some 80,[.iC (.func 17 [] [])],some (79,true),none,.call 3⟩,gO 81 [.hL 79,.hL 80,.iC (.bool false)] .pick,Gm 2 81] .ret) .skip)) (Gx [Gl 82 3,Gi 83 82,FY 84 83 1 .eql,Gm 85 84,cP 86 [.sl 5] 85 true .iS,cP 87 [.hI 86] 85 true .w8,cP 88 [.hL 87,.iC (.int .i64 2)] 85 true (.bin .leq),gO 89 [.hL 85,.hL 88,.iC (.bool false)] .pick,Gm 90 3,Gi 91 90,FY 92 91 1 .eql,Gm 93 92,cP 94 [.sl 5] 93 true .iS,cP 95 [.hI 94] 93 true .w8,cP 96 [.hL 95,.iC (.int .i64 0)] 93 true (.bin .eql),gO 97 [.hL 93,.hL 96,.iC (.bool false)] .pick,Gm 11 89,Gm 12 97] Qj))))))))
theorem afO:ze Tryz.prog MN 8=some (aa3,187,[.tmp 2]):=by kernel_rfl
def Jy (b:qb) (eF:(qa×Int)) (qh:(qc×Int)) (mi Jm:Bool):Option Bool :=
 if mi=true then
  (K7 b qh.1).bind fun H6 =>
  (PB [qh.1]).bind fun Hm =>
  (Mq b Hm).bind fun KZ =>
  if (decide (H6.2.2≠(0:Int)))=true then
   some false
  else
   if (decide (KZ.2≠(0:Int)))=true then
    some false
   else
    if Jm=true then
     if (decide (H6.1=H6.2.1))=true then
      (Iz).bind fun Nk =>
      some Nk
     else
      some false
    else
     p6 (0≤(0:Int)∧(0:Int)<(eF.1.length:Int)) <|
     if (decide ((min H6.1 H6.2.1)=(ix eF.1 (0:Int))))=true then
      p6 (0≤(1:Int)∧(1:Int)<(eF.1.length:Int)) <|
      if (decide ((max H6.1 H6.2.1)=(ix eF.1 (1:Int))))=true then
       (Iz).bind fun Sj =>
       some Sj
      else
       some false
     else
      some false
 else
  (Iz).bind fun Xv =>
  some Xv
def Jx (b:qb) (eF:(qa×Int)) (qh:(qc×Int)) (qk:(qc×Int)) (mi mj:Bool):Option Bool :=
 if mj=true then
  (Le b qk.1).bind fun HT =>
  if (decide (HT≠(0:Int)))=true then
   some false
  else
   (Mo b qk.1).bind fun Jp =>
   if (decide (Jp≠(0:Int)))=true then
    some false
   else
    Jy b eF qh mi true
 else
  Jy b eF qh mi false
def Kw (b:qb) (eF:(qa×Int)) (qh:(qc×Int)) (qk:(qc×Int)) (du dm:Bool):Option Bool :=
 if ((decide (qh.2=(0:Int))) == du)=true then
  if ((decide (qk.2=(0:Int))) == dm)=true then
   if du=true then
    if dm=true then
     Jx b eF qh qk true true
    else
     if (decide (qk.2≠(27:Int)))=true then
      some false
     else
      Jx b eF qh qk true false
   else
    if (decide (qh.2≠(27:Int)))=true then
     some false
    else
     if dm=true then
      Jx b eF qh qk false true
     else
      if (decide (qk.2≠(27:Int)))=true then
       some false
      else
       Jx b eF qh qk false false
  else
   some false
 else
  some false
def PH (b:qb):Option Bool :=
 (Ms b).bind fun r1 =>
 if r1=true then
  (NT b).bind fun r2 =>
  (JT b).bind fun eF =>
  (Mr b).bind fun qh =>
  (NS b).bind fun qk =>
  if r2.2=true then
   if (decide (eF.2≠(0:Int)))=true then
    some false
   else
    if (decide ((b.2.length:Int)<(qh.1.length:Int)))=true then
     some false
    else
     if (decide ((b.2.length:Int)<(qk.1.length:Int)))=true then
      some false
     else
      if (decide ((b.2.length:Int)=(0:Int)))=true then
       if (decide (qh.2=(5:Int)))=true then
        if (decide (qk.2=(5:Int)))=true then
         if (decide ((eF.1.length:Int)=(0:Int)))=true then
          (Iz).bind fun rJ =>
          some rJ
         else
          some false
        else
         some false
       else
        some false
      else
       if (decide ((r2.1.length:Int)=(1:Int)))=true then
        if (decide ((r2.1.length:Int)=(1:Int)))=true then
         Kw b eF qh qk (decide ((eF.1.length:Int)≤(2:Int))) (decide ((eF.1.length:Int)=(0:Int)))
        else
         Kw b eF qh qk (decide ((eF.1.length:Int)≤(2:Int))) false
       else
        if (decide ((r2.1.length:Int)=(1:Int)))=true then
         Kw b eF qh qk false (decide ((eF.1.length:Int)=(0:Int)))
        else
         Kw b eF qh qk false false
  else
   some false
 else
  (Iz).bind fun Xw =>
  some Xw
theorem aae {b:qb} {eF:(qa×Int)} {qh:(qc×Int)} {mi:Bool} {Jm:Bool} {v:Bool} {Q:rp}  {p5:List I}  (jy:qn [.tmp 2] Q (fun v=>(B v)) v) (qi:q7 187 [(1,(.ptr 0 0)),(5,(qj eF.1 .shared)),(7,(p7 qh.1 .shared)),(11,(B mi)),(12,(B Jm))] p5) (h:Jy b eF qh mi Jm=some v) :
  dD Tryz.prog MN 8 0 none Qg p5 [G' b] Q:=by
 obtain ⟨qZ,rfl⟩:=qi.ex;unfold Jy at h;unfold Qg;conv=>whnf
 cases mi
 ·conv=>whnf
  replace h:=GK rfl h;obtain ⟨Xv,adM,h⟩:=p' h;refine ⟨rfl,_,Kn adM,?_⟩;conv=>whnf
  exact p4 h jy rfl rfl
 ·conv=>whnf
  replace h:=GL rfl h;obtain ⟨H6,HP,h⟩:=p' h;refine ⟨qf.pl,_,T5 HP,?_⟩;conv=>whnf
  obtain ⟨Hm,Jg,h⟩:=p' h;refine ⟨(pY (O2 (pY (qG (fun _=>(pY rfl (pY rfl rfl))) _ _ _) rfl)) rfl),_,aj4 Jg,IE,?_⟩;conv=>whnf
  obtain ⟨KZ,Jh,h⟩:=p' h;refine ⟨qf.pl,_,ZK Jh,Qy rfl,?_⟩;conv=>whnf
  refine bs h (fun Is h=>?_) fun Is h=>?_
  ·rw [Is];(conv=>whnf);exact p4 h jy rfl rfl
  ·rw [Is];(conv=>whnf);refine bs h (fun J9 h=>?_) fun J9 h=>?_
   ·rw [J9];(conv=>whnf);exact p4 h jy rfl rfl
   ·rw [J9];(conv=>whnf);cases Jm
    ·(conv=>whnf);replace h:=GK rfl h;refine qm h id fun M3 h=>?_;rw [rP hR eF.1 (0:Int) M3];(conv=>whnf);refine bs h (fun M4 h=>?_) fun M4 h=>?_
     ·rw [M4];(conv=>whnf);refine qm h id fun Ry h=>?_;rw [rP hR eF.1 (1:Int) Ry];(conv=>whnf);refine bs h (fun M5 h=>?_) fun M5 h=>?_
      ·rw [M5];(conv=>whnf);obtain ⟨Sj,adL,h⟩:=p' h;refine ⟨rfl,_,Kn adL,?_⟩;(conv=>whnf);exact p4 h jy rfl rfl
      ·rw [M5];(conv=>whnf);exact p4 h jy rfl rfl
     ·rw [M4];(conv=>whnf);exact p4 h jy rfl rfl
    ·(conv=>whnf);replace h:=GL rfl h;refine bs h (fun M1 h=>?_) fun M1 h=>?_
     ·rw [M1];(conv=>whnf);obtain ⟨Nk,Rx,h⟩:=p' h;refine ⟨rfl,_,Kn Rx,?_⟩;(conv=>whnf);exact p4 h jy rfl rfl
     ·rw [M1];(conv=>whnf);exact p4 h jy rfl rfl
theorem PO {b:qb} {eF:(qa×Int)} {qh:(qc×Int)} {qk:(qc×Int)} {mi:Bool} {mj:Bool} {v:Bool} {Q:rp}  {p5:List I}  (jy:qn [.tmp 2] Q (fun v=>(B v)) v) (qi:q7 187 [(1,(.ptr 0 0)),(5,(qj eF.1 .shared)),(7,(p7 qh.1 .shared)),(9,(p7 qk.1 .shared)),(11,(B mi)),(12,(B mj))] p5) (h:Jx b eF qh qk mi mj=some v) :
  dD Tryz.prog MN 8 0 none Qi p5 [G' b] Q:=by
 obtain ⟨qZ,rfl⟩:=qi.ex;unfold Jx at h;unfold Qi;obtain ⟨Hn,qC⟩:∃ c,Qg=c:=⟨_,rfl⟩;rw [qC];conv=>whnf
 cases mj
 ·conv=>whnf
  replace h:=GK rfl h;subst qC;refine aae ?_ (by exact ⟨rfl,rfl⟩) h;exact fun T H bI=>jy T H bI
 ·conv=>whnf
  replace h:=GL rfl h;obtain ⟨HT,Iq,h⟩:=p' h;refine ⟨qf.pl,_,ZF Iq,?_⟩;conv=>whnf
  refine bs h (fun Hi h=>?_) fun Hi h=>?_
  ·rw [Hi];(conv=>whnf);exact p4 h jy rfl rfl
  ·rw [Hi];(conv=>whnf);obtain ⟨Jp,JJ,h⟩:=p' h;refine ⟨qf.pl,_,ajI JJ,?_⟩;(conv=>whnf);refine bs h (fun Ir h=>?_) fun Ir h=>?_
   ·rw [Ir];(conv=>whnf);exact p4 h jy rfl rfl
   ·rw [Ir];(conv=>whnf);subst qC;refine aae ?_ (by exact ⟨rfl,rfl⟩) h;exact fun T H bI=>jy T H bI
theorem PN {b:qb} {eF:(qa×Int)} {qh:(qc×Int)} {qk:(qc×Int)} {du:Bool} {dm:Bool} {v:Bool} {Q:rp}  {p5:List I}  (jy:qn [.tmp 2] Q (fun v=>(B v)) v) (qi:q7 187 [(1,(.ptr 0 0)),(5,(qj eF.1 .shared)),(7,(p7 qh.1 .shared)),(8,(hR qh.2)),(9,(p7 qk.1 .shared)),(10,(hR qk.2)),(11,(B du)),(12,(B dm))] p5) (h:Kw b eF qh qk du dm=some v) :
  dD Tryz.prog MN 8 0 none Qj p5 [G' b] Q:=by
 obtain ⟨qZ,rfl⟩:=qi.ex;unfold Kw at h;unfold Qj;obtain ⟨KD,rU⟩:∃ c,Qi=c:=⟨_,rfl⟩;rw [rU];conv=>whnf
 refine bs h (fun HO h=>?_) fun HO h=>?_
 ·rw [HO];conv=>whnf
  refine bs h (fun G6 h=>?_) fun G6 h=>?_
  ·rw [G6];(conv=>whnf);cases du
   ·(conv=>whnf);replace h:=GK rfl h;refine bs h (fun RA h=>?_) fun RA h=>?_
    ·rw [RA];(conv=>whnf);exact p4 h jy rfl rfl
    ·rw [RA];(conv=>whnf);cases dm
     ·(conv=>whnf);replace h:=GK rfl h;refine bs h (fun RB h=>?_) fun RB h=>?_
      ·rw [RB];(conv=>whnf);exact p4 h jy rfl rfl
      ·rw [RB];(conv=>whnf);subst rU;refine PO ?_ (by exact ⟨rfl,rfl⟩) h;exact fun T H bI=>jy T H bI
     ·(conv=>whnf);replace h:=GL rfl h;subst rU;refine PO ?_ (by exact ⟨rfl,rfl⟩) h;exact fun T H bI=>jy T H bI
   ·(conv=>whnf);replace h:=GL rfl h;cases dm
    ·(conv=>whnf);replace h:=GK rfl h;refine bs h (fun Rz h=>?_) fun Rz h=>?_
     ·rw [Rz];(conv=>whnf);exact p4 h jy rfl rfl
     ·rw [Rz];(conv=>whnf);subst rU;refine PO ?_ (by exact ⟨rfl,rfl⟩) h;exact fun T H bI=>jy T H bI
    ·(conv=>whnf);replace h:=GL rfl h;subst rU;refine PO ?_ (by exact ⟨rfl,rfl⟩) h;exact fun T H bI=>jy T H bI
  ·rw [G6];(conv=>whnf);exact p4 h jy rfl rfl
 ·rw [HO];conv=>whnf
  exact p4 h jy rfl rfl
theorem ako {b:qb} {v:Bool} (h:PH b=some v):qg 8 [(.agg [(hR b.1),(.ay (b.2.flatMap p0) b.2.length .shared)])] (B v):=by
 refine qB dJ afO rfl rfl fun Q bl=>?_;have jy:qn [.tmp 2] Q (fun v=>(B v)) v:=fun T H bI=>bl _ T H bI;unfold PH at h;unfold aa3;obtain ⟨Vw,IW⟩:∃ c,Qj=c:=⟨_,rfl⟩;rw [IW];conv=>whnf
 obtain ⟨r1,eW,h⟩:=p' h;refine ⟨qf.pl,_,ZO eW,?_⟩;conv=>whnf
 cases r1
 ·conv=>whnf
  replace h:=GK rfl h;obtain ⟨Xw,adN,h⟩:=p' h;refine ⟨rfl,_,Kn adN,?_⟩;conv=>whnf
  exact p4 h jy rfl rfl
 ·conv=>whnf
  replace h:=GL rfl h;obtain ⟨r2,fm,h⟩:=p' h;refine ⟨qf.pl,_,aj2 fm,?_⟩;conv=>whnf
  obtain ⟨eF,qd,h⟩:=p' h;refine ⟨qf.pl,_,T9 qd,?_⟩;conv=>whnf
  obtain ⟨qh,qq,h⟩:=p' h;refine ⟨qf.pl,_,ZM qq,?_⟩;conv=>whnf
  obtain ⟨qk,qP,h⟩:=p' h;refine ⟨qf.pl,_,ajY qP,?_⟩;conv=>whnf
  refine bs h (fun q_ h=>?_) fun q_ h=>?_
  ·rw [q_];(conv=>whnf);refine bs h (fun qO h=>?_) fun qO h=>?_
   ·rw [qO];(conv=>whnf);exact p4 h jy rfl rfl
   ·rw [qO];(conv=>whnf);refine bs h (fun qR h=>?_) fun qR h=>?_
    ·rw [qR];(conv=>whnf);exact p4 h jy rfl rfl
    ·rw [qR];(conv=>whnf);refine bs h (fun ry h=>?_) fun ry h=>?_
     ·rw [ry];(conv=>whnf);exact p4 h jy rfl rfl
     ·rw [ry];(conv=>whnf);refine bs h (fun q4 h=>?_) fun q4 h=>?_
      ·rw [q4];(conv=>whnf);refine bs h (fun rV h=>?_) fun rV h=>?_
       ·rw [rV];(conv=>whnf);refine bs h (fun rE h=>?_) fun rE h=>?_
        ·rw [rE];(conv=>whnf);refine bs h (fun rz h=>?_) fun rz h=>?_
         ·rw [rz];(conv=>whnf);obtain ⟨rJ,rS,h⟩:=p' h;refine ⟨rfl,_,Kn rS,?_⟩;(conv=>whnf);exact p4 h jy rfl rfl
         ·rw [rz];(conv=>whnf);exact p4 h jy rfl rfl
        ·rw [rE];(conv=>whnf);exact p4 h jy rfl rfl
       ·rw [rV];(conv=>whnf);exact p4 h jy rfl rfl
      ·rw [q4];(conv=>whnf);refine bs h (fun HD h=>?_) fun HD h=>?_
       ·rw [HD];(conv=>whnf);refine bs h (fun GR h=>?_) fun GR h=>?_
        ·rw [GR];(conv=>whnf);subst IW;refine PN ?_ (by exact ⟨rfl,rfl⟩) h;exact fun T H bI=>jy T H bI
        ·rw [GR];(conv=>whnf);subst IW;refine PN ?_ (by exact ⟨rfl,rfl⟩) h;exact fun T H bI=>jy T H bI
       ·rw [HD];(conv=>whnf);refine bs h (fun RC h=>?_) fun RC h=>?_
        ·rw [RC];(conv=>whnf);subst IW;refine PN ?_ (by exact ⟨rfl,rfl⟩) h;exact fun T H bI=>jy T H bI
        ·rw [RC];(conv=>whnf);subst IW;refine PN ?_ (by exact ⟨rfl,rfl⟩) h;exact fun T H bI=>jy T H bI
  ·rw [q_];(conv=>whnf);exact p4 h jy rfl rfl
end Go.Proofs.YtfakoboiahbhaaaGreat.Ab


namespace Go.Proofs.YtfakoboiahbhaaaGreat.Ab
open Go
section
variable {b:p3}
theorem af5 (r:List Int):1≤IK b r:=by unfold IK;omega
theorem agq:(parts b).length≤G3 b:=by
 unfold G3;generalize parts b=P
 induction P with
 | nil=>simp
 | cons r P a_ =>
   have:=af5 (b:=b) r;rw [se,tj,sH];omega
theorem ags (p2:qu b) (aS:0<b.2.length):parts b≠[]:=fun e=>by
 have:=(Sb p2).length_eq;rw [e,rN] at this;simp at this;omega
theorem VU (p2:qu b) (aS:0<b.2.length):G3 b≤1↔(parts b).length=1∧(qN b).length≤2:=by
 have hle:=agq (b:=b);have bM:=List.length_pos_iff.2 (ags p2 aS);have lT:=Nd p2 (S:=upto b.2.length) IP;have key:(parts b).length=1→G3 b=max 1 ((qN b).length / 2):=fun ad=>by
  obtain ⟨r,aj⟩:=List.length_eq_one_iff.1 ad;have aC:=Sb p2;rw [aj] at aC
  have:r.Perm (upto b.2.length):=by simpa using aC
  unfold G3 qN;rw [aj,←af9 this];simp [IK]
 constructor
 ·intro h;have ad:(parts b).length=1:=by omega
  have:=key ad;refine ⟨ad,?_⟩
  have:(qN b).length=(qU b (upto b.2.length)).length:=rfl
  omega
 ·rintro ⟨ad,af⟩;rw [key ad];omega
theorem Xa (p2:qu b) (aS:0<b.2.length):GV b=if (parts b).length=1∧(qN b).length≤2 then 0 else 27:=by
 unfold GV;rw [if_neg (by simp [G_.2 p2]),if_neg (by omega)];by_cases h:1<G3 b
 ·rw [if_pos h,if_neg fun bI=>by have:=(VU p2 aS).2 bI;omega]
 ·rw [if_neg h,if_pos ((VU p2 aS).1 (by omega))]
theorem ahz (p2:qu b) (aS:0<b.2.length):Iw b=if (parts b).length=1∧(qN b).length=0 then 0 else 27:=by
 unfold Iw;rw [Xa p2 aS];by_cases h:(parts b).length=1∧(qN b).length≤2
 ·rw [if_pos h,if_pos rfl];by_cases af:0<(qN b).length
  ·rw [if_pos af,if_neg fun bI=>by omega]
  ·rw [if_neg af,if_pos ⟨h.1,by omega⟩]
 ·rw [if_neg h,if_neg (by decide),if_neg fun bI=>h ⟨bI.1,by omega⟩]
theorem aga (h:b.2.length=0):qN b=[]:=by
 unfold qN;rw [h];rfl
theorem agd:(Hy b).1.length≤b.2.length:=by
 unfold Hy;split
 ·simp
 ·rename_i h;exact Nat.le_of_eq (KY (uJ.1 h))
theorem ahy:(I2 b).1.length≤b.2.length:=by
 unfold I2;split
 ·rename_i h;exact Nat.le_of_eq (KY (XN h).1)
 ·simp
theorem W':(Hy b).2=GV b:=by
 unfold Hy;split
 ·rfl
 ·rename_i h;exact (uJ.1 h).symm
theorem aj3 (r:List Row):PB r=some r:=rfl
theorem aac (p2:qu b) (aS:0<b.2.length) {Jm:Bool} (ad:GV b=0) (aw:Jm=decide ((qN b).length=0)) (af:(qN b).length≤2):Jy b (qN b,0) (Hy b) true Jm=some true:=by
 have dA:=p2.len;obtain ⟨f,c,bX,bM,ao,aj⟩:=Xd ad;have ak:=KY ad;have lM:RowsOf b (upto b.2.length) [G0 b]:=⟨fun r aj p aC=>by rw [sB.1 aj] at aC;exact bX.ok p aC,fun r aj=>by rw [sB.1 aj];exact ⟨f,c,bX.go⟩,by simpa using bX.all⟩;have iH:=VB p2 lM (fun r aj=>by rw [sB.1 aj];exact bM);have Hw:=bX.OT p2 bM;have lT:=Nd p2 (S:=upto b.2.length) IP;have aew:=OV (b:=b) (upto b.2.length);rw [Jy,if_pos rfl,W_ ad];dsimp only;rw [T4 b (G0 b) (by omega) (by omega),r_,aj3,r_,ZH (by omega) (by simp) (fun r aj=>by rw [sB.1 aj];omega),r_,ao,iH];dsimp only;rw [if_neg (by simp),if_neg (by simp)];by_cases he:(qN b).length=0
 ·have RL:f=c:=Classical.byContradiction fun h=>by
   have:=(Hw.2 h).length_eq;have aX:(qU b (upto b.2.length)).length=0:=he;rw [aX] at this;simp at this
  rw [if_pos (by rw [aw];exact decide_eq_true he),if_pos (decide_eq_true RL)];simp only [Ko,r_]
 ·have RL:f≠c:=fun h=>he (by
   show (qU b (upto b.2.length)).length=0
   rw [Hw.1 h];rfl)
  have aC:=Hw.2 RL;have fa:(qN b).length=2:=aC.length_eq;have Gb:qN b=[min f c,max f c]:=by
   have CV:([min f c,max f c]:List Int).Pairwise (·<·):=by
    simp only [List.pairwise_cons,sB,tN,false_imp_iff,implies_true,and_true,List.Pairwise.nil];intro a cd;omega
   refine TB aew CV fun x=>?_;show x∈qU b (upto b.2.length)↔_;rw [aC.mem_iff];simp only [sk,tN,or_false];omega
  rw [if_neg (by rw [aw];simpa using he),qe ⟨by omega,by omega⟩,Gb,if_pos (decide_eq_true (show min f c=ix [min f c,max f c] 0 from rfl)),qe ⟨by omega,by simp⟩,if_pos (decide_eq_true (show max f c=ix [min f c,max f c] 1 from rfl))];simp only [Ko,r_]
theorem aad {Jm:Bool}:Jy b (qN b,0) (Hy b) false Jm=some true:=by
 rw [Jy,if_neg (by decide)];simp only [Ko,r_]
theorem akn (b:p3):PH b=some true:=by
 rw [PH,ZN,r_];by_cases aQ:(decide (b.2.length≤14) && decide (qL b=0))=true
 case neg=>rw [if_neg aQ];simp only [Ko,r_]
 rw [if_pos aQ];simp only [sx,decide_eq_true_eq] at aQ;have p2:=G_.1 aQ.2;have dA:=p2.len;have jJ:=agd (b:=b);have dr:=ahy (b:=b);rw [ajZ p2,r_,T8 (by omega),r_,ZL (by omega),r_,ajX (by omega),r_,OU p2];dsimp only;rw [if_pos rfl,if_neg (by simp),if_neg (by rw [decide_eq_true_eq];omega),if_neg (by rw [decide_eq_true_eq];omega),W',XM];by_cases aS:b.2.length=0
 ·have e1:GV b=5:=by unfold GV;rw [if_neg (by simp [G_.2 p2]),if_pos aS]
  have ck:Iw b=5:=by unfold Iw;rw [e1];rfl
  rw [if_pos (by simp [aS]),e1,if_pos (by decide),ck,if_pos (by decide),aga aS,if_pos (by decide)];simp only [Ko,r_]
 have Oh:0<b.2.length:=by omega
 have VM:=Xa p2 Oh;have VN:=ahz p2 Oh;have akY:∀ {p:Prop},p→p:=id;rw [if_neg (by simpa using aS)];have du:∀ (x y:Bool),(x=true↔(parts b).length=1∧(qN b).length≤2)→(y=true↔(parts b).length=1∧(qN b).length=0)→Kw b (qN b,0) (Hy b) (I2 b) x y=some true:=fun x y al a0=>by
  have h5:GV b=0↔x=true:=by rw [VM,al];split <;> simp_all
  have aey:Iw b=0↔y=true:=by rw [VN,a0];split <;> simp_all
  have h3:¬ x=true→GV b=27:=fun h=>by rw [VM,if_neg fun bI=>h (al.2 bI)]
  have C2:¬ y=true→Iw b=27:=fun h=>by rw [VN,if_neg fun bI=>h (a0.2 bI)]
  rw [Kw,W',XM];have d1:decide (GV b=0)=x:=by cases x <;> simp_all
  have d2:decide (Iw b=0)=y:=by cases y <;> simp_all
  rw [d1,d2,if_pos (by simp),if_pos (by simp)];have Wv:∀ {mi:Bool},y=true→Jx b (qN b,0) (Hy b) (I2 b) mi true=Jy b (qN b,0) (Hy b) mi true:=fun {mi} h=>by
   have Wu:=aey.2 h;have eo:=XN Wu;have fp:=(Xc eo.1).1.2 eo.2;have h6:=KY eo.1;(have e:I2 b=(G0 b,0):=by unfold I2;rw [if_pos Wu]);rw [Jx,if_pos rfl,e];dsimp only;rw [ZE b _ (by omega) (by omega),r_,fp,if_neg (by simp),ajH b _ (by omega) (by omega),r_,fp,if_neg (by simp)]
  have fX:∀ {mi:Bool},Jx b (qN b,0) (Hy b) (I2 b) mi false=Jy b (qN b,0) (Hy b) mi false:=fun {mi}=>by
   rw [Jx,if_neg (by decide)]
  cases x with
  | true =>
    rw [if_pos rfl];have af:=(al.1 rfl).2;cases y with
    | true=>rw [if_pos rfl,Wv rfl];exact aac p2 Oh (h5.2 rfl) (decide_eq_true (a0.1 rfl).2).symm af
    | false=>rw [if_neg (by decide),C2 (by decide),if_neg (by decide),fX];exact aac p2 Oh (h5.2 rfl) (decide_eq_false fun h=>absurd (a0.2 ⟨(al.1 rfl).1,h⟩) (by decide)).symm af
  | false =>
    rw [if_neg (by decide),h3 (by decide),if_neg (by decide)];cases y with
    | true=>rw [if_pos rfl,Wv rfl];exact aad
    | false=>rw [if_neg (by decide),C2 (by decide),if_neg (by decide),fX];exact aad
 by_cases ad:(parts b).length=1
 ·rw [if_pos (decide_eq_true (by omega)),if_pos (decide_eq_true (by omega))];exact du _ _ (by simp [ad];omega) (by simp [ad])
 ·rw [if_neg (by rw [decide_eq_true_eq];omega),if_neg (by rw [decide_eq_true_eq];omega)];exact du _ _ (by simp [ad]) (by simp [ad])
theorem afX {b:p3}:qg 8 [.agg [hR b.1,.ay (b.2.flatMap p0) b.2.length .shared]] (B true):=ako (akn b)
end
end Go.Proofs.YtfakoboiahbhaaaGreat.Ab


namespace Go.Proofs.YtfakoboiahbhaaaGreat.Ab
open Go
set_option maxRecDepth 20000
set_option maxHeartbeats 4000000
noncomputable def PW:eA :=
 .loop (some (Ex false [3,1,3,1,5,1,1,1,1,1,119])) (.seq (Gx [Gl 112 17,gO 113 [.sl 3] (.oR 0),Gj 114 113,FZ 115 112 114 .lss] (.cond (.sl 115) .skip (.exit 0))) (.seq (.block 1 (Gx [Gl 118 17,gO 119 [.sl 7] (.oR 0),Gj 120 119,FZ 121 118 120 .eql,Gl 122 17,gO 123 [.sl 7] (.oR 1),Gj 124 123,FZ 125 122 124 .eql,gO 126 [.hL 121,.hL 125] (.oD true),Gm 18 126] (Gx [Gl 127 13,Gl 128 17,gO 129 [.iC (.func 53 [] []),.sl 127,.sl 128] (.call 3),Gl 130 15,Gl 131 17,gO 132 [.iC (.func 53 [] []),.sl 130,.sl 131] (.call 3),gO 133 [.hL 129,.hL 132] (.oD true),Gm 134 18,gO 135 [.hL 133,.hL 134] (.oD true)] (.cond (.sl 135) (Gx [gO 6 [.iC (.bool false)] .iS] .ret) .skip)))) (Gq [Gm 116 17,FX 117 116 1,Gm 17 117])))
noncomputable def aak:eA :=
 Gx [gO 3 [.hI 0] .box,gO 6 [.iC (.bool false)] .iS] (.seq (Gx [gO 19 [.sl 3] (.pV (.str 2)),gO 20 [.iC (.func 47 [] []),.sl 19] (.call 3),gO 21 [.hL 20] (.un .not),Gm 22 21,cP 23 [.sl 3] 22 false (.oR 1),cP 24 [.hL 23] 22 false (.pV .one),cP 25 [.hI 24] 22 false .w8,cP 26 [.hL 25,.iC (.int .i64 10)] 22 false (.bin .geq),gO 27 [.hL 22,.iC (.bool true),.hL 26] .pick] (.cond (.sl 27) (Gx [gO 28 [.iC (.func 17 [] [])] (.call 3),Gm 6 28] .ret) .skip)) (.seq (Gr [Gm 29 1,gO 30 [.hL 29] (.conv .i64),gO 31 [.sl 3] (.oR 0),Gj 32 31,FZ 33 30 32 .rem,Gm 34 2,gO 35 [.hL 34] (.conv .i64),gO 36 [.sl 3] (.oR 0),Gj 37 36,FZ 38 35 37 .rem,gO 39 [.hL 33,.hL 38] (.build [.int .i64 0,.int .i64 0] [(0,1),(1,1)]),gO 7 [] (.alloc [.int .i64 0,.int .i64 0]),⟨none,[.sl 7,.hI 39],none,none,.st 2⟩]) (.seq (Gr [gO 40 [.sl 3] (.oR 0),Gj 41 40,gO 42 [] (.x_ 0 2 [.int .i64 0,.int .i64 0] []),gO 43 [.sl 3] (.oR 1),Gj 44 43,gO 45 [.hI 42,.hI 44] (.app 2 16),gO 46 [.sl 7] (.pV (.str 2)),gO 47 [.hL 46] (.x_ 1 2 [.int .i64 0,.int .i64 0] [0]),gO 48 [.hI 45,.hI 47] (.app 2 16),gO 49 [.hL 41,.hL 48] (.build [.int .i64 0,.ay [] 0 .full] [(0,1),(1,1)]),gO 8 [] (.alloc [.int .i64 0,.ay [] 0 .full]),⟨none,[.sl 8,.hI 49],none,none,.st 2⟩]) (Gx [gO 51 [.sl 3] (.pV (.str 2)),gO 52 [.iC (.func 48 [] []),.sl 51] (.call 3),Gm 50 52,GH 53 50 0,gO 54 [.hL 50] (.ext 1),Gm 9 53,Gm 10 54] (Gx [gO 56 [.sl 8] (.pV (.str 2)),gO 57 [.iC (.func 48 [] []),.sl 56] (.call 3),Gm 55 57,GH 58 55 0,gO 59 [.hL 55] (.ext 1),Gm 11 58,Gm 12 59] (Gx [gO 61 [.sl 3] (.pV (.str 2)),gO 62 [.iC (.func 27 [] []),.sl 61] (.call 3),Gm 60 62,GH 63 60 0,gO 64 [.hL 60] (.ext 1),Gm 13 63,Gm 14 64] (Gx [gO 66 [.hL 8] (.pV (.str 2)),gO 67 [.iC (.func 27 [] []),.sl 66] (.call 3),Gm 65 67,GH 68 65 0,gO 69 [.hL 65] (.ext 1),Gm 15 68,Gm 16 69] (.seq (Gx [Gm 70 10,gO 71 [.hL 70] (.un .not),Gm 72 71,cP 73 [.hI 12] 72 false .iS,cP 74 [.hL 73] 72 false (.un .not),gO 75 [.hL 72,.iC (.bool true),.hL 74] .pick,Gm 76 75,cP 77 [.sl 11] 76 false .iS,cP 78 [.sl 9] 76 false .iS,cP 79 [.hL 78,.iC (.int .i64 1)] 76 false (.bin .add),cP 80 [.hL 77,.hL 79] 76 false (.bin .gtr),gO 81 [.hL 76,.iC (.bool true),.hL 80] .pick,Gm 82 81,cP 83 [.hI 9] 82 false .iS,cP 84 [.hI 11] 82 false .iS,cP 85 [.hL 84,.iC (.int .i64 1)] 82 false (.bin .add),cP 86 [.hL 83,.hL 85] 82 false (.bin .gtr),gO 87 [.hL 82,.iC (.bool true),.hL 86] .pick,Gm 88 87,cP 89 [.hI 14] 88 false .iS,cP 90 [.hL 89,.iC (.int .i64 0)] 88 false (.bin .neq),gO 91 [.hL 88,.iC (.bool true),.hL 90] .pick,Gm 92 91,cP 93 [.hI 16] 92 false .iS,cP 94 [.hL 93,.iC (.int .i64 0)] 92 false (.bin .neq),gO 95 [.hL 92,.iC (.bool true),.hL 94] .pick,Gm 96 95,cP 97 [.sl 15] 96 false .iS,cP 98 [.hI 97] 96 false .w8,cP 99 [.sl 13] 96 false .iS,cP 100 [.hI 99] 96 false .w8,cP 101 [.hL 100,.iC (.int .i64 2)] 96 false (.bin .add),cP 102 [.hL 98,.hL 101] 96 false (.bin .gtr),gO 103 [.hL 96,.iC (.bool true),.hL 102] .pick,Gm 104 103,cP 105 [.sl 13] 104 false .iS,cP 106 [.hI 105] 104 false .w8,cP 107 [.sl 15] 104 false .iS,cP 108 [.hI 107] 104 false .w8,cP 109 [.hL 108,.iC (.int .i64 2)] 104 false (.bin .add),cP 110 [.hL 106,.hL 109] 104 false (.bin .gtr),gO 111 [.hL 104,.iC (.bool true),.hL 110] .pick] (.cond (.sl 111) (Gx [gO 6 [.iC (.bool false)] .iS] .ret) .skip)) (.seq (Gx [Gk 17 0] (.block 0 PW)) (Gx [gO 136 [.iC (.func 17 [] [])] (.call 3),Gm 6 136] .ret))))))))))
theorem ae6:ze Tryz.prog QA 10=some (aak,137,[.tmp 6]):=by kernel_rfl
def K4 (b:qb) (left right:Int) (qk:(qa×Int)) (rJ:(qa×Int)) (p9:Unit→Option Bool):Nat→Int→Option Bool
 | 0,_=>none
 | m+1,s1 =>
   if (decide (s1<b.1))=true then
    (Mt qk.1 s1).bind fun HT =>
    (Mt rJ.1 s1).bind fun Jp =>
    if ((!(HT == Jp)) == (!((decide (s1=((w left).tmod b.1))) == (decide (s1=((w right).tmod b.1))))))=true then
     K4 b left right qk rJ p9 m (w (s1+(1:Int)))
    else
     some false
   else
    p9 ()
def Px (b:qb) (left right:Int):Option Bool :=
 (Ms b).bind fun r1 =>
 if r1=true then
  if (decide ((10:Int)≤(b.2.length:Int)))=true then
   (Iz).bind fun r2 =>
   some r2
  else
   p6 (b.1≠0) <|
   p6 (b.1≠0) <|
   p6 ((([]:List (Int×Int)).length+b.2.length)*16≤140737488355328) <|
   p6 (((([]:List (Int×Int))++b.2).length+1)*16≤140737488355328) <|
   (Kp b).bind fun eF =>
   (Kp (b.1,((([]:List (Int×Int))++b.2)++[(((w left).tmod b.1),((w right).tmod b.1))]))).bind fun qh =>
   (JT b).bind fun qk =>
   (JT (b.1,((([]:List (Int×Int))++b.2)++[(((w left).tmod b.1),((w right).tmod b.1))]))).bind fun rJ =>
   if eF.2=true then
    if qh.2=true then
     if (decide ((w (eF.1+(1:Int)))<qh.1))=true then
      some false
     else
      if (decide ((w (qh.1+(1:Int)))<eF.1))=true then
       some false
      else
       if (decide (qk.2≠(0:Int)))=true then
        some false
       else
        if (decide (rJ.2≠(0:Int)))=true then
         some false
        else
         if (decide ((w ((qk.1.length:Int)+(2:Int)))<(rJ.1.length:Int)))=true then
          some false
         else
          if (decide ((w ((rJ.1.length:Int)+(2:Int)))<(qk.1.length:Int)))=true then
           some false
          else
           K4 b left right qk rJ (fun _ =>
             (Iz).bind fun H6 =>
             some H6) p8 (0:Int)
    else
     some false
   else
    some false
 else
  (Iz).bind fun Hm =>
  some Hm
theorem ajn {b:qb} {left:Int} {right:Int} {qk:(qa×Int)} {rJ:(qa×Int)} {p9:Unit→Option Bool} {s1:Int} {v:Bool} {Q:rp} {kQ:au}  (jy:qn [.tmp 6] Q (fun v=>(B v)) v) (rm:∀ (bA bQ:au) (p5:List I),p9 ()=some v→q7 137 [] p5→Q (.exit 0) p5 [bA,bQ,kQ]) {T:List I} (bX:eT (Ex false [3,1,3,1,5,1,1,1,1,1,119]) T=GD 137 [(3,(.ptr 0 0)),(7,(.ptr 1 0)),(13,(qj qk.1 .shared)),(15,(qj rJ.1 .shared)),(17,(hR s1))]) (h:K4 b left right qk rJ p9 p8 s1=some v) :
  dD Tryz.prog QA 10 0 none PW T [G' b,au.cells [(hR ((w left).tmod b.1)),(hR ((w right).tmod b.1))],kQ] Q:=by
 unfold PW;refine wp_loop bX ?_;refine .intro (fun m T H=>∃ (s1:Int),T=GD 137 [(3,(.ptr 0 0)),(7,(.ptr 1 0)),(13,(qj qk.1 .shared)),(15,(qj rJ.1 .shared)),(17,(hR s1))]∧H=[G' b,au.cells [(hR ((w left).tmod b.1)),(hR ((w right).tmod b.1))],kQ]∧K4 b left right qk rJ p9 m s1=some v) p8 ⟨s1,rfl,rfl,h⟩ ?_;clear h bX;rintro m T H ⟨s1,rfl,rfl,h⟩;cases m
 ·exact q9 h
 rename_i m;rw [K4.eq_2] at h;conv=>whnf
 refine bs h (fun Hi h=>?_) fun Hi h=>?_
 ·rw [Hi];conv=>whnf
  obtain ⟨HT,JJ,h⟩:=p' h;refine ⟨qf.pl,_,ZV JJ,?_⟩;conv=>whnf
  obtain ⟨Jp,Ir,h⟩:=p' h;refine ⟨qf.pl,_,ZV Ir,?_⟩;conv=>whnf
  refine bs h (fun HP h=>?_) fun HP h=>?_
  ·rw [HP];(conv=>whnf);exact ⟨m,Nat.lt_succ_self m,(w (s1+(1:Int))),rfl,rfl,h⟩
  ·rw [HP];(conv=>whnf);exact p4 h jy rfl rfl
 ·rw [Hi];conv=>whnf
  exact rm _ _ _ h ⟨rfl,rfl⟩
theorem ajo {b:qb} {left:Int} {right:Int} {v:Bool} (h:Px b left right=some v):qg 10 [(.agg [(hR b.1),(.ay (b.2.flatMap p0) b.2.length .shared)]),(N4 left),(N4 right)] (B v):=by
 refine qB dJ ae6 rfl rfl fun Q bl=>?_;have jy:qn [.tmp 6] Q (fun v=>(B v)) v:=fun T H bI=>bl _ T H bI;unfold Px at h;unfold aak;obtain ⟨Hn,qC⟩:∃ c,PW=c:=⟨_,rfl⟩;rw [qC];conv=>whnf
 obtain ⟨r1,eW,h⟩:=p' h;refine ⟨qf.pl,_,ZO eW,?_⟩;conv=>whnf
 cases r1
 ·conv=>whnf
  replace h:=GK rfl h;obtain ⟨Hm,Jh,h⟩:=p' h;refine ⟨rfl,_,Kn Jh,?_⟩;conv=>whnf
  exact p4 h jy rfl rfl
 ·conv=>whnf
  replace h:=GL rfl h;refine bs h (fun fm h=>?_) fun fm h=>?_
  ·rw [fm];(conv=>whnf);obtain ⟨r2,qd,h⟩:=p' h;refine ⟨rfl,_,Kn qd,?_⟩;(conv=>whnf);exact p4 h jy rfl rfl
  ·rw [fm];(conv=>whnf);refine qm h id fun qq h=>?_;(conv=>whnf);refine qm h id fun qP h=>?_;(conv=>whnf);obtain ⟨q_,h⟩:=qJ h;refine ⟨by first | rfl | (simp;done) | exact H0 p0 _ qw _,by have:=q_;omega,rfl,q_,?_⟩
   erw [QN p0 ([]:List (Int×Int)) b.2];(conv=>whnf);obtain ⟨qO,h⟩:=qJ h;refine ⟨by first | rfl | (simp;done) | exact H0 p0 _ qw _,by have:=qO;omega,rfl,qO,?_⟩
   erw [I' p0 (([]:List (Int×Int))++b.2) (((w left).tmod b.1),((w right).tmod b.1))];(conv=>whnf);obtain ⟨eF,qR,h⟩:=p' h;refine ⟨qf.pl,_,ZQ qR,?_⟩;(conv=>whnf);obtain ⟨qh,ry,h⟩:=p' h;refine ⟨qf.pl,_,ZQ ry,?_⟩;(conv=>whnf);obtain ⟨qk,q4,h⟩:=p' h;refine ⟨qf.pl,_,T9 q4,?_⟩;(conv=>whnf);obtain ⟨rJ,rV,h⟩:=p' h;refine ⟨qf.pl,_,T9 rV,?_⟩;(conv=>whnf);refine bs h (fun rE h=>?_) fun rE h=>?_
   ·rw [rE];(conv=>whnf);refine bs h (fun rz h=>?_) fun rz h=>?_
    ·rw [rz];(conv=>whnf);refine bs h (fun rS h=>?_) fun rS h=>?_
     ·rw [rS];(conv=>whnf);exact p4 h jy rfl rfl
     ·rw [rS];(conv=>whnf);refine bs h (fun HD h=>?_) fun HD h=>?_
      ·rw [HD];(conv=>whnf);exact p4 h jy rfl rfl
      ·rw [HD];(conv=>whnf);refine bs h (fun GR h=>?_) fun GR h=>?_
       ·rw [GR];(conv=>whnf);exact p4 h jy rfl rfl
       ·rw [GR];(conv=>whnf);refine bs h (fun HO h=>?_) fun HO h=>?_
        ·rw [HO];(conv=>whnf);exact p4 h jy rfl rfl
        ·rw [HO];(conv=>whnf);refine bs h (fun G6 h=>?_) fun G6 h=>?_
         ·rw [G6];(conv=>whnf);exact p4 h jy rfl rfl
         ·rw [G6];(conv=>whnf);refine bs h (fun Iq h=>?_) fun Iq h=>?_
          ·rw [Iq];(conv=>whnf);exact p4 h jy rfl rfl
          ·rw [Iq];(conv=>whnf);subst qC;refine ajn ?_ ?_ (by exact rfl) h
           ·exact fun T H bI=>jy T H bI
           ·intro bA bQ p5 h qi;obtain ⟨qZ,rfl⟩:=qi.ex;(conv=>whnf);obtain ⟨H6,Jg,h⟩:=p' h;refine ⟨rfl,_,Kn Jg,?_⟩;(conv=>whnf);exact p4 h jy rfl rfl
    ·rw [rz];(conv=>whnf);exact p4 h jy rfl rfl
   ·rw [rE];(conv=>whnf);exact p4 h jy rfl rfl
end Go.Proofs.YtfakoboiahbhaaaGreat.Ab


namespace Go.Proofs.YtfakoboiahbhaaaGreat.Ab
open Go
section
def IB (b c:p3) (n:Nat):Prop:=∀ i:Nat,i<n→ix b.2 (i:Int)=ix c.2 (i:Int)
variable {b c:p3} {n:Nat}
theorem IB.at (h:IB b c n) {x:Int} (al:0≤x∧x<(n:Int)):ix b.2 x=ix c.2 x:=by
 obtain ⟨i,rfl⟩:∃ i:Nat,x=i:=⟨x.toNat,by omega⟩;exact h i (by omega)
theorem IB.ends (h:IB b c n) {p:Int×Int} (aC:0≤p.1∧p.1<(n:Int)):qp b p=qp c p∧fin b p=fin c p:=by
 unfold qp fin;rw [h.at aC];exact ⟨rfl,rfl⟩
theorem IB.run (h:IB b c n):∀ (l:Row) (a:Int),(∀ p∈l,0≤p.1∧p.1<(n:Int))→qv b a l=qv c a l
 | [],_,_=>rfl
 | p::l,a,ak=>by
   obtain ⟨e1,ck⟩:=h.ends (ak p (by simp));have a_:=fun a=>h.run l a fun q a3=>ak q (by simp [a3]);unfold qv;rw [e1,ck,a_]
theorem IB.acZ (h:IB b c n) {S:List Int} (cm:∀ x∈S,0≤x∧x<(n:Int)) (f:Int):qz b S f=qz c S f:=by
 unfold qz;refine congrArg List.sum (tR fun x al=>?_);rw [h.at (cm x al)]
theorem TU {n:Nat}:∀ x∈upto n,0≤x∧x<(n:Int):=fun _ al=>Hf.1 al
theorem IB.rows (h:IB b c n) {S:List Int} {R:List Row} (aN:n≤c.2.length) (ag:∀ r∈R,∀ p∈r,0≤p.1∧p.1<(n:Int)) (jy:RowsOf b S R):RowsOf c S R :=
 ⟨fun r aj p aC=>⟨(jy.ok r aj p aC).1,by have:=(ag r aj p aC).2;omega,(jy.ok r aj p aC).2.2⟩,fun r aj=>by
  obtain ⟨a,e,aO⟩:=jy.go r aj
  exact ⟨a,e,by rw [←h.run r a (ag r aj)];exact aO⟩,jy.all⟩
theorem RowsOf.rY {S:List Int} {R:List Row} (h:RowsOf b S R) {r:Row} (aj:r∈R) {p:Int×Int} (aC:p∈r):p.1∈S :=
 h.all.mem_iff.1 (List.mem_map_of_mem (tT.2 ⟨r,aj,aC⟩))
theorem RowsOf.drop {S:List Int} {R:List Row} {s:Int} (h:RowsOf b (s::S) R):∃ KA,RowsOf b S KA∧KA.length≤R.length+1:=by
 have ai:s∈(R.flatten).map (·.1):=h.all.mem_iff.2 (by simp);obtain ⟨p,aC,rfl⟩:=ss.1 ai;obtain ⟨r,aj,aC⟩:=tT.1 aC;obtain ⟨abf,lk,e1⟩:=uW aj;obtain ⟨dL,kK,ck⟩:=uW aC;subst ck e1;obtain ⟨a,e,aO⟩:=h.go _ aj;rw [IL] at aO;cases ad:qv b a dL with
 | none=>rw [ad] at aO;cases aO
 | some x =>
   rw [ad,r_] at aO;obtain ⟨_,af⟩:=H9.1 aO;refine ⟨abf++[dL,kK]++lk,⟨fun q a3 t ax=>?_,fun q a3=>?_,?_⟩,by simp;omega⟩
   ·simp only [sS,sk,tN,or_false] at a3;rcases a3 with (a3 | rfl | rfl) | a3
    ·exact h.ok q (by simp [a3]) t ax
    ·exact h.ok _ aj t (by simp [ax])
    ·exact h.ok _ aj t (by simp [ax])
    ·exact h.ok q (by simp [a3]) t ax
   ·simp only [sS,sk,tN,or_false] at a3;rcases a3 with (a3 | rfl | rfl) | a3
    ·exact h.go q (by simp [a3])
    ·exact ⟨_,_,ad⟩
    ·exact ⟨_,_,af⟩
    ·exact h.go q (by simp [a3])
   ·have c_:=h.all;refine (List.perm_cons p.1).1 (List.Perm.trans ?_ c_);simp only [uV,List.flatten_cons,List.flatten_nil,sY,se,sN,sj];refine wj.symm.trans ?_;refine List.Perm.append_left _ ?_;exact wj.symm
def rh (b:p3) (s:Int×Int):p3:=(b.1,b.2++[s])
theorem Qz {s:Int×Int}:IB b (rh b s) b.2.length:=fun i hi=>by
 rw [qW hi,qW (show i<(rh b s).2.length by unfold rh;simp;omega)];unfold rh;simp [hi]
theorem abk {s:Int×Int}:ix (rh b s).2 (b.2.length:Int)=s:=by
 rw [qW (show b.2.length<(rh b s).2.length by unfold rh;simp)];unfold rh;simp
theorem abj {s:Int×Int} (p2:qu b) (ak:b.2.length<10) (ad:0≤s.1∧s.1<b.1) (af:0≤s.2∧s.2<b.1):qu (rh b s):=by
 refine G_.1 ?_;have ag:=G_.2 p2;unfold qL rh at *;have LL:=p2.f1;have ak5:=p2.f6;rw [if_neg (by simp;omega)];have fX:¬ (b.2.any (Ie b.1)=true):=fun h=>by
  rw [if_neg (by omega),if_pos h] at ag;cases ag
 rw [if_neg];simp only [List.any_append,List.any_cons,List.any_nil,Bool.or_false,tH];rintro (h | h)
 ·exact fX h
 ·unfold Ie at h;simp only [tH,LU] at h;omega
theorem ade {s:Int×Int} (p2:qu b) (JI:qu (rh b s)):G3 (rh b s)≤G3 b+1∧G3 b≤G3 (rh b s)+1:=by
 have hlen:(rh b s).2.length=b.2.length+1:=by unfold rh;simp
 constructor
 ·obtain ⟨_,qM⟩:=L' p2;have jy:=Qz (b:=b) (s:=s) |>.rows (by omega) (fun r aj p aC=>TU _ (qM.toRowsOf.rY aj aC)) qM.toRowsOf
  have eo:RowsOf (rh b s) [(b.2.length:Int)] [[((b.2.length:Int),0)]]:=⟨fun r aj p aC=>by
   rw [sB.1 aj] at aC;rw [sB.1 aC];exact ⟨Int.natCast_nonneg _,show (b.2.length:Int)<((rh b s).2.length:Int) by omega,by simp,by simp⟩,fun r aj=>by
   rw [sB.1 aj];exact ⟨_,_,Js.2 ⟨rfl,rfl⟩⟩,by simp⟩
  have:=jy.app eo;rw [←K1,←hlen] at this;have:=VT JI this;rw [sm,tn,qM.len] at this;exact this
 ·obtain ⟨_,qM⟩:=L' JI;have jy:=qM.toRowsOf;rw [hlen,K1] at jy;have JH:RowsOf (rh b s) ((b.2.length:Int)::upto b.2.length) (JS (rh b s)):=⟨jy.ok,jy.go,jy.all.trans (List.perm_append_singleton _ _)⟩;obtain ⟨KA,ad,af⟩:=JH.drop;have aG:RowsOf b (upto b.2.length) KA:=IB.rows (b:=rh b s) (c:=b) (n:=b.2.length) (fun i hi=>(Qz i hi).symm) (sb _) (fun r aj p aC=>TU _ (ad.rY aj aC)) ad;have:=VT p2 aG;rw [qM.len] at af;omega
theorem QY {s:Int×Int} (f:Int):qz (rh b s) (upto (rh b s).2.length) f=qz b (upto b.2.length) f+Ht s f:=by
 have hlen:(rh b s).2.length=b.2.length+1:=by unfold rh;simp
 rw [hlen,K1,MP,←(Qz (b:=b) (s:=s)).acZ TU,KF,JE,abk];omega
theorem W7 (b:p3):(qN b).length=((upto 6).map fun f=>if qz b (upto b.2.length) f % 2=1 then 1 else 0).sum:=by
 unfold qN qU;rw [VW];simp only [decide_eq_true_eq]
theorem sum_add {α:Type} (f g:α→Nat):∀ l:List α,(l.map fun x=>f x+g x).sum=(l.map f).sum+(l.map g).sum
 | []=>rfl
 | x::l=>by simp only [se,tj,sum_add f g l];omega
theorem ac2 {s:Int×Int} (ad:0≤s.1∧s.1<6) (af:0≤s.2∧s.2<6):((upto 6).map fun f=>Ht s f).sum=2:=by
 have:=Yc (b:=(6,[s])) 6 [0] fun i hi=>by
  rw [sB.1 hi];exact ⟨ad.1,ad.2,af.1,af.2⟩
 refine Eq.trans (congrArg List.sum (tR fun f _=>?_)) this;rw [KF,JE];rfl
theorem af_ {s:Int×Int} (ad:0≤s.1∧s.1<6) (af:0≤s.2∧s.2<6):(qN (rh b s)).length≤(qN b).length+2∧(qN b).length≤(qN (rh b s)).length+2:=by
 have ai:=ac2 ad af;rw [W7,W7];constructor
 ·have e:=Pt (fun f=>if qz (rh b s) (upto (rh b s).2.length) f % 2=1 then 1 else 0) (fun f=>(if qz b (upto b.2.length) f % 2=1 then 1 else 0)+Ht s f) (upto 6) fun f _=>by
   rw [QY];split <;> split <;> omega
  rw [sum_add,ai] at e;exact e
 ·have e:=Pt (fun f=>if qz b (upto b.2.length) f % 2=1 then 1 else 0) (fun f=>(if qz (rh b s) (upto (rh b s).2.length) f % 2=1 then 1 else 0)+Ht s f) (upto 6) fun f _=>by
   rw [QY];split <;> split <;> omega
  rw [sum_add,ai] at e;exact e
theorem W6 {f:Int} (aQ:0≤f∧f<6):(qN b).any (fun x=>decide (x=f))=decide (qz b (upto b.2.length) f % 2=1):=by
 by_cases h:qz b (upto b.2.length) f % 2=1
 ·rw [decide_eq_true h,List.any_eq_true];exact ⟨f,Ka.2 ⟨aQ,h⟩,by simp⟩
 ·rw [decide_eq_false h,List.any_eq_false];intro x al;simp only [decide_eq_true_eq];rintro rfl;exact h (Ka.1 al).2
theorem Zq (p2:qu b) {left right:Int} (ak:0≤left∧left≤255) (aj:0≤right∧right≤255) {k:Unit→Option Bool}:∀ (m i:Nat) (z:Int),z=i→(i:Int)≤b.1→b.1.toNat-i<m →
  K4 b left right (qN b,0) (qN (rh b ((w left).tmod b.1,(w right).tmod b.1)),0) k m z=k ()
 | 0,_,_,_,_,h=>absurd h (by omega)
 | m+1,i,_,rfl,hi,hm=>by
   have ad:=p2.f1;have bV:=p2.f6;rw [K4];by_cases h:(i:Int)<b.1
   ·have cd:=OW (b:=b);have ag:=OW (b:=rh b ((w left).tmod b.1,(w right).tmod b.1));rw [if_pos (decide_eq_true h),ZT _ _ (show (qN b).length≤1000 by omega),r_,ZT _ _ (show (qN (rh b _)).length≤1000 by omega),r_,W6 ⟨by omega,by omega⟩,W6 ⟨by omega,by omega⟩,QY,rH i (by omega)];rw [if_pos]
    ·exact Zq p2 ak aj m (i+1) _ rfl (by omega) (by omega)
    ·unfold Ht;generalize qz b (upto b.2.length) (i:Int)=d;generalize (w left).tmod b.1=x;generalize (w right).tmod b.1=y;have key:∀ (a c q:Bool) (e:Nat),(e % 2=1↔q=true)→(a=decide (d % 2=1))→(c=decide ((d+e) % 2=1))→((!(a == c)) == q)=true:=fun a c q e ad af aG=>by
      subst af aG;by_cases aZ:d % 2=1 <;> by_cases he:e % 2=1
      ·rw [ad.1 he,decide_eq_true aZ,decide_eq_false (by omega)];rfl
      ·have:q=false:=by cases q <;> simp_all
       rw [this,decide_eq_true aZ,decide_eq_true (by omega)];rfl
      ·rw [ad.1 he,decide_eq_false aZ,decide_eq_true (by omega)];rfl
      ·have:q=false:=by cases q <;> simp_all
       rw [this,decide_eq_false aZ,decide_eq_false (by omega)];rfl
     refine key _ _ _ _ ?_ rfl rfl;by_cases al:x=(i:Int)
     ·by_cases a0:y=(i:Int)
      ·simp [al,a0]
      ·have RY:¬ (i:Int)=y:=fun e=>a0 e.symm;simp [al,a0,RY]
     ·have nz:¬ (i:Int)=x:=fun e=>al e.symm;by_cases a0:y=(i:Int)
      ·simp [al,nz,a0]
      ·have RY:¬ (i:Int)=y:=fun e=>a0 e.symm;simp [al,nz,a0,RY]
   ·rw [if_neg (by simpa using h)]
theorem ajm (b:p3) {left right:Int} (ak:0≤left∧left≤255) (aj:0≤right∧right≤255):Px b left right=some true:=by
 rw [Px,ZN,r_];by_cases aQ:(decide (b.2.length≤14) && decide (qL b=0))=true
 case neg=>rw [if_neg aQ];simp only [Ko,r_]
 rw [if_pos aQ];simp only [sx,decide_eq_true_eq] at aQ;have p2:=G_.1 aQ.2;have dA:=p2.len;have ad:=p2.f1;have bV:=p2.f6;by_cases h:(10:Int)≤(b.2.length:Int)
 ·rw [if_pos (decide_eq_true h)];simp only [Ko,r_]
 have al:=W4 (x:=w left) (n:=b.1) (by rw [HH (by omega)];omega) ad;have a0:=W4 (x:=w right) (n:=b.1) (by rw [HH (by omega)];omega) ad;have JI:=abj (s:=((w left).tmod b.1,(w right).tmod b.1)) p2 (by omega) al a0;have hlen:(rh b ((w left).tmod b.1,(w right).tmod b.1)).2.length=b.2.length+1:=by unfold rh;simp
 obtain ⟨cb,b8⟩:=ade p2 JI;obtain ⟨bA,bQ⟩:=af_ (b:=b) (s:=((w left).tmod b.1,(w right).tmod b.1)) (by dsimp only;omega) (by dsimp only;omega);have Cq:=(L' p2).2.short p2;have pc:G3 b≤10:=by rw [←(L' p2).2.len];exact Cq.1
 have fH:=OW (b:=b);rw [if_neg (by simpa using h),qe (by omega),qe (by omega),List.nil_append,qe (by simp;omega),qe (by omega)];show ((Kp b).bind fun eF=>(Kp (rh b ((w left).tmod b.1,(w right).tmod b.1))).bind fun qh=>(JT b).bind fun qk=>(JT (rh b ((w left).tmod b.1,(w right).tmod b.1))).bind fun rJ=>_)=_;rw [ZP p2,r_,ZP JI,r_,T8 (by omega),r_,T8 (by omega),r_,OU p2,OU JI];dsimp only;rw [if_pos rfl,if_pos rfl,HH (by omega),if_neg (by rw [decide_eq_true_eq];omega),HH (by omega),if_neg (by rw [decide_eq_true_eq];omega),if_neg (by simp),if_neg (by simp),HH (by omega),if_neg (by rw [decide_eq_true_eq];omega),HH (by omega),if_neg (by rw [decide_eq_true_eq];omega)];rw [Zq p2 ak aj p8 0 0 rfl (by omega) (rC (by omega))];simp only [Ko,r_]
theorem afY {b:p3} {left right:Int} (ak:0≤left∧left≤255) (aj:0≤right∧right≤255):qg 10 [.agg [hR b.1,.ay (b.2.flatMap p0) b.2.length .shared],N4 left,N4 right] (B true):=ajo (ajm b ak aj)
end
end Go.Proofs.YtfakoboiahbhaaaGreat.Ab
