
import Derived.Test.YtfakoboiahbhaaaGreatJr4
import Derived.Test.YtfakoboiahbhaaaGreatJr5
import Derived.Test.YtfakoboiahbhaaaGreatJr9
import Derived.KernelRfl
import Derived.Test.YtfakoboiahbhaaaGreatJr8
import Derived.Test.YtfakoboiahbhaaaGreatProg
set_option linter.unusedSimpArgs false
set_option linter.unusedVariables false
set_option linter.unusedSectionVars false

open Bool renaming and_true→uj,false_eq_true→ub
open List renaming all_cons→tL,all_nil→ux,any_eq_true→vk,append_assoc→sD,append_nil→sU,append_of_mem→vm,drop_eq_getElem_cons→tf,drop_eq_nil_of_le→tz,drop_left'→wN,drop_zero→tb,filter_append→uy,filter_cons→tr,filter_eq_self→uJ,filter_nil→u5,flatten_cons→tG,getElem?_append→su,getElem?_append_left→sR,getElem?_append_right→sZ,getElem?_drop→tq,getElem?_eq_getElem→sI,getElem?_eq_some_iff→ss,getElem?_map→sN,getElem?_replicate→vT,getElem?_set_ne→sG,getElem?_set_self→sE,getElem_mem→sL,length_append→sA,length_cons→sP,length_eq_zero_iff→tt,length_filter_le→tO,length_map→tj,length_pos_iff→tT,length_singleton→tx,length_take→ta,map_append→ti,map_cons→sy,map_drop→uT,map_map→uD,map_nil→tA,map_take→uI,mem_cons→sH,mem_cons_of_mem→uw,mem_filter→s_,mem_flatten→tZ,mem_map→sJ,mem_map_of_mem→uL,nil_append→ur,not_mem_nil→uc,pairwise_cons→tD,perm_ext_iff_of_nodup→uO,replicate_zero→wP,set_getElem_self→uX,set_set→td,sum_cons→tn,take_append_drop→vn,take_left'→vC,take_length→tE,take_succ_cons→vj,take_succ_eq_append_getElem→tH,take_zero→tu
open Nat renaming ble_eq_true_of_le→uE,le_refl→sx,le_trans→sW,lt_succ_self→sv,min_eq_left→tK,mul_one→tS,pos_of_ne_zero→vL,sub_self→ua,zero_add→tc,zero_le→sK
open Option renaming bind_some→sq,map_some→sB
namespace Go.Proofs.YtfakoboiahbhaaaGreat.Ab
open Go
set_option maxRecDepth 20000
set_option maxHeartbeats 4000000
noncomputable def acn:eE :=
 GD [gV 3 [.hP 0] .box,gV 5 [.hP 2] .box,gV 6 [.iK (.bool false)] .i_] (GD [gV 9 [.sl 3,.sl 5] (.zC 130 0 2),Gt 7 9] (GD [gV 10 [.sl 3] (.p2 .one),Gs 11 1,gV 12 [.iK (.func 76 [] []),.sl 10,.sl 11] (.call 3),Gt 8 12] (.seq (.block 0 (GD [Gs 14 1,Gp 15 14,F4 16 15 0 .eql,Gt 13 16] (.cond (.sl 13) (GD [gV 6 [.iK (.bool true)] .i_] .ret) (GD [Gs 18 8,Gp 19 18,F4 20 19 2 .gtr,Gt 21 20,cS 22 [.sl 8] 21 false .i_,cS 23 [.hP 22] 21 false .xe,cS 24 [.hS 23,.iK (.int .i64 2)] 21 false (.bin .eql),cS 25 [.hP 24] 21 false .i_,cS 26 [.hP 8] 25 true .i_,cS 27 [.hS 5] 25 true (.p2 .one),⟨some 28,[.iK (.func 131 [] []),.sl 26,.sl 27],some (25,true),none,.call 3⟩,cS 29 [.hS 28] 25 true (.un .not),cS 30 [.hS 25,.hS 29,.iK (.bool false)] 21 false .pick,gV 31 [.hS 21,.iK (.bool true),.hS 30] .pick,Gt 32 31,cS 33 [.sl 1] 32 false .i_,cS 34 [.hP 7] 32 false .i_,⟨some 35,[.iK (.func 92 [] []),.sl 33,.sl 34],some (32,false),none,.call 6⟩,cS 36 [.hS 35] 32 false (.un .not),gV 37 [.hS 32,.iK (.bool true),.hS 36] .pick,Gt 17 37] (.cond (.sl 17) (GD [gV 6 [.iK (.bool false)] .i_] .ret) .skip))))) (GD [Gq 38 3,Gt 39 1,gV 40 [.iK (.func 79 [] []),.sl 38,.sl 39] (.call 3),Gp 41 40,F4 42 41 1 .eql,Gt 6 42] .ret))))
theorem ahh:zm Tryz.prog Wn 109=some (acn,43,[.tmp 6]):=by kernel_rfl
def Mg (t:qk) (qm:ql) (figure:Int):Option Bool :=
 (LF t qm).bind fun r1 =>
 if (decide ((qm.length:Int)=(0:Int)))=true then
  some true
 else
  if (decide ((2:Int)<(r1.length:Int)))=true then
   some false
  else
   if (decide ((r1.length:Int)=(2:Int)))=true then
    (Pe r1 figure).bind fun r2 =>
    if r2=true then
     (K4 qm (fun q1=>NM q1 t figure)).bind fun eJ =>
     if eJ=true then
      (K2 t qm).bind fun qA =>
      some (decide ((qA.length:Int)=(1:Int)))
     else
      some false
    else
     some false
   else
    (K4 qm (fun q1=>NM q1 t figure)).bind fun qE =>
    if qE=true then
     (K2 t qm).bind fun sb =>
     some (decide ((sb.length:Int)=(1:Int)))
    else
     some false
theorem abb {t:qk} {qm:ql} {figure:Int} {v:Bool} (h:Mg t qm figure=some v):qD 109 [(.bW [(hY t.1),(.ay (t.2.flatMap p4) t.2.length .shared)]),(.ay (qm.map hY) qm.length .shared),(hY figure)] (B v):=by
 refine qZ dM ahh rfl rfl fun Q bo=>?_;have jG:qK [.tmp 6] Q (fun v=>(B v)) v:=fun T H bK=>bo _ T H bK;unfold Mg at h;unfold acn;conv=>whnf
 obtain ⟨r1,e0,h⟩:=qj h;refine ⟨qt.pl,_,Q_ e0,?_⟩;conv=>whnf
 refine bs h (fun fs h=>?_) fun fs h=>?_
 ·rw [fs];conv=>whnf
  exact qc h jG rfl rfl
 ·rw [fs];conv=>whnf
  refine bs h (fun qp h=>?_) fun qp h=>?_
  ·rw [qp];(conv=>whnf);exact qc h jG rfl rfl
  ·rw [qp];(conv=>whnf);refine bs h (fun qC h=>?_) fun qC h=>?_
   ·rw [qC];(conv=>whnf);obtain ⟨r2,qH,h⟩:=qj h;refine ⟨qt.pl,_,alL qH,?_⟩;(conv=>whnf);cases r2
    ·(conv=>whnf);replace h:=r0 rfl h;exact qc h jG rfl rfl
    ·(conv=>whnf);replace h:=rZ rfl h;obtain ⟨eJ,qW,h⟩:=qj h;refine ⟨_,_,IS (cs:=[(qG qm .shared),(.func 130 [] [(.bW [(.bW [(hY t.1),(p9 t.2 .shared)])]),(.bW [(hY figure)])])]) (bs:=[(qG qm .shared),(.func 130 [] [(.bW [(.bW [(hY t.1),(p9 t.2 .shared)])]),(.bW [(hY figure)])])]) (rB rfl (rB (Kt r6 (rB (I3 (cs:=[(.bW [(hY t.1),(p9 t.2 .shared)])]) (by first | exact qz.h | rfl | (simp [su,I.settle];done)) rfl) (rB (I3 (cs:=[(hY figure)]) (by first | exact qz.h | rfl | (simp [su,I.settle];done)) rfl) r6))) r6)) (by rfl) (by exact (p5 (rO (fun _=>rfl) _ _ _) (p5 (JT rfl (p5 (rj (p5 (rj (p5 rfl (p5 (q7 (fun _=>(p5 rfl (p5 rfl rfl))) _ _ _) rfl))) rfl)) (p5 (rj (p5 rfl rfl)) rfl))) rfl))) (Ri ⟨(p5 (rj (p5 (rj (p5 rfl (p5 (q7 (fun _=>(p5 rfl (p5 rfl rfl))) _ _ _) rfl))) rfl)) (p5 (rj (p5 rfl rfl)) rfl)),by simp⟩ (fun _ _ a2=>abg a2) qW) rfl,?_⟩
     (conv=>whnf);cases eJ
     ·(conv=>whnf);replace h:=r0 rfl h;exact qc h jG rfl rfl
     ·(conv=>whnf);replace h:=rZ rfl h;obtain ⟨qA,qU,h⟩:=qj h;refine ⟨qt.pl,_,Q' qU,?_⟩;(conv=>whnf);exact qc h jG rfl rfl
   ·rw [qC];(conv=>whnf);obtain ⟨qE,qX,h⟩:=qj h;refine ⟨_,_,IS (cs:=[(qG qm .shared),(.func 130 [] [(.bW [(.bW [(hY t.1),(p9 t.2 .shared)])]),(.bW [(hY figure)])])]) (bs:=[(qG qm .shared),(.func 130 [] [(.bW [(.bW [(hY t.1),(p9 t.2 .shared)])]),(.bW [(hY figure)])])]) (rB rfl (rB (Kt r6 (rB (I3 (cs:=[(.bW [(hY t.1),(p9 t.2 .shared)])]) (by first | exact qz.h | rfl | (simp [su,I.settle];done)) rfl) (rB (I3 (cs:=[(hY figure)]) (by first | exact qz.h | rfl | (simp [su,I.settle];done)) rfl) r6))) r6)) (by rfl) (by exact (p5 (rO (fun _=>rfl) _ _ _) (p5 (JT rfl (p5 (rj (p5 (rj (p5 rfl (p5 (q7 (fun _=>(p5 rfl (p5 rfl rfl))) _ _ _) rfl))) rfl)) (p5 (rj (p5 rfl rfl)) rfl))) rfl))) (Ri ⟨(p5 (rj (p5 (rj (p5 rfl (p5 (q7 (fun _=>(p5 rfl (p5 rfl rfl))) _ _ _) rfl))) rfl)) (p5 (rj (p5 rfl rfl)) rfl)),by simp⟩ (fun _ _ a2=>abg a2) qX) rfl,?_⟩
    (conv=>whnf);cases qE
    ·(conv=>whnf);replace h:=r0 rfl h;exact qc h jG rfl rfl
    ·(conv=>whnf);replace h:=rZ rfl h;obtain ⟨sb,ra,h⟩:=qj h;refine ⟨qt.pl,_,Q' ra,?_⟩;(conv=>whnf);exact qc h jG rfl rfl

end Go.Proofs.YtfakoboiahbhaaaGreat.Ab


namespace Go.Proofs.YtfakoboiahbhaaaGreat.Ab
open Go
def MV (l:Row):Row:=(l.map fun p=>(p.1,1-p.2)).reverse
section
variable {b:qb} {S:List Int}
theorem akT {p:Int×Int} (h:0≤p.2∧p.2≤1):qP b (p.1,1-p.2)=fin b p∧fin b (p.1,1-p.2)=qP b p:=by
 unfold qP fin;rcases show p.2=0∨p.2=1 by omega with e | e
 ·simp [e]
 ·simp [e]
theorem ZD:∀ (l:Row) (a c:Int),(∀ p∈l,0≤p.2∧p.2≤1)→qV b a l=some c→qV b c (MV l)=some a
 | [],a,c,_,h=>by
   have:a=c:=by simpa [qV] using h
   subst this;rfl
 | p::l,a,c,ad,h=>by
   obtain ⟨cd,b_⟩:=I0.1 h;have bb:=ZD l _ c (fun q a5=>ad q (by simp [a5])) b_;have ax:=akT (b:=b) (ad p (by simp));unfold MV at bb ⊢;rw [sy,List.reverse_cons,JE,bb,sq];exact Ks.2 ⟨ax.1,by rw [ax.2];exact cd⟩
theorem aep (l:Row):((MV l).map (·.1)).Perm (l.map (·.1)):=by
 unfold MV;rw [List.map_reverse,uD];exact List.reverse_perm _
theorem Vf:∀ (l:Row) (a c:Int),qV b a l=some c→∀ p∈l,rV b (l.map (·.1)) a (qP b p)∧rV b (l.map (·.1)) a (fin b p)
 | [],_,_,_,p,aC=>by simp at aC
 | q::l,a,c,h,p,aC=>by
   obtain ⟨cd,b_⟩:=I0.1 h;have a5:rV b ((q::l).map (·.1)) a (fin b q):=.one (i:=q.1) (by simp) ((Jd q a).2 (.inl cd)) ((Jd q _).2 (.inr rfl));rcases sH.1 aC with rfl | aC
   ·exact ⟨by rw [cd];exact .refl,a5⟩
   ·have bb:=Vf l _ c b_ p aC;(have hm:∀ x∈l.map (·.1),x∈(q::l).map (·.1):=fun x al=>by simp only [sy,sH];exact .inr al);exact ⟨a5.trans (bb.1.mono hm),a5.trans (bb.2.mono hm)⟩
theorem ZF {l:Row} {a c:Int} (h:qV b a l=some c):LK b (l.map (·.1)):=by
 intro x al y a2 f g aQ aO;obtain ⟨p,aC,rfl⟩:=sJ.1 al;obtain ⟨q,a5,rfl⟩:=sJ.1 a2;have ao:∀ p∈l,∀ f,re b p.1 f→rV b (l.map (·.1)) a f:=fun p aC f aQ=>by
  rcases (Jd p f).1 aQ with rfl | rfl
  ·exact (Vf l a c h p aC).1
  ·exact (Vf l a c h p aC).2
 exact (ao p aC f aQ).symm.trans (ao q a5 g aO)
theorem LK.perm {S S':List Int} (h:LK b S) (aC:S.Perm S'):LK b S':=fun x al y a2 f g aQ aO=>(h x (aC.mem_iff.2 al) y (aC.mem_iff.2 a2) f g aQ aO).mono fun z bp=>aC.mem_iff.1 bp
def KF (b:qb) (S:List Int) (f:Int):Prop:=S=[]∨(LK b S∧(∃ i∈S,re b i f)∧(q3 b S=[]∨((q3 b S).length=2∧f∈q3 b S)))
structure Iq (b:qb) (S:List Int) (a c:Int) (l:Row):Prop where
 ok:∀ p∈l,HI b p
 go:qV b a l=some c
 all:(l.map (·.1)).Perm S
theorem PE (p7:qM b) {p:Int×Int} (aC:HI b p):(0≤qP b p∧qP b p<b.1)∧0≤fin b p∧fin b p<b.1:=by
 have hm:=Hq.2 ⟨aC.1,aC.2.1⟩;exact ⟨PI p7 hm ((Jd p _).2 (.inl rfl)),PI p7 hm ((Jd p _).2 (.inr rfl))⟩
theorem ZE:∀ (l:Row) (a c:Int),l≠[]→qV b a l=some c→∃ p∈l,fin b p=c
 | [],_,_,h,_=>absurd rfl h
 | [p],a,c,_,h=>⟨p,by simp,(Ks.1 h).2⟩
 | p::q::l,a,c,_,h=>by
   obtain ⟨r,aj,e⟩:=ZE (q::l) _ c (by simp) (I0.1 h).2;exact ⟨r,uw _ aj,e⟩
theorem Iq.ends (p7:qM b) {a c:Int} {l:Row} (h:Iq b S a c l) (aS:l≠[]):(0≤a∧a<b.1)∧(0≤c∧c<b.1)∧(∃ i∈S,re b i a)∧∃ i∈S,re b i c:=by
 obtain ⟨p,aC,e⟩:=ZE l a c aS h.go
 match l,aS,h with
 | q::l,_,h =>
   have cm:=(I0.1 h.go).1;have ad:=PE p7 (h.ok q (by simp));have af:=PE p7 (h.ok p aC);rw [cm] at ad;rw [e] at af;exact ⟨ad.1,af.2,⟨q.1,h.all.mem_iff.1 (by simp),(Jd q _).2 (.inl cm)⟩,⟨p.1,h.all.mem_iff.1 (uL aC),(Jd p _).2 (.inr e)⟩⟩
theorem Iq.odd (p7:qM b) {a c:Int} {l:Row} (h:Iq b S a c l) (aS:l≠[]):(a=c→q3 b S=[])∧(a≠c→(q3 b S).Perm [a,c]):=by
 have Yb:=fun v=>O9 l a c v h.go;have bX:=p7.f6;obtain ⟨cg,ao,_,_⟩:=h.ends p7 aS;have a1:∀ v,qN b (l.map (·.1)) v=qN b S v:=fun v=>MY h.all v;constructor
 ·rintro rfl;refine List.eq_nil_iff_forall_not_mem.2 fun v ae=>?_;have ad:=(Lo.1 ae).2;have af:=Yb v;rw [a1] at af;split at af <;> omega
 ·intro bO;refine (uO ((Qj S).imp fun h e=>by omega) (by simp [bO])).2 fun v=>?_;have af:=Yb v;rw [a1] at af;rw [Lo];simp only [sH,uc,or_false];constructor
  ·rintro ⟨_,ad⟩;by_cases e1:a=v
   ·exact .inl e1.symm
   ·by_cases cm:c=v
    ·exact .inr cm.symm
    ·rw [if_neg e1,if_neg cm] at af;omega
  ·rintro (rfl | rfl)
   ·rw [if_pos rfl,if_neg (Ne.symm bO)] at af;exact ⟨⟨cg.1,by omega⟩,by omega⟩
   ·rw [if_pos rfl,if_neg bO] at af;exact ⟨⟨ao.1,by omega⟩,by omega⟩
theorem Iq.back {a c:Int} {l:Row} (h:Iq b S a c l):Iq b S c a (MV l):=by
 refine ⟨fun p aC=>?_,ZD l a c (fun p aC=>(h.ok p aC).2.2) h.go,(aep l).trans h.all⟩;unfold MV at aC;obtain ⟨q,a5,rfl⟩:=sJ.1 (List.mem_reverse.1 aC);have:=h.ok q a5;exact ⟨this.1,this.2.1,by simp only;have:=this.2.2;omega,by simp only;have:=this.2.2;omega⟩
theorem Iq.ajO {a f:Int} {l:Row} (h:Iq b S a a l) (aQ:∃ i∈S,re b i f):∃ l',Iq b S f f l':=by
 obtain ⟨i,hi,kB⟩:=aQ;obtain ⟨p,aC,rfl⟩:=sJ.1 (h.all.mem_iff.2 hi);obtain ⟨dO,kS,rfl⟩:=vm aC;have Hp:=h.go;rw [JE] at Hp;obtain ⟨c,cd,b_⟩:=qj Hp;obtain ⟨eb,hy⟩:=I0.1 b_;have mk:∀ {x y:Row} {f:Int},x++y=dO++p::kS→qV b a x=some f→qV b f y=some a→Iq b S f f (y++x):=fun {x y f} e ad af=>by
  have Ji:(y++x).Perm (dO++p::kS):=by rw [←e];exact List.perm_append_comm
  exact ⟨fun q a5=>h.ok q (Ji.mem_iff.1 a5),by rw [JE,af];exact ad,(Ji.map _).trans h.all⟩
 rcases (Jd p f).1 kB with rfl | rfl
 ·exact ⟨_,mk (x:=dO) (y:=p::kS) rfl (by rw [eb];exact cd) (by rw [eb];exact b_)⟩
 ·exact ⟨_,mk (x:=dO++[p]) (y:=kS) (by simp) (by rw [JE,cd];exact Ks.2 ⟨eb,rfl⟩) hy⟩
theorem afO (p7:qM b) (cp:rL b S) (ak:S.length≤990) (aS:S≠[]) (bK:LK b S):∃ R,V8 b S R:=by
 obtain ⟨l,a,ad,af,aG⟩:=round_part p7 cp ak aS bK;exact ⟨_,Y4 p7 cp aS af aG⟩
theorem RowsOf.single {R:List Row} (h:RowsOf b S R) (ad:R.length=1):∃ l a c,R=[l]∧Iq b S a c l:=by
 obtain ⟨l,rfl⟩:=List.length_eq_one_iff.1 ad;obtain ⟨a,c,aO⟩:=h.go l (by simp);exact ⟨l,a,c,rfl,h.ok l (by simp),aO,by simpa using h.all⟩
theorem SU (p7:qM b) (cp:rL b S) (ak:S.length≤990) {f:Int}:KF b S f↔∃ l c,Iq b S f c l:=by
 constructor
 ·rintro (rfl | ⟨bK,aQ,aq⟩)
  ·exact ⟨[],f,fun p aC=>absurd aC (by simp),rfl,by simp⟩
  ·(have aS:S≠[]:=fun e=>by obtain ⟨i,hi,_⟩:=aQ;rw [e] at hi;simp at hi);obtain ⟨R,jG⟩:=afO p7 cp ak aS bK;have hlen:=jG.len;have ad:R.length=1:=by
    rw [hlen];rcases aq with aq | aq
    ·rw [aq];rfl
    ·rw [aq.1];rfl
   obtain ⟨l,a,c,X2,bZ⟩:=jG.toRowsOf.single ad;have jO:l≠[]:=jG.ne l (by rw [X2];simp);have Ih:=bZ.odd p7 jO;rcases aq with aq | ⟨af,af8⟩
   ·have:a=c:=Classical.byContradiction fun bO=>by
     have:=(Ih.2 bO).length_eq;rw [aq] at this;simp at this
    subst this;obtain ⟨l',lV⟩:=bZ.ajO aQ;exact ⟨l',f,lV⟩
   ·(have bO:a≠c:=fun e=>by have:=Ih.1 e;rw [this] at af;simp at af);have:=(Ih.2 bO).mem_iff.1 af8;simp only [sH,uc,or_false] at this;rcases this with rfl | rfl
    ·exact ⟨l,c,bZ⟩
    ·exact ⟨_,_,bZ.back⟩
 ·rintro ⟨l,c,bZ⟩;by_cases aS:l=[]
  ·subst aS;left;have:=bZ.all.length_eq;simp at this;exact tt.1 this.symm
  ·right;refine ⟨(ZF bZ.go).perm bZ.all,(bZ.ends p7 aS).2.2.1,?_⟩;have Ih:=bZ.odd p7 aS;by_cases e:f=c
   ·exact .inl (Ih.1 e)
   ·exact .inr ⟨(Ih.2 e).length_eq,(Ih.2 e).mem_iff.2 (by simp)⟩
theorem abh {s:List Int} {v:Int} (ai:s.length≤1000):∀ (m i:Nat) (z:Int),z=i→i≤s.length→s.length-i<m→Mj s v (fun _=>some (-1:Int)) m z=some (posOf (fun x=>decide (v=x)) (s.drop i) i)
 | 0,i,_,_,_,h=>absurd h (by omega)
 | m+1,i,_,rfl,hi,hm=>by
   rw [Mj];by_cases h:i<s.length
   ·rw [JC h,HH h,rm h,tf h,posOf];by_cases aC:v=s[i]
    ·rw [if_pos (decide_eq_true aC),if_pos (decide_eq_true aC)]
    ·rw [if_neg (by simpa using aC),if_neg (by simpa using aC),r4 i (by omega),abh ai m (i+1) _ rfl (by omega) (by omega)]
   ·rw [JB h,tz (by omega)];rfl
theorem alK {s:List Int} {v:Int} (ai:s.length≤1000):Pe s v=some (decide (v∈s)):=by
 have:=abh (v:=v) ai qe 0 0 rfl (sK _) (rR (by omega));rw [tb] at this;rw [Pe,Q1,this,sq,OR];congr 1;rw [Bool.eq_iff_iff];simp
def L3 (b:qb) (f i:Int):Bool:=decide ((ix b.2 i).1=f) || decide ((ix b.2 i).2=f)
theorem af7 {f i:Int}:L3 b f i=true↔re b i f:=by unfold L3 re;simp
theorem alA (p7:qM b) (cp:rL b S) (aN:S.Nodup) (f:Int):∃ r:Bool,Mg b S f=some r∧(r=true↔KF b S f):=by
 have ak:S.length≤b.2.length:=KS aN cp;have dD:=p7.len;have anJ:(q3 b S).length≤6:=sW (tO _ _) (by rw [se];omega);have l1:=Ma p7 cp;obtain ⟨out,ad,af,_⟩:=ab0 (b:=b) (S:=S) p7.len aN cp;rw [Mg,VQ p7 cp (by omega),sq];by_cases aS:S=[]
 ·rw [if_pos (by simp [aS])];exact ⟨true,rfl,by simp [KF,aS]⟩
 ·rw [if_neg (by simpa using aS)];have eu:=af.one aS
  have X8:K4 S (fun q1=>NM q1 b f)=some (S.any (L3 b f)):=VW (fun x al=>by
   have nG:=cp x al;rw [NM,qx nG,qx nG];unfold L3
   split <;> simp [*]) (by omega)
  have PZ:S.any (L3 b f)=true↔∃ i∈S,re b i f:=by
   rw [vk];simp only [af7]
  by_cases aG:2<(q3 b S).length
  ·rw [if_pos (by simp;omega)];refine ⟨false,rfl,?_⟩;simp only [ub,false_iff];rintro (h | ⟨_,_,h | h⟩)
   ·exact aS h
   ·rw [h] at aG;simp at aG
   ·omega
  ·rw [if_neg (by simp;omega)];by_cases a8:(q3 b S).length=2
   ·rw [if_pos (by simp [a8]),alK (by omega),sq];by_cases bN:f∈q3 b S
    ·rw [if_pos (decide_eq_true bN),X8,sq];by_cases bX:S.any (L3 b f)=true
     ·rw [if_pos bX,ad,sq];refine ⟨_,rfl,?_⟩;rw [decide_eq_true_eq,show ((out.length:Int)=1↔out.length=1) by omega,eu];exact ⟨fun h=>.inr ⟨h,PZ.1 bX,.inr ⟨a8,bN⟩⟩,fun h=>h.elim (fun h=>absurd h aS) fun h=>h.1⟩
     ·rw [if_neg bX];exact ⟨false,rfl,by simp only [ub,false_iff];exact fun h=>h.elim aS fun h=>bX (PZ.2 h.2.1)⟩
    ·rw [if_neg (by simpa using bN)];refine ⟨false,rfl,?_⟩;simp only [ub,false_iff];rintro (h | ⟨_,_,h | h⟩)
     ·exact aS h
     ·rw [h] at a8;simp at a8
     ·exact bN h.2
   ·have cQ:q3 b S=[]:=tt.1 (by omega);rw [if_neg (by simp;omega),X8,sq];by_cases bX:S.any (L3 b f)=true
    ·rw [if_pos bX,ad,sq];refine ⟨_,rfl,?_⟩;rw [decide_eq_true_eq,show ((out.length:Int)=1↔out.length=1) by omega,eu];exact ⟨fun h=>.inr ⟨h,PZ.1 bX,.inl cQ⟩,fun h=>h.elim (fun h=>absurd h aS) fun h=>h.1⟩
    ·rw [if_neg bX];exact ⟨false,rfl,by simp only [ub,false_iff];exact fun h=>h.elim aS fun h=>bX (PZ.2 h.2.1)⟩
end
end Go.Proofs.YtfakoboiahbhaaaGreat.Ab


namespace Go.Proofs.YtfakoboiahbhaaaGreat.Ab
open Go
set_option maxRecDepth 20000
set_option maxHeartbeats 4000000

end Go.Proofs.YtfakoboiahbhaaaGreat.Ab


namespace Go.Proofs.YtfakoboiahbhaaaGreat.Ab
open Go
set_option maxRecDepth 20000
set_option maxHeartbeats 4000000
end Go.Proofs.YtfakoboiahbhaaaGreat.Ab


namespace Go.Proofs.YtfakoboiahbhaaaGreat.Ab
open Go
def GU (S:List Int) (i:Int):List Int:=S.filter fun x=>decide (x≠i)
def Lg (b:qb) (S:List Int) (f:Int):Bool:=(Mg b S f).getD false
def G8 (b:qb) (S:List Int) (at_:Int) (p:Int×Int):Bool:=(decide (at_<0) || decide (qP b p=at_)) && Lg b (GU S p.1) (fin b p)
def IA (b:qb) (S:List Int) (at_ i:Int):Row:=[(i,0),(i,1)].filter (G8 b S at_)
def HE (b:qb) (S:List Int) (at_:Int):Row:=S.flatMap (IA b S at_)
def Ls (b:qb):Nat→List Int→Row→Int→Row
 | 0,_,out,_=>out
 | m+1,S,out,at_=>match HE b S at_ with
   | []=>out
   | p::_=>Ls b m (GU S p.1) (out++[p]) (fin b p)
def He (b:qb):Row:=Ls b (b.2.length+1) (upto b.2.length) [] (-1)
section
variable {b:qb} {S:List Int}
theorem SS (p7:qM b) (cp:rL b S) (aN:S.Nodup) (f:Int):Mg b S f=some (Lg b S f)∧(Lg b S f=true↔KF b S f):=by
 obtain ⟨r,ad,af⟩:=alA p7 cp aN f
 have:Lg b S f=r:=by unfold Lg;rw [ad];rfl
 rw [this];exact ⟨ad,af⟩
theorem NJ (cp:rL b S) (i:Int):rL b (GU S i):=fun x al=>cp x (s_.1 al).1
theorem Pb (aN:S.Nodup) (i:Int):(GU S i).Nodup:=aN.filter _
theorem QX (aN:S.Nodup) {i:Int} (hi:i∈S):S.Perm (i::GU S i):=by
 refine (uO aN ?_).2 fun x=>?_
 ·rw [List.nodup_cons];refine ⟨fun h=>?_,Pb aN i⟩;have:=(s_.1 h).2;simp at this
 ·rw [sH,GU,s_];constructor
  ·intro h;by_cases e:x=i
   ·exact .inl e
   ·exact .inr ⟨h,by simpa using e⟩
  ·rintro (rfl | h)
   ·exact hi
   ·exact h.1
theorem Qf {at_:Int} {p:Int×Int}:p∈HE b S at_↔p.1∈S∧(p.2=0∨p.2=1)∧G8 b S at_ p=true:=by
 unfold HE IA;rw [List.mem_flatMap];constructor
 ·rintro ⟨i,hi,h⟩;rw [s_] at h;obtain ⟨ad,af⟩:=h;simp only [sH,uc,or_false] at ad;rcases ad with rfl | rfl
  ·exact ⟨hi,.inl rfl,af⟩
  ·exact ⟨hi,.inr rfl,af⟩
 ·rintro ⟨ad,af,aG⟩;refine ⟨p.1,ad,s_.2 ⟨?_,aG⟩⟩;obtain ⟨bT,b6⟩:=p;rcases af with af | af
  ·simp only at af;subst af;simp
  ·simp only at af;subst af;simp
def RY (b:qb) (S:List Int) (at_:Int):Prop:=(at_<0∧∃ f,KF b S f)∨(0≤at_∧KF b S at_)
theorem RY.next (p7:qM b) (cp:rL b S) (aN:S.Nodup) {at_:Int} (h:RY b S at_) (aS:S≠[]):HE b S at_≠[]:=by
 have ak:S.length≤990:=sW (KS aN cp) (by have:=p7.len;omega);obtain ⟨f,aQ,aO⟩:∃ f,(at_<0∨f=at_)∧KF b S f:=by
  rcases h with ⟨ad,f,af⟩ | ⟨_,af⟩
  ·exact ⟨f,.inl ad,af⟩
  ·exact ⟨_,.inr rfl,af⟩
 obtain ⟨l,c,bZ⟩:=(SU p7 cp ak).1 aO
 match l,bZ with
 | [],bZ =>
   have:=bZ.all.length_eq;simp at this;exact absurd (tt.1 this.symm) aS
 | p::l,bZ =>
   obtain ⟨cd,b_⟩:=I0.1 bZ.go;have aC:=bZ.ok p (by simp);have P8:p.1∈S:=bZ.all.mem_iff.1 (by simp);have Ji:(l.map (·.1)).Perm (GU S p.1):=by
    have:=bZ.all.trans (QX aN P8);rw [sy] at this;exact this.cons_inv
   have Hp:KF b (GU S p.1) (fin b p):=(SU p7 (NJ cp _) (sW (tO _ _) ak)).2 ⟨l,c,fun q a5=>bZ.ok q (by simp [a5]),b_,Ji⟩
   have hm:p∈HE b S at_:=Qf.2 ⟨P8,by have:=aC.2.2;omega,by
    unfold G8;rw [(SS p7 (NJ cp _) (Pb aN _) _).2.2 Hp];rcases aQ with aQ | rfl
    ·simp [aQ]
    ·simp [cd]⟩
   intro e;rw [e] at hm;simp at hm
theorem YW (p7:qM b):∀ (m:Nat) (S:List Int) (out:Row) (at_:Int),S.length<m→rL b S→S.Nodup→RY b S at_→∃ l f c,Ls b m S out at_=out++l∧Iq b S f c l∧(0≤at_→f=at_)
 | 0,_,_,_,h,_,_,_=>absurd h (by omega)
 | m+1,S,out,at_,hm,cp,aN,aO=>by
   rw [Ls];by_cases aS:S=[]
   ·subst aS;refine ⟨[],at_,at_,by simp [HE],⟨fun p aC=>absurd aC (by simp),rfl,by simp⟩,fun _=>rfl⟩
   ·have bO:=aO.next p7 cp aN aS
    match he:HE b S at_,bO with
    | p::r,_ =>
      have aC:=Qf.1 (show p∈HE b S at_ by rw [he];simp);obtain ⟨ad,af,aG⟩:=aC;unfold G8 at aG;rw [Bool.and_eq_true,Bool.or_eq_true,decide_eq_true_eq,decide_eq_true_eq] at aG;have Hp:=(SS p7 (NJ cp p.1) (Pb aN p.1) (fin b p)).2.1 aG.2;have bQ:HI b p:=⟨(cp _ ad).1,(cp _ ad).2,by omega,by omega⟩;have aU:=(QX aN ad).length_eq;rw [sP] at aU;obtain ⟨l,f,c,e1,cm,dJ⟩:=YW p7 m (GU S p.1) (out++[p]) (fin b p) (by omega) (NJ cp _) (Pb aN _) (.inr ⟨(PE p7 bQ).2.1,Hp⟩);have dJ:=dJ (PE p7 bQ).2.1;subst dJ;refine ⟨p::l,qP b p,c,by simp only;rw [e1];simp,⟨fun q a5=>?_,I0.2 ⟨rfl,cm.go⟩,?_⟩,fun h=>?_⟩
      ·rcases sH.1 a5 with rfl | a5
       ·exact bQ
       ·exact cm.ok q a5
      ·rw [sy];exact (cm.all.cons _).trans (QX aN ad).symm
      ·rcases aG.1 with aG | aG
       ·omega
       ·exact aG
theorem ain (p7:qM b) (aS:0<b.2.length) (ad:G9 b≤1):∃ f,KF b (upto b.2.length) f:=by
 obtain ⟨R,jG,rk⟩:=Rd p7;have hlen:=rk.len;have P9:0<R.length:=by
  refine vL fun e=>?_;have:=rk.all.length_eq;rw [tt.1 e,se] at this;simp at this;omega
 obtain ⟨l,a,c,_,bZ⟩:=rk.toRowsOf.single (by omega);have dD:=p7.len;exact ⟨a,(SU p7 I7 (by rw [se];omega)).2 ⟨l,c,bZ⟩⟩
theorem YZ (p7:qM b) (aS:0<b.2.length) (ad:G9 b≤1):∃ f c,Iq b (upto b.2.length) f c (He b):=by
 obtain ⟨l,f,c,e,bZ,_⟩:=YW p7 (b.2.length+1) (upto b.2.length) [] (-1) (by rw [se];omega) I7 (IJ _) (.inl ⟨by omega,ain p7 aS ad⟩);refine ⟨f,c,?_⟩;unfold He;rw [e,ur];exact bZ
def G' (b:qb):Int:=if ri b≠0 then ri b else if b.2.length=0 then 5 else if 1<G9 b then 27 else 0
def Ij (b:qb):Row×Int:=if G' b≠0 then ([],G' b) else (He b,0)
theorem TR:G' b=0↔qM b∧0<b.2.length∧G9 b≤1:=by
 rw [←Hi];unfold G';split
 ·rename_i h;exact ⟨fun e=>absurd e h,fun e=>absurd e.1 h⟩
 ·rename_i h;have h:ri b=0:=by omega
  split
  ·constructor
   ·intro h;omega
   ·rintro ⟨_,h,_⟩;omega
  ·split
   ·constructor
    ·intro h;omega
    ·rintro ⟨_,_,h⟩;omega
   ·exact ⟨fun _=>⟨h,by omega,by omega⟩,fun _=>rfl⟩
end
end Go.Proofs.YtfakoboiahbhaaaGreat.Ab


namespace Go.Proofs.YtfakoboiahbhaaaGreat.Ab
open Go
section
variable {b:qb} {S:List Int}
def IE (r:List Int):Row→Bool
 | []=>false
 | p::_=>decide (p.1∈r)
theorem RowsOf.Yl {P:List (List Int)} {R:List Row} (Cb:rz b (upto b.2.length) P) {q:Row} {a c:Int} (bQ:∀ p∈q,HI b p) (aO:qV b a q=some c) {r:List Int} (aj:r∈P) {p Km:Int×Int} (aC:p∈q) (P7:Km∈q) (h:p.1∈r):Km.1∈r:=by
 have Jj:∀ x∈q.map (·.1),x∈upto b.2.length:=fun x al=>by
  obtain ⟨p,aC,rfl⟩:=sJ.1 al;exact Hq.2 ⟨(bQ p aC).1,(bQ p aC).2.1⟩
 have ao:=(ZF aO) p.1 (uL aC) Km.1 (uL P7) (qP b p) (qP b Km) ((Jd p _).2 (.inl rfl)) ((Jd Km _).2 (.inl rfl));exact Cb.closed aj h ((Jd p _).2 (.inl rfl)) (ao.mono Jj) Km.1 (Jj _ (uL P7)) ((Jd Km _).2 (.inl rfl))
theorem afk {R:List Row} {q:Row→Bool}:(((R.filter q).flatten).map (·.1)).Sublist (R.flatten.map (·.1)):=by
 refine List.Sublist.map _ ?_
 induction R with
 | nil=>simp
 | cons r R bb =>
   rw [tr];split
   ·rw [tG,tG];exact List.Sublist.append (List.Sublist.refl _) bb
   ·rw [tG];exact bb.trans (List.sublist_append_right _ _)
theorem aiy {P:List (List Int)} {R:List Row} (Cb:rz b (upto b.2.length) P) (jG:RowsOf b (upto b.2.length) R) {r:List Int} (aj:r∈P):RowsOf b r (R.filter (IE r)):=by
 refine ⟨fun q a5=>jG.ok q (s_.1 a5).1,fun q a5=>jG.go q (s_.1 a5).1,?_⟩;have jQ:(R.flatten.map (·.1)).Nodup:=jG.all.nodup_iff.2 (IJ _);refine (uO (afk.nodup jQ) ((Cb.II r aj).imp fun h e=>by omega)).2 fun x=>?_;constructor
 ·intro al;obtain ⟨p,aC,rfl⟩:=sJ.1 al;obtain ⟨q,a5,Ln⟩:=tZ.1 aC;obtain ⟨Kj,bK⟩:=s_.1 a5;obtain ⟨a,c,aO⟩:=jG.go q Kj
  match q,Ln,bK,Kj,aO with
  | Kn::fT,Ln,bK,Kj,aO =>
    have bK:Kn.1∈r:=of_decide_eq_true bK;exact RowsOf.Yl (R:=R) Cb (jG.ok _ Kj) aO aj (by simp) Ln bK
 ·intro al;have L6:=(Cb.mem x).2 ⟨r,aj,al⟩;obtain ⟨p,aC,rfl⟩:=sJ.1 (jG.all.mem_iff.2 L6);obtain ⟨q,Kj,Ln⟩:=tZ.1 aC;refine uL (tZ.2 ⟨q,s_.2 ⟨Kj,?_⟩,Ln⟩);obtain ⟨a,c,aO⟩:=jG.go q Kj
  match q,Ln,Kj,aO with
  | Kn::fT,Ln,Kj,aO=>exact decide_eq_true (RowsOf.Yl (R:=R) Cb (jG.ok _ Kj) aO aj Ln (by simp) al)
theorem af6 {P:List (List Int)} (a1:P.Pairwise fun r q=>∀ x∈r,x ∉ q) (q:Row):(P.map fun r=>if IE r q=true then 1 else 0).sum≤1:=by
 induction P with
 | nil=>simp
 | cons r P bb =>
   obtain ⟨ad,af⟩:=tD.1 a1;rw [sy,tn];by_cases h:IE r q=true
   ·rw [if_pos h]
    have:(P.map fun r=>if IE r q=true then 1 else 0).sum=0:=by
     have:∀ r'∈P,IE r' q=false:=fun r' yZ=>by
      match q,h with
      | p::fT,h =>
        have h:p.1∈r:=of_decide_eq_true h;exact decide_eq_false (ad r' yZ _ h)
     clear bb a1 ad af
     induction P with
     | nil=>rfl
     | cons r' P bb =>
       rw [sy,tn,this r' (by simp),bb fun aiR agx=>this aiR (by simp [agx])];rfl
    omega
   ·rw [if_neg h];have:=bb af;omega
theorem ZM {P:List (List Int)} (a1:P.Pairwise fun r q=>∀ x∈r,x ∉ q):∀ R:List Row,(P.map fun r=>(R.filter (IE r)).length).sum≤R.length
 | []=>by
   have:∀ P:List (List Int),(P.map fun r=>(([]:List Row).filter (IE r)).length).sum=0:=fun P=>by
    induction P with
    | nil=>rfl
    | cons r P bb=>rw [sy,tn,bb];rfl
   rw [this];exact sK _
 | q::R=>by
   have bb:=ZM a1 R;have ad:=af6 a1 q;have add:∀ P:List (List Int),(P.map fun r=>((q::R).filter (IE r)).length).sum=(P.map fun r=>if IE r q=true then 1 else 0).sum+(P.map fun r=>(R.filter (IE r)).length).sum:=fun P=>by
    induction P with
    | nil=>rfl
    | cons r P bb =>
      rw [sy,tn,bb,sy,tn,sy,tn,tr];by_cases h:IE r q=true
      ·rw [if_pos h,if_pos h,sP];omega
      ·rw [if_neg h,if_neg h];omega
   rw [add,sP];omega
theorem NA {α:Type} (f g:α→Nat):∀ l:List α,(∀ x∈l,f x≤g x)→(l.map f).sum≤(l.map g).sum
 | [],_=>sx _
 | x::l,h=>by
   rw [sy,sy,tn,tn];have ad:=h x (by simp);have af:=NA f g l fun y a2=>h y (by simp [a2]);omega
theorem SF (p7:qM b) {R:List Row} (jG:RowsOf b (upto b.2.length) R):G9 b≤R.length:=by
 have Cb:=(K3 p7).2.1;refine sW (NA _ (fun r=>(R.filter (IE r)).length) _ fun r aj=>?_) (ZM Cb.rP R);have ai:=aiy Cb jG aj;have ad:=ai.Kb;have af:((R.filter (IE r)).filter fun r:Row=>!r.isEmpty).length≤(R.filter (IE r)).length:=tO _ _;have aG:0<(R.filter (IE r)).length:=by
  refine vL fun e=>Cb.ne r aj ?_;have:=ai.all.length_eq;rw [tt.1 e] at this;simp at this;exact tt.1 this.symm
 unfold HQ;omega
theorem SC:∀ (r pre:Row),((pre++r).map (·.1)).Nodup→Hw pre r=false
 | [],_,_=>rfl
 | p::r,pre,h=>by
   rw [Hw,if_neg]
   ·exact SC r (pre++[p]) (by simpa using h)
   ·intro al;obtain ⟨q,a5,e⟩:=vk.1 al;have e:=of_decide_eq_true e;rw [ti,List.nodup_append] at h;exact h.2.2 q.1 (uL a5) p.1 (by simp) e
theorem Xh (p7:qM b) {r:Row} {a c:Int} (aS:r≠[]) (bQ:∀ p∈r,HI b p) (aN:(r.map (·.1)).Nodup) (aO:qV b a r=some c):rU b r=(a,c,0):=by
 unfold rU;rw [if_neg (by rw [Hi.2 p7];simp)]
 match r,aS,bQ,aN,aO with
 | p::r,_,bQ,aN,aO =>
   have ad:((p::r).any (G7 b))=false:=by
    rw [List.any_eq_false];intro q a5;rw [Bool.not_eq_true];exact Lw.2 (bQ q a5)
   have af:Hw [] (p::r)=false:=SC _ _ (by simpa using aN);have aG:=(I0.1 aO).1;dsimp only;rw [if_neg (by rw [ad];simp),if_neg (by rw [af];simp),aG,aO]
def IB (b:qb) (rows:List Row):Int×Int:=if ri b≠0 then (0,ri b) else match rows.find? fun r=>decide ((rU b r).2.2≠0) with
 | some r=>(0,(rU b r).2.2)
 | none=>if ((rows.flatten).map (·.1)).Nodup then (if (rows.flatten).length≠b.2.length then (0,15) else (rows.length,0)) else (0,11)
theorem Sw (p7:qM b) {R:List Row} (jG:RowsOf b (upto b.2.length) R) (bO:∀ r∈R,r≠[]):IB b R=((R.length:Int),0):=by
 have jQ:((R.flatten).map (·.1)).Nodup:=jG.all.nodup_iff.2 (IJ _);have ak:=jG.all.length_eq;rw [tj,se] at ak;unfold IB;have aQ:(R.find? fun r=>decide ((rU b r).2.2≠0))=none:=List.find?_eq_none.2 fun r aj=>by
  obtain ⟨a,c,aO⟩:=jG.go r aj;have y4:(r.map (·.1)).Sublist ((R.flatten).map (·.1)):=by
   refine List.Sublist.map _ ?_;obtain ⟨s,t,rfl⟩:=vm aj;simp
  rw [Xh p7 (bO r aj) (jG.ok r aj) (y4.nodup jQ) aO];simp
 rw [if_neg (by rw [Hi.2 p7];simp),aQ];simp only;rw [if_pos jQ,if_neg (by omega)]
end
end Go.Proofs.YtfakoboiahbhaaaGreat.Ab


namespace Go.Proofs.YtfakoboiahbhaaaGreat.Ab
open Go
set_option maxRecDepth 20000
set_option maxHeartbeats 4000000
noncomputable def Ry:eE :=
 .loop (some (ED false [1,2,3,2,57])) (.seq (GD [Gs 17 7,Gs 18 1,Gp 19 18,F5 20 17 19 .lss] (.cond (.sl 20) .skip (.exit 0))) (.seq (.block 1 (.seq (Gx [gV 24 [.sl 2] (.p2 (.str 2)),Gs 25 1,Gs 26 7,Gl 27 25 26 1,Gq 28 27,gV 29 [.iK (.func 19 [] []),.sl 24,.sl 28] (.call 3),Gt 23 29,GL 30 23 0,GL 31 23 1,GL 32 23 2,Gt 8 30,Gt 9 31,Gt 10 32]) (.seq (GD [Gs 33 10,F4 34 33 0 .neq] (.cond (.sl 34) (GD [Gt 35 10,Gr 4 0,Gt 5 35] .ret) .skip)) (Gw [Gt 36 6,Gs 37 1,Gs 38 7,Gl 39 37 38 1,Gq 40 39,gV 41 [.hP 36,.hP 40] (.app 2 16),Gt 6 41])))) (Gw [Gt 21 7,F3 22 21 1,Gt 7 22])))
noncomputable def Rz:eE :=
 .loop (some (ED false [1,2,3,1,4,1,53])) (.seq (GD [Gs 42 11,Gs 43 6,Gp 44 43,F5 45 42 44 .lss] (.cond (.sl 45) .skip (.exit 2))) (.seq (.block 3 (.seq (Gx [Gs 48 6,Gs 49 11,gV 50 [.hP 48,.hP 49] (.A2 2 false true false),Gs 51 6,Gs 52 11,Gl 53 51 52 2,F_ 54 53 0,Gq 55 54,gV 56 [.iK (.func 69 [] []),.sl 50,.sl 55] (.call 3)]) (.cond (.sl 56) (GD [Gr 4 0,Gr 5 11] .ret) .skip))) (Gw [Gt 46 11,F3 47 46 1,Gt 11 47])))
noncomputable def acE:eE :=
 GD [gV 2 [.hP 0] .box,Gr 4 0,Gr 5 0] (.seq (GD [gV 12 [.sl 2] (.p2 (.str 2)),gV 13 [.iK (.func 21 [] []),.sl 12] (.call 3),F4 14 13 0 .neq] (.cond (.sl 14) (GD [gV 15 [.hS 2] (.p2 (.str 2)),gV 16 [.iK (.func 21 [] []),.sl 15] (.call 3),Gr 4 0,Gt 5 16] .ret) .skip)) (GD [gV 6 [.iK (.ay [] 0 .full)] (.nil 2)] (.seq (GD [Gr 7 0] (.block 0 Ry)) (.seq (GD [Gr 11 0] (.block 2 Rz)) (.seq (GD [Gt 57 6,Gp 58 57,F_ 59 2 1,Gq 60 59,Gp 61 60,F5 62 58 61 .neq] (.cond (.sl 62) (GD [Gr 4 0,Gr 5 15] .ret) .skip)) (GD [Gt 63 1,Gp 64 63,Gt 4 64,Gr 5 0] .ret))))))
theorem ahx:zm Tryz.prog PA 26=some (acE,65,[.tmp 4,.tmp 5]):=by kernel_rfl
def Mu (b:qk) (rows:qq) (qi:p'→Option (Int×Int)):Nat→p'→Int→Option (Int×Int)
 | 0,_,_=>none
 | m+1,s1,s2 =>
   if (decide (s2<(rows.length:Int)))=true then
    qh (0≤s2∧s2<(rows.length:Int)) <|
    (Mn b (ix rows s2)).bind fun eJ =>
    if (decide (eJ.2.2≠(0:Int)))=true then
     some ((0:Int),eJ.2.2)
    else
     qh (0≤s2∧s2<(rows.length:Int)) <|
     qh ((s1.length+(ix rows s2).length)*16≤140737488355328) <|
     Mu b rows qi m (s1++(ix rows s2)) (w (s2+(1:Int)))
   else
    qi s1
def Mv (x6:p') (qT:Unit→Option (Int×Int)):Nat→Int→Option (Int×Int)
 | 0,_=>none
 | m+1,dj =>
   if (decide (dj<(x6.length:Int)))=true then
    qh (0≤dj∧dj≤(x6.length:Int)) <|
    qh (0≤dj∧dj<(x6.length:Int)) <|
    (MB (x6.take dj.toNat) ((ix x6 dj).1)).bind fun qA =>
    if qA=true then
     some ((0:Int),(11:Int))
    else
     Mv x6 qT m (w (dj+(1:Int)))
   else
    qT ()
def NQ (b:qk) (rows:qq):Option (Int×Int) :=
 (Ku b).bind fun r1 =>
 if (decide (r1≠(0:Int)))=true then
  (Ku b).bind fun r2 =>
  some ((0:Int),r2)
 else
  Mu b rows (fun x6 =>
    Mv x6 (fun _ =>
      if (decide ((x6.length:Int)≠(b.2.length:Int)))=true then
       some ((0:Int),(15:Int))
      else
       some ((rows.length:Int),(0:Int))) qe (0:Int)) qe ([]:List (Int×Int)) (0:Int)
theorem al2 {b:qk} {rows:qq} {qi:p'→Option (Int×Int)} {s1:p'} {s2:Int} {v:(Int×Int)} {Q:q8}   (jG:qK [.tmp 4,.tmp 5] Q (fun v=>(.tuple [(hY v.1),(hY v.2)])) v) (rD:∀ (x6:p') (p8:List I),qi x6=some v→qO 65 [(1,(.ay (rows.map (qv p4)) rows.length .shared)),(2,(.ptr 0 0)),(6,(p9 x6 (.uniq 2)))] p8→Q (.exit 0) p8 [qI b]) {T:List I} (bZ:eX (ED false [1,2,3,2,57]) T=GI 65 [(1,(.ay (rows.map (qv p4)) rows.length .shared)),(2,(.ptr 0 0)),(6,(p9 s1 (.uniq 2))),(7,(hY s2))]) (h:Mu b rows qi qe s1 s2=some v) :
  dG Tryz.prog PA 26 0 none Ry T [qI b] Q:=by
 unfold Ry;refine wp_loop bZ ?_;refine .intro (fun m T H=>∃ (s1:p') (s2:Int),T=GI 65 [(1,(.ay (rows.map (qv p4)) rows.length .shared)),(2,(.ptr 0 0)),(6,(p9 s1 (.uniq 2))),(7,(hY s2))]∧H=[qI b]∧Mu b rows qi m s1 s2=some v) qe ⟨s1,s2,rfl,rfl,h⟩ ?_;clear h bZ;rintro m T H ⟨s1,s2,rfl,rfl,h⟩;cases m
 ·exact q_ h
 rename_i m;rw [Mu.eq_2] at h;conv=>whnf
 refine bs h (fun qC h=>?_) fun qC h=>?_
 ·rw [qC];conv=>whnf
  refine qw h id fun qH h=>?_;rw [rS (qv p4) rows s2 qH];conv=>whnf
  obtain ⟨eJ,qW,h⟩:=qj h;refine ⟨qt.pl,_,abo qW,Hu,?_⟩;conv=>whnf
  refine bs h (fun qU h=>?_) fun qU h=>?_
  ·rw [qU];(conv=>whnf);exact qc h jG rfl rfl
  ·rw [qU];(conv=>whnf);refine qw h id fun qX h=>?_;rw [rS (qv p4) rows s2 qX];(conv=>whnf);obtain ⟨ra,h⟩:=qF h;refine ⟨by first | rfl | (simp;done) | exact ry p4 _ qy _,by have:=ra;omega,rfl,ra,?_⟩
   erw [Sj p4 s1 (ix rows s2)];(conv=>whnf);exact ⟨m,sv m,(s1++(ix rows s2)),(w (s2+(1:Int))),rfl,rfl,h⟩
 ·rw [qC];conv=>whnf
  exact rD _ _ h ⟨rfl,rfl⟩
theorem al3 {x6:p'} {qT:Unit→Option (Int×Int)} {dj:Int} {b:qk} {rows:qq} {v:(Int×Int)} {Q:q8}   {H4:iB} (jG:qK [.tmp 4,.tmp 5] Q (fun v=>(.tuple [(hY v.1),(hY v.2)])) v) (HX:∀ (p8:List I),qT ()=some v→qO 65 [(1,(.ay (rows.map (qv p4)) rows.length .shared)),(2,(.ptr 0 0)),(6,(p9 x6 (.own 2)))] p8→Q (.exit 2) p8 [qI b]) (LZ:(H4=(.uniq 2)∨H4=(.own 2))) {T:List I} (bZ:eX (ED false [1,2,3,1,4,1,53]) T=GI 65 [(1,(.ay (rows.map (qv p4)) rows.length .shared)),(2,(.ptr 0 0)),(6,(.ay (x6.flatMap p4) x6.length H4)),(11,(hY dj))]) (h:Mv x6 qT qe dj=some v) :
  dG Tryz.prog PA 26 0 none Rz T [qI b] Q:=by
 unfold Rz;refine wp_loop bZ ?_;refine .intro (fun m T H=>∃ (dj:Int) (H4:iB),(H4=(.uniq 2)∨H4=(.own 2))∧T=GI 65 [(1,(.ay (rows.map (qv p4)) rows.length .shared)),(2,(.ptr 0 0)),(6,(.ay (x6.flatMap p4) x6.length H4)),(11,(hY dj))]∧H=[qI b]∧Mv x6 qT m dj=some v) qe ⟨dj,_,LZ,rfl,rfl,h⟩ ?_;clear h bZ;rintro m T H ⟨dj,H4,LZ,rfl,rfl,h⟩;cases m
 ·exact q_ h
 rename_i m;rw [Mv.eq_2] at h;rcases LZ with rfl | rfl
 ·conv=>whnf
  refine bs h (fun qL h=>?_) fun qL h=>?_
  ·rw [qL];(conv=>whnf);refine qw h id fun q9 h=>?_;erw [Nz p4 2 qy x6 dj q9];(conv=>whnf);refine qw h id fun rn h=>?_;rw [qY p4 2 qy x6 dj rn];(conv=>whnf);obtain ⟨qA,rb,h⟩:=qj h;refine ⟨qt.pl,_,J1 rb,Hu,?_⟩;(conv=>whnf);cases qA
   ·(conv=>whnf);replace h:=r0 rfl h;exact ⟨m,sv m,(w (dj+(1:Int))),_,(.inr rfl),rfl,rfl,h⟩
   ·(conv=>whnf);replace h:=rZ rfl h;exact qc h jG rfl rfl
  ·rw [qL];(conv=>whnf);exact HX  _ h ⟨rfl,rfl⟩
 ·conv=>whnf
  refine bs h (fun qL h=>?_) fun qL h=>?_
  ·rw [qL];(conv=>whnf);refine qw h id fun q9 h=>?_;erw [Nz p4 2 qy x6 dj q9];(conv=>whnf);refine qw h id fun rn h=>?_;rw [qY p4 2 qy x6 dj rn];(conv=>whnf);obtain ⟨qA,rb,h⟩:=qj h;refine ⟨qt.pl,_,J1 rb,Hu,?_⟩;(conv=>whnf);cases qA
   ·(conv=>whnf);replace h:=r0 rfl h;exact ⟨m,sv m,(w (dj+(1:Int))),_,(.inr rfl),rfl,rfl,h⟩
   ·(conv=>whnf);replace h:=rZ rfl h;exact qc h jG rfl rfl
  ·rw [qL];(conv=>whnf);exact HX  _ h ⟨rfl,rfl⟩
theorem abA {b:qk} {rows:qq} {v:(Int×Int)} (h:NQ b rows=some v):qD 26 [(.agg [(hY b.1),(.ay (b.2.flatMap p4) b.2.length .shared)]),(.ay (rows.map (qv p4)) rows.length .shared)] (.tuple [(hY v.1),(hY v.2)]):=by
 refine qZ dM ahx rfl (IX (p5 rfl (p5 rfl rfl))) fun Q bo=>?_;have jG:qK [.tmp 4,.tmp 5] Q (fun v=>(.tuple [(hY v.1),(hY v.2)])) v:=fun T H bK=>bo _ T H bK;unfold NQ at h;unfold acE;obtain ⟨HD,qS⟩:∃ c,Ry=c:=⟨_,rfl⟩;rw [qS];obtain ⟨Lc,sk⟩:∃ c,Rz=c:=⟨_,rfl⟩;rw [sk];conv=>whnf
 obtain ⟨r1,e0,h⟩:=qj h;refine ⟨qt.pl,_,Ph e0,?_⟩;conv=>whnf
 refine bs h (fun fs h=>?_) fun fs h=>?_
 ·rw [fs];conv=>whnf
  obtain ⟨r2,qp,h⟩:=qj h;refine ⟨qt.pl,_,Ph qp,?_⟩;conv=>whnf
  exact qc h jG rfl rfl
 ·rw [fs];conv=>whnf
  subst qS;refine al2 ?_ ?_ (by exact rfl) h
  ·exact fun T H bK=>jG T H bK
  ·intro x6 p8 h qf;obtain ⟨qJ,rfl⟩:=qf.ex;(conv=>whnf);subst sk;refine al3 ?_ ?_ (.inl rfl) (by exact rfl) h
   ·exact fun T H bK=>jG T H bK
   ·intro  p8 h qf;obtain ⟨qJ,rfl⟩:=qf.ex;(conv=>whnf);refine bs h (fun rY h=>?_) fun rY h=>?_
    ·rw [rY];(conv=>whnf);exact qc h jG rfl rfl
    ·rw [rY];(conv=>whnf);exact qc h jG rfl rfl

noncomputable def Rx:eE :=
 .loop (some (ED false [0,1,2,2,17])) (.seq (GD [Gs 7 4,Gs 8 0,Gp 9 8,F5 10 7 9 .lss] (.cond (.sl 10) .skip (.exit 0))) (.seq (.block 1 (Gw [Gt 13 3,Gs 14 0,Gs 15 4,Gl 16 14 15 1,Gq 17 16,Gp 18 17,gV 19 [.hP 13,.hP 18] .max,Gt 3 19])) (Gw [Gt 11 4,F3 12 11 1,Gt 4 12])))
noncomputable def acD:eE :=
 GD [gV 2 [.iK (.bool false)] .i_] (GD [Gs 5 0,Gp 6 5,Gt 3 6] (.seq (GD [Gr 4 0] (.block 0 Rx)) (GD [Gt 20 3,F4 21 20 14 .gtr,Gt 2 21] .ret)))
theorem ahw:zm Tryz.prog R' 24=some (acD,22,[.tmp 2]):=by kernel_rfl
def Mt (l:qq) (qi:Int→Option Bool):Nat→Int→Int→Option Bool
 | 0,_,_=>none
 | m+1,s1,s2 =>
   if (decide (s2<(l.length:Int)))=true then
    qh (0≤s2∧s2<(l.length:Int)) <|
    Mt l qi m (max s1 ((ix l s2).length:Int)) (w (s2+(1:Int)))
   else
    qi s1
def NP (l:qq):Option Bool :=
 Mt l (fun x6 =>
   some (decide ((14:Int)<x6))) qe (l.length:Int) (0:Int)
theorem alZ {l:qq} {qi:Int→Option Bool} {s1:Int} {s2:Int} {v:Bool} {Q:q8}   (rD:∀ (x6:Int) (p8:List I),qi x6=some v→qO 22 [(3,(hY x6))] p8→Q (.exit 0) p8 []) {T:List I} (bZ:eX (ED false [0,1,2,2,17]) T=GI 22 [(0,(.ay (l.map (qv p4)) l.length .shared)),(3,(hY s1)),(4,(hY s2))]) (h:Mt l qi qe s1 s2=some v) :
  dG Tryz.prog R' 24 0 none Rx T [] Q:=by
 unfold Rx;refine wp_loop bZ ?_;refine .intro (fun m T H=>∃ (s1 s2:Int),T=GI 22 [(0,(.ay (l.map (qv p4)) l.length .shared)),(3,(hY s1)),(4,(hY s2))]∧H=[]∧Mt l qi m s1 s2=some v) qe ⟨s1,s2,rfl,rfl,h⟩ ?_;clear h bZ;rintro m T H ⟨s1,s2,rfl,rfl,h⟩;cases m
 ·exact q_ h
 rename_i m;rw [Mt.eq_2] at h;conv=>whnf
 refine bs h (fun e0 h=>?_) fun e0 h=>?_
 ·rw [e0];conv=>whnf
  refine qw h id fun fs h=>?_;rw [rS (qv p4) l s2 fs];conv=>whnf
  exact ⟨m,sv m,(max s1 ((ix l s2).length:Int)),(w (s2+(1:Int))),rfl,rfl,h⟩
 ·rw [e0];conv=>whnf
  exact rD _ _ h ⟨rfl,rfl⟩
theorem al1 {l:qq} {v:Bool} (h:NP l=some v):qD 24 [(.ay (l.map (qv p4)) l.length .shared)] (B v):=by
 refine qZ dM ahw rfl rfl fun Q bo=>?_;have jG:qK [.tmp 2] Q (fun v=>(B v)) v:=fun T H bK=>bo _ T H bK;unfold NP at h;unfold acD;obtain ⟨HD,qS⟩:∃ c,Rx=c:=⟨_,rfl⟩;rw [qS];conv=>whnf
 subst qS;refine alZ ?_ (by exact rfl) h;intro x6 p8 h qf;obtain ⟨qJ,rfl⟩:=qf.ex;conv=>whnf
 exact qc h jG rfl rfl

end Go.Proofs.YtfakoboiahbhaaaGreat.Ab


namespace Go.Proofs.YtfakoboiahbhaaaGreat.Ab
open Go
set_option maxRecDepth 20000
set_option maxHeartbeats 4000000
end Go.Proofs.YtfakoboiahbhaaaGreat.Ab


namespace Go.Proofs.YtfakoboiahbhaaaGreat.Ab
open Go
section
variable {b:qb}
theorem abz {x6:Row} (bp:x6.length≤100000) (ai:∀ i:Nat,i<x6.length→(x6.take i).length≤1000) {k:Unit→Option (Int×Int)}:∀ (m i:Nat) (z:Int),z=i→i≤x6.length→x6.length-i<m→Mv x6 k m z=if Hw (x6.take i) (x6.drop i)=true then some (0,11) else k ()
 | 0,_,_,_,_,h=>absurd h (by omega)
 | m+1,i,_,rfl,hi,hm=>by
   rw [Mv];by_cases h:(i:Int)<(x6.length:Int)
   ·(have q':i<x6.length:=by omega);rw [if_pos (decide_eq_true h),qx ⟨by omega,by omega⟩,qx ⟨by omega,h⟩,rm q',Int.toNat_natCast,VO _ _ (ai i q'),sq,tf q',Hw];by_cases a1:((x6.take i).any fun q=>decide (q.1=x6[i].1))=true
    ·rw [if_pos a1,if_pos a1,if_pos rfl]
    ·rw [if_neg a1,if_neg a1,r4 i (by omega),abz bp ai m (i+1) _ rfl (by omega) (by omega),KY q']
   ·rw [if_neg (by simpa using h),tz (by omega),Hw,if_neg (by simp)]
theorem aby (ag:b.2.length≤1000) {rows:List Row} (aj:rows.length≤1000) (C6:∀ r∈rows,r.length≤1000) {k:Row→Option (Int×Int)}:∀ (m i:Nat) (z:Int) (acc:Row),z=i→i≤rows.length→rows.length-i<m→acc.length≤1000*i →
  Mu b rows k m acc z=match (rows.drop i).find? fun r=>decide ((rU b r).2.2≠0) with | some r=>some (0,(rU b r).2.2) | none=>k (acc++(rows.drop i).flatten)
 | 0,_,_,_,_,_,h,_=>absurd h (by omega)
 | m+1,i,_,acc,rfl,hi,hm,cg=>by
   rw [Mu];by_cases h:(i:Int)<(rows.length:Int)
   ·(have q':i<rows.length:=by omega);have ak:=C6 _ (sL q');rw [if_pos (decide_eq_true h),qx ⟨by omega,h⟩,rm q',abk b _ ag ak,sq,tf q',List.find?_cons];by_cases ao:(rU b rows[i]).2.2≠0
    ·rw [if_pos (decide_eq_true ao),decide_eq_true ao]
    ·rw [if_neg (by simpa using ao),decide_eq_false ao,qx ⟨by omega,h⟩,qx (by omega),r4 i (by omega),aby ag aj C6 m (i+1) _ _ rfl (by omega) (by omega) (by rw [sA];omega),tG,sD]
   ·rw [if_neg (by simpa using h),tz (by omega)];simp
theorem SJ:∀ {rows:List Row} {n:Nat},(∀ r∈rows,r.length≤n)→rows.flatten.length≤n*rows.length
 | [],_,_=>by simp
 | r::rows,n,h=>by
   have ad:=h r (by simp);have af:=SJ fun q a5=>h q (uw _ a5);rw [tG,sA,sP,Nat.mul_add];omega
theorem abx (ag:b.2.length≤1000) {rows:List Row} (aj:rows.length≤20) (C6:∀ r∈rows,r.length≤20):NQ b rows=some (IB b rows):=by
 rw [NQ,VI b ag,sq];unfold IB;by_cases h:ri b=0
 ·have pk:=SJ C6;rw [if_neg (by simp [h]),if_neg (by simp [h]),aby ag (by omega) (fun r aj=>sW (C6 r aj) (by omega)) qe 0 0 [] rfl (by omega) (rR (by omega)) (by simp),tb];cases (rows.find? fun r=>decide ((rU b r).2.2≠0)) with
  | some r=>rfl
  | none =>
    simp only [ur];rw [abz (by omega) (fun i _=>by rw [ta];omega) qe 0 0 rfl (by omega) (rR (by omega)),tu,tb];by_cases aN:(rows.flatten.map (·.1)).Nodup
    ·rw [if_pos aN,SC _ _ (by simpa using aN),if_neg (by simp)];by_cases ak:rows.flatten.length≠b.2.length
     ·rw [if_pos ak,if_pos (show decide ((rows.flatten.length:Int)≠(b.2.length:Int))=true by simp only [decide_eq_true_eq];omega)]
     ·rw [if_neg ak,if_neg (show ¬ decide ((rows.flatten.length:Int)≠(b.2.length:Int))=true by simp only [decide_eq_true_eq];omega)]
    ·rw [if_neg aN]
     have:Hw [] rows.flatten=true:=by
      cases a1:Hw [] rows.flatten with
      | true=>rfl
      | false=>exact absurd (by simpa using SB _ _ a1 (by simp)) aN
     rw [this,if_pos rfl]
 ·rw [if_pos (by simpa using h),if_pos h,sq]
theorem abu {l:List Row} (ak:l.length≤100000) {k:Int→Option Bool}:∀ (m i:Nat) (z a:Int),z=i→i≤l.length→l.length-i<m →
  ∃ aM,Mt l k m a z=k aM∧(14<aM↔14<a∨∃ r∈l.drop i,14<r.length)
 | 0,_,_,_,_,_,h=>absurd h (by omega)
 | m+1,i,_,a,rfl,hi,hm=>by
   rw [Mt];by_cases h:(i:Int)<(l.length:Int)
   ·(have q':i<l.length:=by omega);rw [if_pos (decide_eq_true h),qx ⟨by omega,h⟩,rm q',r4 i (by omega)];obtain ⟨aM,ad,af⟩:=abu ak (k:=k) m (i+1) _ (max a (l[i].length:Int)) rfl (by omega) (by omega);refine ⟨aM,ad,?_⟩;rw [af,tf q'];constructor
    ·rintro (h | ⟨r,aj,h⟩)
     ·by_cases ao:14<a
      ·exact .inl ao
      ·exact .inr ⟨_,List.mem_cons_self,by omega⟩
     ·exact .inr ⟨r,uw _ aj,h⟩
    ·rintro (h | ⟨r,aj,h⟩)
     ·exact .inl (by omega)
     ·rcases sH.1 aj with rfl | aj
      ·exact .inl (by omega)
      ·exact .inr ⟨r,aj,h⟩
   ·rw [if_neg (by simpa using h),tz (by omega)];exact ⟨a,rfl,by simp⟩
theorem alY {l:List Row} (ak:l.length≤100000):∃ r:Bool,NP l=some r∧(r=true↔14<l.length∨∃ q∈l,14<q.length):=by
 rw [NP];obtain ⟨aM,ad,af⟩:=abu ak (k:=fun x6=>some (decide ((14:Int)<x6))) qe 0 0 (l.length:Int) rfl (by omega) (rR (by omega));refine ⟨_,ad,?_⟩;rw [decide_eq_true_eq,af,tb];constructor
 ·rintro (h | h)
  ·exact .inl (by omega)
  ·exact .inr h
 ·rintro (h | h)
  ·exact .inl (by omega)
  ·exact .inr h
theorem al0 {l:List Row} (ak:l.length≤14) (h:∀ r∈l,r.length≤14):NP l=some false:=by
 obtain ⟨r,ad,af⟩:=alY (l:=l) (by omega);rw [ad];cases r with
 | false=>rfl
 | true =>
   rcases af.1 rfl with aG | ⟨q,a5,aG⟩
   ·omega
   ·have:=h q a5;omega
end
end Go.Proofs.YtfakoboiahbhaaaGreat.Ab


namespace Go.Proofs.YtfakoboiahbhaaaGreat.Ab
open Go
def Sg:c':={ ops:=[[],[],[{},{},{ cC:=[true],mode:=1 }],[],[{},{ cC:=[true] },{ cC:=[true] }],[],[],[],[{},{ cC:=[true] },{},{ cC:=[false,true] }],[{},{},{},{ cC:=[false,true,true],mode:=1 },{ cC:=[true],mode:=2 }],[],[],[{},{ cC:=[true] }],[{},{ cC:=[true] },{ cC:=[true,true] },{},{ cC:=[false,true] }],[{},{},{ mode:=3 },{ cC:=[true] },{},{ cC:=[true] },{ cC:=[true] },{ cC:=[true] }],[{},{ cC:=[true] },{ cC:=[true] },{ cC:=[true] },{},{ cC:=[true,true] },{ cC:=[true,false,true] },{ cC:=[true] },{},{},{ cC:=[true] },{ mode:=3 },{ cC:=[true,true] }],[{ cC:=[true] },{ cC:=[true] },{ cC:=[true] },{ cC:=[true,true] },{ cC:=[true] }],[{ cC:=[true] },{ cC:=[true] }],[{ cC:=[true] },{ cC:=[true] }],[{},{ cC:=[true] },{ cC:=[true] }],[{ cC:=[true] },{ cC:=[true] }],[{ cC:=[true] },{ mode:=3 },{},{ cC:=[false,true] }],[{ cC:=[true] },{},{ cC:=[true] },{ cC:=[true,true] },{ cC:=[true] }],[{ cC:=[true] },{},{ cC:=[false,true,true],mode:=1 },{ cC:=[true] }],[{},{ cC:=[true] },{ mode:=3 },{ cC:=[true] },{},{ cC:=[true] },{ cC:=[true] }],[{ cC:=[true] },{ cC:=[true] }]],ig:=[(0,(ED false [0,1,2,3,75])),(2,(ED false [0,1,2,4,13,3,58])),(4,(ED false [0,1,2,4,1,2,10,3,7,1,50]))] }
noncomputable def UQ:eE :=
 GD [gV 5 [] (.yg 0 1 [.int .i64 0] []),Gt 6 0,gV 7 [.hP 5,.hP 6] (.app 1 8),Gt 2 7] .ret
noncomputable def UP:eE :=
 GD [gV 2 [.iK (.ay [] 0 .full)] (.nil 1)] (.seq (GD [Gs 3 0, gV 4 [.hS 3, .iK (.ay [] 0 .full)] (.other (Oper.mk (some 4) (Op.binOp .eql 38 (Operand.tmp 3) (Operand.const (Value.slice none 0 0)) 38) 4 "slices.go:357" (Array.mk [Edge.mk 0 Ground.data]) none) 0)] (.cond (.sl 4) (GD [gV 2 [.iK (.ay [] 0 .full)] (.nil 1)] .ret) .skip)) UQ)
theorem YE:zm Go.Proofs.Tryz.prog W0 75=some (UP,8,[.tmp 2]):=by kernel_rfl
noncomputable def QE:eE :=
 .j_ false [Gt 55 6,gV 56 [.hS 11] (.p2 (.str 2)),gV 57 [.hS 56] (.yg 1 2 [.int .i64 0,.int .i64 0] [0]),gV 58 [.hP 55,.hP 57] (.app 2 16),Gt 6 58]
noncomputable def U5:eE :=
 GD [Gs 42 5,F4 43 42 0 .lss,Gt 44 43,cS 45 [.hP 12] 44 false .i_,cS 46 [.sl 5] 44 false .i_,cS 47 [.hS 45,.hS 46] 44 false (.bin .eql),gV 48 [.hS 44,.iK (.bool true),.hS 47] .pick,Gt 49 48,cS 50 [.sl 0] 49 true .i_,cS 51 [.sl 9] 49 true .i_,cS 52 [.hP 13] 49 true .i_,⟨some 53,[.iK (.func 109 [] []),.sl 50,.sl 51,.sl 52],some (49,true),none,.call 3⟩,gV 54 [.hS 49,.hS 53,.iK (.bool false)] .pick] (.cond (.sl 54) QE .skip)
noncomputable def U6:eE :=
 GD [Gs 37 0,gV 38 [.sl 11] (.p2 (.str 2)),gV 39 [.iK (.func 68 [] []),.sl 37,.sl 38] (.call 3),Gt 36 39,GL 40 36 0,gV 41 [.hS 36] (.ext 1),Gt 12 40,Gt 13 41] U5
noncomputable def U7:eE :=
 GD [gV 33 [.sl 8] (.p2 .one),Gt 34 10,gV 35 [.hS 33,.hS 34] (.build [.int .i64 0,.int .i64 0] [(0,1),(1,1)]),gV 11 [] (.alloc [.int .i64 0,.int .i64 0]),⟨none,[.sl 11,.hP 35],none,none,.st 2⟩] U6
noncomputable def U8:eE :=
 .block 5 (GD [Gs 32 30,Gt 10 32] U7)
noncomputable def QG:eE :=
 GD [Gr 30 0] (.block 4 (.loop (some (ED false [0,1,2,4,1,2,10,3,7,1,50])) (GD [gV 31 [.sl 30,.iK (.int .i64 2)] (.bin .lss)] (.seq (.cond (.sl 31) .skip (.exit 4)) (.seq U8 (Gw [F3 59 30 1,Gt 30 59]))))))
noncomputable def U9:eE :=
 GD [Gs 26 4, gV 27 [.iK (.func 75 [] []), .sl 26] (.call 0), gV 28 [.sl 8] (.zC 108 0 1), gV 29 [.iK (.func 107 [] []), .hP 27, .hP 28] (.call 1), ⟨some 9, [.hP 29], none, some 29, .other (Oper.mk (some 9) (Op.assign (Operand.tmp 29)) 38 "table.go:204" (Array.mk [Edge.mk 3 Ground.data, Edge.mk 3 Ground.chain, Edge.mk 0 Ground.phase, Edge.mk 1 Ground.phase, Edge.mk 2 Ground.phase, Edge.mk 3 Ground.phase]) none) 2⟩] QG
noncomputable def U_:eE :=
 .block 3 (GD [gV 24 [.sl 20,.sl 22] (.pV 1),Gq 25 24,gV 8 [] (.alloc [.int .i64 0]),⟨none,[.sl 8,.hP 25],none,none,.st 1⟩] U9)
noncomputable def U':eE :=
 .j_ false [Gs 75 0,gV 76 [.hS 14] (.p2 (.str 2)),gV 77 [.iK (.func 68 [] []),.sl 75,.sl 76] (.call 3),Gt 74 77,GL 78 74 0,gV 79 [.hS 74] (.ext 1),Gt 5 79]
noncomputable def UZ:eE :=
 GD [Gt 71 4,gV 72 [.sl 14] (.zC 112 0 1),gV 73 [.iK (.func 107 [] []),.hP 71,.hP 72] (.call 1),Gt 4 73] U'
noncomputable def U0:eE :=
 GD [Gt 67 3,gV 68 [.sl 14] (.p2 (.str 2)),gV 69 [.hS 68] (.yg 1 2 [.int .i64 0,.int .i64 0] [0]),gV 70 [.hP 67,.hP 69] (.app 2 16),Gt 3 70] UZ
noncomputable def U1:eE :=
 GD [Gt 65 6,gV 66 [.iK (.func 110 [] []),.sl 65,.iK (.func 111 [] [])] (.call 3),gV 14 [] (.alloc [.int .i64 0,.int .i64 0]),⟨none,[.sl 14,.hP 66],none,none,.st 2⟩] U0
noncomputable def U2:eE :=
 .seq (GD [Gs 61 6,Gp 62 61,F4 63 62 0 .eql] (.cond (.sl 63) (GD [Gt 64 3,Gt 2 64] .ret) .skip)) U1
noncomputable def QF:eE :=
 .seq (GD [Gs 20 4,gV 21 [.sl 20] .xe,Gr 22 0] (.block 2 (.loop (some (ED false [0,1,2,4,13,3,58])) (GD [gV 23 [.sl 22,.sl 21] (.bin .lss)] (.seq (.cond (.sl 23) .skip (.exit 2)) (.seq U_ (Gw [F3 60 22 1,Gt 22 60]))))))) U2
noncomputable def U3:eE :=
 .seq (GD [Gs 17 4,Gp 18 17,F4 19 18 0 .gtr] (.cond (.sl 19) .skip (.exit 0))) (.block 1 (GD [gV 6 [.iK (.ay [] 0 .full)] (.nil 2)] QF))
noncomputable def Zt:eE :=
 .block 0 (.loop (some (ED false [0,1,2,3,75])) U3)
noncomputable def U4:eE :=
 GD [Gs 15 0,gV 16 [.iK (.func 77 [] []),.sl 15] (.call 0),⟨some 4,[.hP 16],none,some 16,.A'⟩] (GD [Gr 5 (-1)] (.seq Zt (GD [Gt 80 3,Gt 2 80] .ret)))
noncomputable def Zs:eE :=
 GD [gV 2 [.iK (.ay [] 0 .full)] (.nil 2)] (GD [gV 3 [.iK (.ay [] 0 .full)] (.nil 2)] U4)
theorem ag_:zm Go.Proofs.Tryz.prog Sg 85=some (Zs,81,[.tmp 2]):=by kernel_rfl
noncomputable def UA:eE :=
 GD [Gs 17 6,F4 18 17 0 .neq] (.cond (.sl 18) (GD [Gt 19 6,Gr 4 0,Gt 5 19] .ret) .skip)
noncomputable def UD:eE :=
 GD [Gs 33 12,F4 34 33 0 .neq] (.cond (.sl 34) (GD [Gt 35 12,Gr 4 0,Gt 5 35] .ret) .skip)
noncomputable def UE:eE :=
 .j_ true [Gs 42 7,Gs 43 7,Gp 44 43,Gs 45 7,Gp 46 45,gV 47 [.hP 42,.hP 44,.hP 46] (.A2 1 false true true),F_ 48 14 0,Gq 49 48,gV 50 [.hS 49] (.yg 1 1 [.int .i64 0] [0]),gV 51 [.hP 47,.hP 50] (.app 1 8),Gt 7 51]
noncomputable def UF:eE :=
 .block 3 (GD [gV 40 [.sl 36,.sl 38] (.pV 2),gV 41 [.hS 40] (.p2 (.str 2)),gV 14 [] (.alloc [.int .i64 0,.int .i64 0]),⟨none,[.sl 14,.hP 41],none,none,.st 2⟩] UE)
noncomputable def UG:eE :=
 GD [Gt 36 9,gV 37 [.sl 36] .xe,Gr 38 0] (.block 2 (.loop (some (ED false [1,2,4,1,12,3,13,3,34])) (GD [gV 39 [.sl 38,.sl 37] (.bin .lss)] (.seq (.cond (.sl 39) .skip (.exit 2)) (.seq UF (Gw [F3 52 38 1,Gt 38 52]))))))
noncomputable def UH:eE :=
 .seq (GD [gV 27 [.sl 2] (.p2 (.str 2)),Gs 28 9,gV 29 [.iK (.func 18 [] []),.sl 27,.sl 28] (.call 3),Gt 26 29,GL 30 26 0,GL 31 26 1,gV 32 [.hS 26] (.ext 2),Gt 10 30,Gt 11 31,Gt 12 32] UD) UG
noncomputable def UI:eE :=
 .block 1 (GD [gV 24 [.sl 20,.sl 22] (.pV 1),Gq 25 24,Gt 9 25] UH)
noncomputable def O4:eE :=
 GD [Gt 65 7,Gp 66 65,F_ 67 2 1,Gq 68 67,Gp 69 68,F5 70 66 69 .lss,Gt 64 70] (.cond (.sl 64) (GD [Gr 4 0,Gr 5 15] .ret) .skip)
noncomputable def QA:eE :=
 .block 4 (GD [Gs 57 7,gV 58 [.iK (.func 75 [] []),.sl 57] (.call 0),gV 59 [.iK (.func 74 [] []),.hP 58] (.call 1),Gp 60 59,Gs 61 7,Gp 62 61,F5 63 60 62 .lss,Gt 56 63] (.cond (.sl 56) (GD [Gr 4 0,Gr 5 11] .ret) O4))
noncomputable def Qz:eE :=
 GD [Gt 71 1,Gp 72 71,Gt 4 72,Gr 5 0] .ret
noncomputable def UB:eE :=
 .seq (GD [Gs 20 1,gV 21 [.sl 20] .xe,Gr 22 0] (.block 0 (.loop (some (ED false [1,2,4,1,12,3,50])) (GD [gV 23 [.sl 22,.sl 21] (.bin .lss)] (.seq (.cond (.sl 23) .skip (.exit 0)) (.seq UI (Gw [F3 53 22 1,Gt 22 53]))))))) (GD [⟨some 54,[.hP 7],none,some 7,.A'⟩,gV 55 [.iK (.func 73 [] []),.hP 54] (.call 1)] (.seq QA Qz))
noncomputable def UC:eE :=
 .seq (GD [gV 15 [.sl 2] (.p2 (.str 2)),gV 16 [.iK (.func 20 [] []),.sl 15] (.call 3),Gt 6 16] UA) (GD [gV 7 [.iK (.ay [] 0 .full)] (.nil 1)] UB)
noncomputable def Zn:eE :=
 GD [gV 2 [.hP 0] .box,Gr 4 0,Gr 5 0] UC
theorem ag8:zm Go.Proofs.Tryz.prog WE 25=some (Zn,73,[.tmp 4,.tmp 5]):=by kernel_rfl
end Go.Proofs.YtfakoboiahbhaaaGreat.Ab


namespace Go.Proofs.YtfakoboiahbhaaaGreat.Ab
open Go
set_option maxRecDepth 20000
set_option maxHeartbeats 4000000
theorem Zu (z:I):∀ n:Nat,e5 n [z]=List.replicate n z
 | 0=>rfl
 | n+1=>by simp [e5,Zu z n,List.replicate_succ]
theorem Zz {H:List au} {id:Nat} (l r:List Int) (h:H[id]?=some (.cells ((l++r).map hY))):rowOf H (.ref id 0 l.length none 1)=some (l.map hY):=by
 simp only [rowOf,h,tc,tS,tj,sA,Nat.le_add_right,if_true,tb];rw [ti,vC (by simp),uD];rfl
theorem Sx (lo id off len:Nat) (H:List au) (l:List I) (bG:lo≤id) (ah:H[id]?=some (.cells l)) (h:off+len≤l.length) :
  k1 Go.Proofs.Tryz.prog lo #[38] H [.ref id off len none 1]=some (.tuple [],H.set id (.cells (l.take off++List.replicate len (hY 0)++l.drop (off+len)))):=by
 have e1:((#[38]:Array TypeId)[0]?).bind Go.Proofs.Tryz.prog.underlying=some (.slice 3):=by kernel_rfl
 have cm:bU Go.Proofs.Tryz.prog 3=some 1:=by kernel_rfl
 have dJ:zeroCells Go.Proofs.Tryz.prog 3=some [.int .i64 0]:=by kernel_rfl
 have oQ:setCells off (e5 len [I.int .i64 0]) l=l.take off++List.replicate len (hY 0)++l.drop (off+len):=by
  apply List.ext_getElem?;intro j;rw [oe _ _ _ _ (by rw [iv];simp;omega),iv,Zu];simp only [tx,tS];by_cases aw:j<off
  ·rw [if_neg (by omega),sD,sR (by simp;omega),List.getElem?_take_of_lt aw]
  ·by_cases ft:j<off+len
   ·rw [if_pos ⟨by omega,ft⟩,sR (by simp;omega),sZ (by simp;omega),vT,vT,ta,if_pos (by omega),if_pos (by omega)]
   ·rw [if_neg (by omega),sZ (by simp;omega),tq];congr 1;simp;omega
 unfold k1;simp only [e1,cm,dJ,hf,ah,sB,if_pos bG];rw [if_pos ⟨trivial,rfl,by decide⟩,if_pos (by omega),oQ];rfl
theorem W9 (A cur rest:List Int) (x:Nat) (h:A.length≤x) (al:x<cur.length):((A++cur.drop A.length++rest).map hY)[x]?=some (hY (cur.getD x 0)):=by
 rw [sN,sR (by simp;omega),sZ h,tq,show A.length+(x-A.length)=x by omega,sI al];simp [al]
theorem ZJ (cur rest A:List Int) (v:Int) (h:A.length<cur.length):((A++cur.drop A.length++rest).map hY).set A.length (hY v)=((A++[v])++cur.drop (A++[v]).length++rest).map hY:=by
 rw [sD,ti,List.set_append_right _ _ (by simp),tj,ua,tf h,List.cons_append,sy,List.set_cons_zero];simp
theorem QL {X:List au} {id:Nat} (l r:List Int) (h:X[id]?=some (.cells ((l++r).map hY))):iz X (.ref id 0 l.length none 1)=js l:=by
 simp only [iz,hO,kf,Zz l r h];rfl
theorem QK {X:List au} {Hb:FuncId} {sj cs:List I} (h:sj.map (hO X)=cs):iz X (.func Hb [] sj)=.func Hb [] cs:=by
 simp only [iz,tA];rw [←h]
theorem abf (s:List Int) (p:Int→Bool) (ai:s.length≤1000):NL s (fun x=>some (p x))=some (posOf p s 0):=by
 have:=VD (s:=s) (f:=fun x=>some (p x)) (p:=p) (fun _ _=>rfl) (by omega) qe 0 0 rfl (sK _) (rR (by omega));rw [tb] at this;rw [NL];exact this
theorem TX (p:Int→Bool):∀ (l:List Int) (i:Nat),(posOf p l i=-1∧∀ x∈l,p x=false)∨∃ k,∃ (h:k<l.length),posOf p l i=((i+k:Nat):Int)∧p l[k]=true∧∀ x∈l.take k,p x=false
 | [],i=>.inl ⟨rfl,by simp⟩
 | x::l,i=>by
   by_cases al:p x=true
   ·exact .inr ⟨0,by simp,by simp [posOf,al],al,by simp⟩
   ·rcases TX p l (i+1) with ⟨ad,af⟩ | ⟨k,h,ad,af,aG⟩
    ·exact .inl ⟨by rw [posOf,if_neg al];exact ad,fun y a2=>(sH.1 a2).elim (fun e=>by rw [e];simpa using al) (af y)⟩
    ·refine .inr ⟨k+1,by simp;omega,by rw [posOf,if_neg al,ad];omega,by simpa using af,?_⟩;intro y a2;rw [vj] at a2;rcases sH.1 a2 with rfl | a2
     ·simpa using al
     ·exact aG y a2
section
variable {id lo:Nat} {H:List au} {Hb:FuncId} {sj cs:List I} {p:Int→Bool} {cur rest:List Int}
theorem ae0 (bG:lo≤id) (aQ:∀ c:au,sj.map (iz (H.set id c))=cs) (Cq:sj.map (hO H)=cs) (KO:GN cs) (ao:cur.length≤1000) (av:∀ x,qD Hb (hY x::cs) (B (p x))) (ah:H[id]?=some (.cells ((cur++rest).map hY))) :
  Sem Go.Proofs.Tryz.prog (.fn 107) [.ref id 0 cur.length none 1,.func Hb [] sj] H lo (.ref id 0 (cur.filter fun x=>!p x).length none 1) (H.set id (.cells ((cur.filter (fun x=>!p x)++List.replicate (cur.length-(cur.filter fun x=>!p x).length) 0++rest).map hY))):=by
 have aE:=(ss.1 ah).1;have gs:∀ c:au,(H.set id c)[id]?=some c:=fun c=>by rw [sE aE]
 have same:H.set id (.cells ((cur++rest).map hY))=H:=by
  obtain ⟨ad,af⟩:=ss.1 ah;rw [←af,uX]
 refine Hj dM Yx rfl ⟨by simp,fun j ad af=>by rw [sG (by omega)]⟩ fun Q bo=>?_;unfold Uj Ul;obtain ⟨m9,Hk⟩:∃ c,O1=c:=⟨_,rfl⟩;rw [Hk];conv=>whnf
 refine ⟨_,_,call6 (bs:=js cur::[.func Hb [] cs]) ?_ ?_ (VE KO (f:=fun x=>some (p x)) (fun y r aj=>by obtain rfl:=Option.some.inj aj;exact av y) (abf cur p (by omega))) rfl,?_⟩
 ·simp only [sy,tA,QL cur rest ah,QK Cq];show [I.cu (js cur),I.cu (.func Hb [] cs)]=_;rfl
 ·simp only [sy,tA,QL cur rest ah,QK Cq,tL,ux,KO.OQ,uj];exact rO (fun _=>rfl) _ _ _
 conv=>whnf
 subst Hk;unfold O1;obtain ⟨b9,hy⟩:∃ c,OY=c:=⟨_,rfl⟩;obtain ⟨fW,GX⟩:∃ c,O0=c:=⟨_,rfl⟩;rw [hy,GX];rcases TX p cur 0 with ⟨aV,aX⟩ | ⟨i,hi,aV,aX,cB⟩
 ·rw [aV];conv=>whnf
  have e:cur.filter (fun x=>!p x)=cur:=uJ.2 fun x al=>by rw [aX x al];rfl
  rw [e,ua,wP,sU,same] at bo;exact bo _ _ _ ⟨.inr rfl,⟨rfl,fun j o aw=>.inr aw⟩,rfl⟩
 ·rw [aV,tc];conv=>whnf
  have fY:(cur.take i).filter (fun x=>!p x)=cur.take i:=uJ.2 fun x al=>by rw [cB x al];rfl
  have e1:(cur.take (i+1)).filter (fun x=>!p x)=cur.take i:=by
   rw [tH hi,uy,fY];simp [aX]
  rw [rJ i (by omega)];refine .intro (fun m T H'=>∃ j,i+1≤j∧j≤cur.length∧m=cur.length-j∧((cur.take j).filter (fun x=>!p x)).length+1≤j∧T=GI 42 [(0,.ref id 0 cur.length none 1),(1,.func Hb [] sj),(5,hY ((cur.take j).filter (fun x=>!p x)).length),(6,hY (j:Nat))]∧H'=H.set id (.cells (((cur.take j).filter (fun x=>!p x)++cur.drop ((cur.take j).filter (fun x=>!p x)).length++rest).map hY))) _ ⟨i+1,sx _,hi,rfl,?_,?_,?_⟩ ?_
  ·rw [e1,ta];omega
  ·rw [e1,ta,tK (by omega)];rfl
  ·rw [e1,ta,tK (by omega),vn];exact same.symm
  rintro m T H' ⟨j,h7,ft,rfl,hw,rfl,rfl⟩;subst hy;unfold OY Uk;obtain ⟨bn,b_⟩:∃ c,OX=c:=⟨_,rfl⟩;rw [b_];conv=>whnf
  refine H6 (fun h=>?_) (fun h=>?_)
  ·(have h8:j<cur.length:=by omega);(conv=>whnf);refine ⟨by omega,?_⟩;(conv=>whnf);refine D1 (gs _) ?_;(conv=>whnf);refine D1 (x:=hY (cur.getD j 0)) (by rw [show 0+(j:Int).toNat*1=j by simp];exact W9 _ cur rest j (by omega) h8) ?_;(conv=>whnf);subst b_;refine IK fun m3 Ke=>?_;unfold OX;obtain ⟨bc,cd⟩:∃ c,OW=c:=⟨_,rfl⟩;rw [cd];(conv=>whnf);refine ⟨_,_,call6 (bs:=hY (cur.getD j 0)::cs) ?_ ?_ (av (cur.getD j 0)) rfl,?_⟩
   ·show (_::sj.map (iz _)).map I.cu=_;rw [aQ,sy,KO.cu];rfl
   ·show (_::sj.map (iz _)).all (ct 8)=true;rw [aQ];exact p5 rfl KO.MS
   (conv=>whnf);(have SD:cur.getD j 0=cur[j]:=by simp [h8]);have cm:(cur.take (j+1)).filter (fun x=>!p x)=(cur.take j).filter (fun x=>!p x)++if (!p (cur.getD j 0))=true then [cur.getD j 0] else []:=by
    rw [tH h8,uy,SD];simp only [tr,u5]
   cases ag:p (cur.getD j 0) with
   | false =>
     rw [ag,if_pos (show (!false)=true from rfl)] at cm;(conv=>whnf);subst cd;unfold OW;(conv=>whnf);refine ⟨by omega,?_⟩;(conv=>whnf);rw [show Nat.ble lo id=true from uE bG];(conv=>whnf);refine D1 (gs _) ?_;(conv=>whnf);refine FO (by simp;omega) ?_;(conv=>whnf);refine Ke _ _ _ ?_;(conv=>whnf);refine ⟨cur.length-(j+1),by omega,j+1,by omega,by omega,rfl,by rw [cm,sA,tx];omega,?_,?_⟩
     ·rw [cm,sA,tx,←rJ j (by omega),←rJ ((cur.take j).filter (fun x=>!p x)).length (by omega)];rfl
     ·rw [td,cm,show 0+(((cur.take j).filter (fun x=>!p x)).length:Int).toNat*1=((cur.take j).filter (fun x=>!p x)).length by simp,ZJ cur rest ((cur.take j).filter (fun x=>!p x)) _ (by omega)]
   | true =>
     rw [ag,if_neg (by decide),sU] at cm;(conv=>whnf);refine Ke _ _ _ ?_;(conv=>whnf);refine ⟨cur.length-(j+1),by omega,j+1,by omega,by omega,rfl,by rw [cm];omega,?_,by rw [cm]⟩;rw [cm,←rJ j (by omega)];rfl
  ·(obtain rfl:j=cur.length:=by omega);rw [tE] at hw ⊢;(conv=>whnf);subst GX;unfold O0;obtain ⟨d',B4⟩:∃ c,OZ=c:=⟨_,rfl⟩;rw [B4];(conv=>whnf);refine ⟨rfl,⟨by omega,by omega⟩,fun _=>?_,fun h=>absurd h (by omega)⟩;(conv=>whnf);refine ⟨_,_,fun C=>(ON rfl).trans (Sx lo id _ _ _ _ bG (gs _) (by simp <;> omega)),?_⟩;(conv=>whnf);subst B4;unfold OZ;(conv=>whnf);refine ⟨rfl,⟨by omega,by omega⟩,?_⟩;(conv=>whnf);refine bo _ _ _ ⟨.inr rfl,?_,rfl⟩;rw [td];generalize cur.filter (fun x=>!p x)=A at hw bo ⊢;have e:(List.take (0+(A.length:Int).toNat*1) ((A++cur.drop A.length++rest).map hY)++List.replicate (cur.length-(A.length:Int).toNat) (hY 0)++List.drop (0+(A.length:Int).toNat*1+(cur.length-(A.length:Int).toNat)) ((A++cur.drop A.length++rest).map hY))=(A++List.replicate (cur.length-A.length) 0++rest).map hY:=by
    rw [show 0+(A.length:Int).toNat*1=A.length by simp,show (A.length:Int).toNat=A.length by simp];rw [←uI,←uT,sD A,vC rfl,show A.length+(cur.length-A.length)=cur.length by omega,←sD,wN (by simp;omega)];simp
   rw [e];exact ⟨rfl,fun j o aw=>.inr aw⟩
theorem ae3 {K8:List au} (Hx:H=K8++[.cells (cur.map hY)]) (ps:id=K8.length) (aj:rest=[]) (aS:cur.length≠0) (bG:lo≤id) (aQ:∀ c:au,sj.map (iz (H.set id c))=cs) (Cq:sj.map (hO H)=cs) (KO:GN cs) (ao:cur.length≤1000) (av:∀ x,qD Hb (hY x::cs) (B (p x))) :
  Sem Go.Proofs.Tryz.prog (.fn 107) [.ay (cur.map hY) cur.length (.uniq 1),.func Hb [] sj] K8 lo (.ref id 0 (cur.filter fun x=>!p x).length none 1) (H.set id (.cells ((cur.filter (fun x=>!p x)++List.replicate (cur.length-(cur.filter fun x=>!p x).length) 0++rest).map hY))):=by
 have ah:H[id]?=some (.cells ((cur++rest).map hY)):=by rw [Hx,ps,aj,sU];simp
 have aE:=(ss.1 ah).1;have gs:∀ c:au,(H.set id c)[id]?=some c:=fun c=>by rw [sE aE]
 have same:H.set id (.cells ((cur++rest).map hY))=H:=by
  obtain ⟨ad,af⟩:=ss.1 ah;rw [←af,uX]
 refine Hj dM Yx rfl ⟨by rw [Hx];simp,fun j ad af=>by rw [sG (by omega),Hx,sR (by omega)]⟩ fun Q bo=>?_;unfold Uj Ul;obtain ⟨m9,Hk⟩:∃ c,O1=c:=⟨_,rfl⟩;rw [Hk];conv=>whnf
 refine .inl ⟨aS,?_⟩;rw [←Hx,←ps];conv=>whnf
 refine ⟨_,_,call6 (bs:=js cur::[.func Hb [] cs]) ?_ ?_ (VE KO (f:=fun x=>some (p x)) (fun y r aj=>by obtain rfl:=Option.some.inj aj;exact av y) (abf cur p (by omega))) rfl,?_⟩
 ·simp only [sy,tA,QL cur rest ah,QK Cq];show [I.cu (js cur),I.cu (.func Hb [] cs)]=_;rfl
 ·simp only [sy,tA,QL cur rest ah,QK Cq,tL,ux,KO.OQ,uj];exact rO (fun _=>rfl) _ _ _
 conv=>whnf
 subst Hk;unfold O1;obtain ⟨b9,hy⟩:∃ c,OY=c:=⟨_,rfl⟩;obtain ⟨fW,GX⟩:∃ c,O0=c:=⟨_,rfl⟩;rw [hy,GX];rcases TX p cur 0 with ⟨aV,aX⟩ | ⟨i,hi,aV,aX,cB⟩
 ·rw [aV];conv=>whnf
  have e:cur.filter (fun x=>!p x)=cur:=uJ.2 fun x al=>by rw [aX x al];rfl
  rw [e,ua,wP,sU,same] at bo;exact bo _ _ _ ⟨.inr rfl,⟨rfl,fun j o aw=>.inr aw⟩,rfl⟩
 ·rw [aV,tc];conv=>whnf
  have fY:(cur.take i).filter (fun x=>!p x)=cur.take i:=uJ.2 fun x al=>by rw [cB x al];rfl
  have e1:(cur.take (i+1)).filter (fun x=>!p x)=cur.take i:=by
   rw [tH hi,uy,fY];simp [aX]
  rw [rJ i (by omega)];refine .intro (fun m T H'=>∃ j,i+1≤j∧j≤cur.length∧m=cur.length-j∧((cur.take j).filter (fun x=>!p x)).length+1≤j∧T=GI 42 [(0,.ref id 0 cur.length none 1),(1,.func Hb [] sj),(5,hY ((cur.take j).filter (fun x=>!p x)).length),(6,hY (j:Nat))]∧H'=H.set id (.cells (((cur.take j).filter (fun x=>!p x)++cur.drop ((cur.take j).filter (fun x=>!p x)).length++rest).map hY))) _ ⟨i+1,sx _,hi,rfl,?_,?_,?_⟩ ?_
  ·rw [e1,ta];omega
  ·rw [e1,ta,tK (by omega)];rfl
  ·rw [e1,ta,tK (by omega),vn];exact same.symm
  rintro m T H' ⟨j,h7,ft,rfl,hw,rfl,rfl⟩;subst hy;unfold OY Uk;obtain ⟨bn,b_⟩:∃ c,OX=c:=⟨_,rfl⟩;rw [b_];conv=>whnf
  refine H6 (fun h=>?_) (fun h=>?_)
  ·(have h8:j<cur.length:=by omega);(conv=>whnf);refine ⟨by omega,?_⟩;(conv=>whnf);refine D1 (gs _) ?_;(conv=>whnf);refine D1 (x:=hY (cur.getD j 0)) (by rw [show 0+(j:Int).toNat*1=j by simp];exact W9 _ cur rest j (by omega) h8) ?_;(conv=>whnf);subst b_;refine IK fun m3 Ke=>?_;unfold OX;obtain ⟨bc,cd⟩:∃ c,OW=c:=⟨_,rfl⟩;rw [cd];(conv=>whnf);refine ⟨_,_,call6 (bs:=hY (cur.getD j 0)::cs) ?_ ?_ (av (cur.getD j 0)) rfl,?_⟩
   ·show (_::sj.map (iz _)).map I.cu=_;rw [aQ,sy,KO.cu];rfl
   ·show (_::sj.map (iz _)).all (ct 8)=true;rw [aQ];exact p5 rfl KO.MS
   (conv=>whnf);(have SD:cur.getD j 0=cur[j]:=by simp [h8]);have cm:(cur.take (j+1)).filter (fun x=>!p x)=(cur.take j).filter (fun x=>!p x)++if (!p (cur.getD j 0))=true then [cur.getD j 0] else []:=by
    rw [tH h8,uy,SD];simp only [tr,u5]
   cases ag:p (cur.getD j 0) with
   | false =>
     rw [ag,if_pos (show (!false)=true from rfl)] at cm;(conv=>whnf);subst cd;unfold OW;(conv=>whnf);refine ⟨by omega,?_⟩;(conv=>whnf);rw [show Nat.ble lo id=true from uE bG];(conv=>whnf);refine D1 (gs _) ?_;(conv=>whnf);refine FO (by simp;omega) ?_;(conv=>whnf);refine Ke _ _ _ ?_;(conv=>whnf);refine ⟨cur.length-(j+1),by omega,j+1,by omega,by omega,rfl,by rw [cm,sA,tx];omega,?_,?_⟩
     ·rw [cm,sA,tx,←rJ j (by omega),←rJ ((cur.take j).filter (fun x=>!p x)).length (by omega)];rfl
     ·rw [td,cm,show 0+(((cur.take j).filter (fun x=>!p x)).length:Int).toNat*1=((cur.take j).filter (fun x=>!p x)).length by simp,ZJ cur rest ((cur.take j).filter (fun x=>!p x)) _ (by omega)]
   | true =>
     rw [ag,if_neg (by decide),sU] at cm;(conv=>whnf);refine Ke _ _ _ ?_;(conv=>whnf);refine ⟨cur.length-(j+1),by omega,j+1,by omega,by omega,rfl,by rw [cm];omega,?_,by rw [cm]⟩;rw [cm,←rJ j (by omega)];rfl
  ·(obtain rfl:j=cur.length:=by omega);rw [tE] at hw ⊢;(conv=>whnf);subst GX;unfold O0;obtain ⟨d',B4⟩:∃ c,OZ=c:=⟨_,rfl⟩;rw [B4];(conv=>whnf);refine ⟨rfl,⟨by omega,by omega⟩,fun _=>?_,fun h=>absurd h (by omega)⟩;(conv=>whnf);refine ⟨_,_,fun C=>(ON rfl).trans (Sx lo id _ _ _ _ bG (gs _) (by simp <;> omega)),?_⟩;(conv=>whnf);subst B4;unfold OZ;(conv=>whnf);refine ⟨rfl,⟨by omega,by omega⟩,?_⟩;(conv=>whnf);refine bo _ _ _ ⟨.inr rfl,?_,rfl⟩;rw [td];generalize cur.filter (fun x=>!p x)=A at hw bo ⊢;have e:(List.take (0+(A.length:Int).toNat*1) ((A++cur.drop A.length++rest).map hY)++List.replicate (cur.length-(A.length:Int).toNat) (hY 0)++List.drop (0+(A.length:Int).toNat*1+(cur.length-(A.length:Int).toNat)) ((A++cur.drop A.length++rest).map hY))=(A++List.replicate (cur.length-A.length) 0++rest).map hY:=by
    rw [show 0+(A.length:Int).toNat*1=A.length by simp,show (A.length:Int).toNat=A.length by simp];rw [←uI,←uT,sD A,vC rfl,show A.length+(cur.length-A.length)=cur.length by omega,←sD,wN (by simp;omega)];simp
   rw [e];exact ⟨rfl,fun j o aw=>.inr aw⟩
end

section
variable {id lo:Nat} {H:List au}
theorem Xl (l r:List Int) (aS:0<l.length) (ak:l.length≤1000) (ah:H[id]?=some (.cells ((l++r).map hY))) :
  Sem Go.Proofs.Tryz.prog (.fn 75) [.ref id 0 l.length none 1] H lo (.ay (l.map hY) l.length (.uniq 1)) H:=by
 refine Hj dM YE rfl ⟨sx _,fun j _ _=>rfl⟩ fun Q bo=>?_;unfold UP UQ;conv=>whnf
 refine ⟨.bool false,H,fun C=>by kernel_rfl,?_⟩;conv=>whnf
 refine D1 ah ?_;conv=>whnf
 refine ⟨by simp,?_⟩;rw [show List.map I.view (List.take (l.length*1) (List.drop 0 (List.map hY (l++r))))=l.map hY by rw [tb,tS,ti,vC (by simp),uD];rfl];conv=>whnf
 refine ⟨by simp,by omega,rfl,by omega,?_⟩;conv=>whnf
 exact bo _ _ _ ⟨.inr rfl,⟨rfl,fun j o aw=>.inr aw⟩,by rw [tc];rfl⟩
theorem ado {t:qb} (aS:0<t.2.length) (ak:t.2.length≤1000) :
  Sem Go.Proofs.Tryz.prog (.fn 77) [Hg t] H lo (.ay ((upto t.2.length).map hY) t.2.length (.uniq 1)) H:=by
 refine Hj dM YG rfl ⟨sx _,fun j _ _=>rfl⟩ fun Q bo=>?_;unfold V3 Pw;conv=>whnf
 refine .intro (fun m T H'=>∃ i:Nat,i≤t.2.length∧m=t.2.length-i∧T=GI 20 [(3,(.ay ((upto i).map hY) (upto i).length (.uniq 1))),(10,(hY (t.2.length:Int))),(11,(hY (i:Int)))]∧H'=H) _ ⟨0,by omega,rfl,rfl,rfl⟩ ?_;rintro m T H' ⟨i,hi,rfl,rfl,rfl⟩;conv=>whnf
 refine H6 (fun h=>?_) (fun h=>?_)
 ·conv=>whnf
  refine ⟨rfl,by omega,rfl,?_,?_⟩
  ·rw [se];omega
  erw [J_ hY (upto i) (i:Int)];conv=>whnf
  refine ⟨t.2.length-(i+1),by omega,i+1,by omega,rfl,?_,rfl⟩;rw [←rJ i (by omega),KZ];rfl
 ·obtain rfl:i=t.2.length:=by omega
  conv=>whnf
  exact bo _ _ _ ⟨.inr rfl,⟨rfl,fun j o aw=>.inr aw⟩,by rw [se];rfl⟩
theorem afu {P:Program} {C:b8} {o:Oper} {x:Operand} {l r:List Int} (aq:o.op=.assign x) (bG:lo≤id) (ah:H[id]?=some (.cells ((l++r).map hY))) :
  a_ P C lo o 2 [.ref id 0 l.length none 1] H=some (.ay (l.map hY) l.length .shared,H.set id .dead):=by
 unfold a_;rw [aq];show eW P lo 2 o.type x H [.ref id 0 l.length none 1]=_;unfold eW;simp only [bG,if_true,Zz l r ah,sq,lenOf,sB,g2]
end

noncomputable def Rp:eE :=
 .loop (some (ED false [1,1,2,2,6,3,10])) (GD [gV 15 [.sl 14,.sl 13] (.bin .lss)] (.seq (.cond (.sl 15) .skip (.exit 0)) (.seq (.block 1 (GD [gV 16 [.sl 12,.sl 14] (.pV 2),gV 17 [.hS 16] (.p2 (.str 2)),gV 7 [] (.alloc [.int .i64 0,.int .i64 0]),⟨none,[.sl 7,.hP 17],none,none,.st 2⟩] (GD [Gs 18 1,gV 19 [.sl 7] (.p2 (.str 2)),gV 20 [.sl 5] (.p2 (.str 2)),gV 21 [.sl 18,.sl 19,.sl 20] (.call 6)] (.cond (.sl 21) (Gw [gV 22 [.hS 7] (.p2 (.str 2)),⟨none,[.sl 5,.hP 22],none,none,.st 2⟩]) .skip)))) (Gw [F3 23 14 1,Gt 14 23]))))
noncomputable def aco:eE :=
 GD [gV 4 [] (.alloc [.int .i64 0,.int .i64 0])] (GD [Gs 8 0,gV 9 [.hS 8,.iK (.int .i64 0)] (.pV 2),gV 10 [.hS 9] (.p2 (.str 2)),gV 5 [] (.alloc [.int .i64 0,.int .i64 0]),⟨none,[.sl 5,.hP 10],none,none,.st 2⟩] (.seq (GD [Gt 11 0,gV 12 [.hP 11,.iK (.int .i64 1)] (.A2 2 true false false),gV 13 [.sl 12] .xe,Gr 14 0] (.block 0 Rp)) (GD [gV 24 [.hS 5] (.p2 (.str 2)),⟨none,[.sl 4,.hP 24],none,none,.st 2⟩] .ret)))
theorem ahi:zm Tryz.prog R7 110=some (aco,25,[.cell 4 (.str 2)]):=by kernel_rfl
def Lz (l:p') (better:((Int×Int)→(Int×Int)→Option Bool)) (qi:Int→Int→Option (Int×Int)):Nat→Int→Int→Int→Option (Int×Int)
 | 0,_,_,_=>none
 | m+1,s1,s2,dj =>
   if (decide (s1<((l.drop (1:Int).toNat).length:Int)))=true then
    qh (0≤s1∧s1<((l.drop (1:Int).toNat).length:Int)) <|
    (better (ix (l.drop (1:Int).toNat) s1) (s2,dj)).bind fun r1 =>
    if r1=true then
     Lz l better qi m (w (s1+(1:Int))) ((ix (l.drop (1:Int).toNat) s1).1) ((ix (l.drop (1:Int).toNat) s1).2)
    else
     Lz l better qi m (w (s1+(1:Int))) s2 dj
   else
    qi s2 dj
def QZ (l:p') (better:((Int×Int)→(Int×Int)→Option Bool)):Option (Int×Int) :=
 qh (0≤(0:Int)∧(0:Int)<(l.length:Int)) <|
 qh (0≤(1:Int)∧(1:Int)≤(l.length:Int)) <|
 Lz l better (fun x6 ox =>
   some (x6,ox)) qe (0:Int) ((ix l (0:Int)).1) ((ix l (0:Int)).2)
theorem alE {l:p'} {better:((Int×Int)→(Int×Int)→Option Bool)} {qi:Int→Int→Option (Int×Int)} {s1:Int} {s2:Int} {dj:Int} {Nc:FuncId} {KG:List I} (M5:GN KG) (Tt:∀ (q1:(Int×Int)) (Bk:(Int×Int)) (r:Bool),better q1 Bk=some r→qD Nc ((.agg [(hY q1.1),(hY q1.2)])::(.agg [(hY Bk.1),(hY Bk.2)])::KG) (B r)) {v:(Int×Int)} {Q:q8}   (rD:∀ (x6 ox:Int) (qu:List au) (p8:List I),qi x6 ox=some v→qO 25 [(4,(.ptr 0 0)),(5,(.ptr 1 0))] p8→Q (.exit 0) p8 (au.cells [(hY (0:Int)),(hY (0:Int))]::au.cells [(hY x6),(hY ox)]::qu)) {T:List I} (bZ:eX (ED false [1,1,2,2,6,3,10]) T=GI 25 [(1,(.func Nc [] KG)),(4,(.ptr 0 0)),(5,(.ptr 1 0)),(12,(p9 (l.drop (1:Int).toNat) .shared)),(13,(hY ((l.drop (1:Int).toNat).length:Int))),(14,(hY s1))]) (h:Lz l better qi qe s1 s2 dj=some v) :
  dG Tryz.prog R7 110 0 none Rp T [au.cells [(hY (0:Int)),(hY (0:Int))],au.cells [(hY s2),(hY dj)]] Q:=by
 unfold Rp;refine wp_loop bZ ?_;refine .intro (fun m T H=>∃ (s1 s2 dj:Int) (Wc:List au),T=GI 25 [(1,(.func Nc [] KG)),(4,(.ptr 0 0)),(5,(.ptr 1 0)),(12,(p9 (l.drop (1:Int).toNat) .shared)),(13,(hY ((l.drop (1:Int).toNat).length:Int))),(14,(hY s1))]∧H=(au.cells [(hY (0:Int)),(hY (0:Int))]::au.cells [(hY s2),(hY dj)]::Wc)∧Lz l better qi m s1 s2 dj=some v) qe ⟨s1,s2,dj,[],rfl,rfl,h⟩ ?_;clear h bZ;rintro m T H ⟨s1,s2,dj,Wc,rfl,rfl,h⟩;cases m
 ·exact q_ h
 rename_i m;rw [Lz.eq_2] at h;conv=>whnf
 refine bs h (fun qp h=>?_) fun qp h=>?_
 ·rw [qp];conv=>whnf
  refine qw h id fun qC h=>?_;rw [qY p4 2 qy (l.drop (1:Int).toNat) s1 qC];conv=>whnf
  refine D1 (x:=au.cells [(hY (0:Int)),(hY (0:Int))]) (by first | exact qz.h | rfl | (simp [su,I.settle];done)) ?_
  conv=>whnf
  rw [rE];refine D1 (x:=au.cells [(hY (ix (l.drop (1:Int).toNat) s1).1),(hY (ix (l.drop (1:Int).toNat) s1).2)]) (by first | exact qz.h | rfl | (simp [su,I.settle];done)) ?_
  conv=>whnf
  obtain ⟨r1,qH,h⟩:=qj h;refine ⟨_,_,call6 (bs:=((.agg [(hY (ix (l.drop (1:Int).toNat) s1).1),(hY (ix (l.drop (1:Int).toNat) s1).2)])::(.agg [(hY s2),(hY dj)])::KG)) (by simp only [sy,M5.iz,M5.cu];rfl) (by simp only [sy,M5.iz];exact (p5 (JD (p5 rfl (p5 rfl rfl))) (p5 (JD (p5 rfl (p5 rfl rfl))) M5.MS))) (Tt _ _ _ qH) rfl,?_⟩;conv=>whnf
  cases r1
  ·(conv=>whnf);replace h:=r0 rfl h;exact ⟨m,sv m,(w (s1+(1:Int))),s2,dj,_,rfl,rfl,h⟩
  ·(conv=>whnf);replace h:=rZ rfl h;refine D1 (x:=au.cells [(hY (ix (l.drop (1:Int).toNat) s1).1),(hY (ix (l.drop (1:Int).toNat) s1).2)]) (by first | exact qz.h | rfl | (simp [su,I.settle];done)) ?_
   (conv=>whnf);exact ⟨m,sv m,(w (s1+(1:Int))),(ix (l.drop (1:Int).toNat) s1).1,(ix (l.drop (1:Int).toNat) s1).2,_,rfl,rfl,h⟩
 ·rw [qp];conv=>whnf
  exact rD _ _ _ _ h ⟨rfl,rfl⟩
theorem alF {l:p'} {better:((Int×Int)→(Int×Int)→Option Bool)} {Nc:FuncId} {KG:List I} (M5:GN KG) (Tt:∀ (q1:(Int×Int)) (Bk:(Int×Int)) (r:Bool),better q1 Bk=some r→qD Nc ((.agg [(hY q1.1),(hY q1.2)])::(.agg [(hY Bk.1),(hY Bk.2)])::KG) (B r)) {v:(Int×Int)} (h:QZ l better=some v):qD 110 [(.ay (l.flatMap p4) l.length .shared),(.func Nc [] KG)] (.agg [(hY v.1),(hY v.2)]):=by
 refine qZ dM ahi rfl (JD (p5 rfl (p5 rfl rfl))) fun Q bo=>?_;have jG:qK [.cell 4 (.str 2)] Q (fun v=>(.agg [(hY v.1),(hY v.2)])) v:=fun T H bK=>bo _ T H bK;unfold QZ at h;unfold aco;obtain ⟨HD,qS⟩:∃ c,Rp=c:=⟨_,rfl⟩;rw [qS];conv=>whnf
 refine qw h id fun e0 h=>?_;rw [qY p4 2 qy l (0:Int) e0];conv=>whnf
 refine qw h id fun fs h=>?_;erw [QM p4 2 qy l (1:Int) fs];conv=>whnf
 subst qS;refine alE M5 Tt ?_ (by exact rfl) h;intro x6 ox qu p8 h qf;obtain ⟨qJ,rfl⟩:=qf.ex;conv=>whnf
 exact qc h jG rfl rfl

noncomputable def acm:eE :=
 GD [gV 3 [.iK (.bool false)] .i_] (GD [Gt 4 0,Gq 5 1,F5 6 4 5 .eql,Gt 3 6] .ret)
theorem ahg:zm Tryz.prog Wm 108=some (acm,7,[.tmp 3]):=by kernel_rfl
def aa_ (k c0:Int):Option Bool :=
 some (decide (k=c0))
theorem alz {k:Int} {c0:Int} {v:Bool} (h:aa_ k c0=some v):qD 108 [(hY k),(.bW [(hY c0)])] (B v):=by
 refine qZ dM ahg rfl rfl fun Q bo=>?_;have jG:qK [.tmp 3] Q (fun v=>(B v)) v:=fun T H bK=>bo _ T H bK;unfold aa_ at h;unfold acm;conv=>whnf
 exact qc h jG rfl rfl

noncomputable def acp:eE :=
 GD [gV 2 [.hP 0] .box,gV 3 [.hP 1] .box,gV 4 [.iK (.bool false)] .i_] (GD [F_ 5 2 0,Gq 6 5,F_ 7 3 0,Gq 8 7,F5 9 6 8 .lss,Gt 4 9] .ret)
theorem ahj:zm Tryz.prog Wo 111=some (acp,10,[.tmp 4]):=by kernel_rfl
def Pd (x:(Int×Int)) (y:(Int×Int)):Option Bool :=
 some (decide (x.1<y.1))
theorem alG {x:(Int×Int)} {y:(Int×Int)} {v:Bool} (h:Pd x y=some v):qD 111 [(.agg [(hY x.1),(hY x.2)]),(.agg [(hY y.1),(hY y.2)])] (B v):=by
 refine qZ dM ahj rfl rfl fun Q bo=>?_;have jG:qK [.tmp 4] Q (fun v=>(B v)) v:=fun T H bK=>bo _ T H bK;unfold Pd at h;unfold acp;conv=>whnf
 exact qc h jG rfl rfl

noncomputable def acq:eE :=
 GD [gV 3 [.iK (.bool false)] .i_] (GD [Gt 4 0,F_ 5 1 0,Gq 6 5,F5 7 4 6 .eql,Gt 3 7] .ret)
theorem ahk:zm Tryz.prog Wp 112=some (acq,8,[.tmp 3]):=by kernel_rfl
def abe (k:Int) (c0:(Int×Int)):Option Bool :=
 some (decide (k=c0.1))
theorem alH {k:Int} {c0:(Int×Int)} {v:Bool} (h:abe k c0=some v):qD 112 [(hY k),(.bW [(hY c0.1),(hY c0.2)])] (B v):=by
 refine qZ dM ahk rfl rfl fun Q bo=>?_;have jG:qK [.tmp 3] Q (fun v=>(B v)) v:=fun T H bK=>bo _ T H bK;unfold abe at h;unfold acq;conv=>whnf
 exact qc h jG rfl rfl

theorem Qt (t:qb):ct 8 (Hg t)=true:=by
 show (([hY t.1,.ay (t.2.flatMap p4) t.2.length .shared]:List I).all (ct 7))=true;exact p5 rfl (p5 (q7 (fun _=>(p5 rfl (p5 rfl rfl))) _ _ _) rfl)
section
variable {t:qb} {S:List Int} {H:List au} {bi k:Nat} {at_ i:Int} {can out:Row} {QW akU akV:I} {K:cE→List I→List au→Prop}
theorem aio (p7:qM t) (cp:rL t S) (aN:S.Nodup) (hi:i∈S) (ao:can.length≤1000) (ag:H[bi]?=some (.cells [hY i]))
 (fJ:∀ (Y:List au),K .normal (GI 81 [(0,Hg t),(3,.ay (out.flatMap p4) out.length (.uniq 2)),(4,.ref 0 0 S.length none 1),(5,hY at_),(6,.ay ((can++IA t S at_ i).flatMap p4) (can++IA t S at_ i).length (.uniq 2)),(8,.ptr bi 0),(9,.ay ((GU S i).map hY) (GU S i).length .shared),(20,.ref 0 0 S.length none 1),(21,hY S.length),(22,hY (k:Int)),(30,hY 2),(31,B false)]) (H++Y)) :
  dG Tryz.prog Sg 85 0 none QG (GI 81 [(0,Hg t),(3,.ay (out.flatMap p4) out.length (.uniq 2)),(4,.ref 0 0 S.length none 1),(5,hY at_),(6,.ay (can.flatMap p4) can.length (.uniq 2)),(8,.ptr bi 0),(9,.ay ((GU S i).map hY) (GU S i).length .shared),(20,.ref 0 0 S.length none 1),(21,hY S.length),(22,hY (k:Int)),(23,QW),(26,akU),(29,akV)]) H K:=by
 have g6:=cp i hi;unfold QG;obtain ⟨d',B4⟩:∃ c,U8=c:=⟨_,rfl⟩;rw [B4];conv=>whnf
 refine .intro (fun m T H'=>∃ (e:Nat) (Y:List au),e≤2∧m=2-e∧T=GI 81 [(0,Hg t),(3,.ay (out.flatMap p4) out.length (.uniq 2)),(4,.ref 0 0 S.length none 1),(5,hY at_),(6,.ay ((can++([(i,0),(i,1)].take e).filter (G8 t S at_)).flatMap p4) (can++([(i,0),(i,1)].take e).filter (G8 t S at_)).length (.uniq 2)),(8,.ptr bi 0),(9,.ay ((GU S i).map hY) (GU S i).length .shared),(20,.ref 0 0 S.length none 1),(21,hY S.length),(22,hY (k:Int)),(30,hY (e:Int))]∧H'=H++Y) 2 ⟨0,[],by omega,rfl,?_,by simp⟩ ?_
 ·rw [tu,u5,sU];rfl
 rintro m T H' ⟨e,Y,he,rfl,rfl,rfl⟩;conv=>whnf
 refine H6 (fun h=>?_) (fun h=>?_)
 ·subst B4;unfold U8;obtain ⟨b9,hy⟩:∃ c,U7=c:=⟨_,rfl⟩;rw [hy];conv=>whnf
  subst hy;unfold U7;obtain ⟨bu,eb⟩:∃ c,U6=c:=⟨_,rfl⟩;rw [eb];conv=>whnf
  refine D1 (q2 ag) ?_;conv=>whnf
  refine D1 (x:=au.cells [(hY (0:Int)),(hY (0:Int))]) (by first | exact qz.h | rfl | (simp [su,I.settle];done)) ?_
  conv=>whnf
  rw [rE];subst eb;unfold U6;obtain ⟨bn,b_⟩:∃ c,U5=c:=⟨_,rfl⟩;rw [b_];conv=>whnf
  refine D1 (x:=au.cells [hY i,hY (e:Int)]) (by first | exact qz.h | rfl | (simp [su,I.settle];done)) ?_
  conv=>whnf
  refine ⟨p5 (Qt t) (p5 rfl rfl),_,Kw (J0 (p:=(i,(e:Int))) g6),?_⟩;conv=>whnf
  subst b_;unfold U5;obtain ⟨bc,cd⟩:∃ c,QE=c:=⟨_,rfl⟩;rw [cd];conv=>whnf
  have Hp:Mg t (GU S i) (fin t (i,(e:Int)))=some (Lg t (GU S i) (fin t (i,(e:Int)))):=(SS p7 (NJ cp i) (Pb aN i) _).1;have Dd:∀ q:Bool,G8 t S at_ (i,(e:Int))=q→([(i,0),(i,1)].take (e+1)).filter (G8 t S at_)=([(i,0),(i,1)].take e).filter (G8 t S at_)++if q=true then [(i,(e:Int))] else []:=fun q a5=>by
   subst a5;rcases (show e=0∨e=1 by omega) with rfl | rfl
   ·simp [tr]
   ·simp only [vj,tu,tr,u5];split <;> simp
  have TE:G8 t S at_ (i,(e:Int))=true→_:=fun a5=>Dd true a5;have ga:G8 t S at_ (i,(e:Int))=false→([(i,0),(i,1)].take (e+1)).filter (G8 t S at_)=([(i,0),(i,1)].take e).filter (G8 t S at_):=fun a5=>by
   have:=Dd false a5;rw [if_neg (by decide),sU] at this;exact this
  rw [if_pos rfl] at TE;have cF:(can++([(i,0),(i,1)].take e).filter (G8 t S at_)).length≤1002:=by
   have ad:=tO (G8 t S at_) ([(i,0),(i,1)].take e);rw [ta] at ad;simp only [sA,sP,List.length_nil] at ad ⊢;omega
  rcases Ja (decide (at_<0)) with e0 | e0
  ·rw [e0];(conv=>whnf);refine ⟨p5 (Qt t) (p5 (rO (fun _=>rfl) _ _ _) (p5 rfl rfl)),_,abb Hp,?_⟩;(conv=>whnf);rcases Ja (Lg t (GU S i) (fin t (i,(e:Int)))) with fs | fs
   ·rw [fs];(have a5:G8 t S at_ (i,(e:Int))=true:=by unfold G8;rw [e0,fs];rfl);(conv=>whnf);subst cd;unfold QE;(conv=>whnf);refine D1 (x:=au.cells [hY i,hY (e:Int)]) (by first | exact qz.h | rfl | (simp [su,I.settle];done)) ?_
    (conv=>whnf);refine ⟨rfl,by omega,rfl,by omega,?_⟩;erw [rI p4 _ (i,(e:Int))];(conv=>whnf);exact ⟨2-(e+1),by omega,e+1,Y++[au.cells [hY i,hY (e:Int)]],by omega,rfl,by rw [TE a5,←sD,←rJ e (by omega)] <;> rfl,by rw [sD] <;> rfl⟩
   ·rw [fs];(have a5:G8 t S at_ (i,(e:Int))=false:=by unfold G8;rw [e0,fs];rfl);(conv=>whnf);exact ⟨2-(e+1),by omega,e+1,Y++[au.cells [hY i,hY (e:Int)]],by omega,rfl,by rw [ga a5,←rJ e (by omega)] <;> rfl,by rw [sD] <;> rfl⟩
  ·rw [e0];(conv=>whnf);rcases Ja (decide (qP t (i,(e:Int))=at_)) with qp | qp
   ·rw [qp];(conv=>whnf);refine ⟨p5 (Qt t) (p5 (rO (fun _=>rfl) _ _ _) (p5 rfl rfl)),_,abb Hp,?_⟩;(conv=>whnf);rcases Ja (Lg t (GU S i) (fin t (i,(e:Int)))) with fs | fs
    ·rw [fs];(have a5:G8 t S at_ (i,(e:Int))=true:=by unfold G8;rw [e0,fs,qp];rfl);(conv=>whnf);subst cd;unfold QE;(conv=>whnf);refine D1 (x:=au.cells [hY i,hY (e:Int)]) (by first | exact qz.h | rfl | (simp [su,I.settle];done)) ?_
     (conv=>whnf);refine ⟨rfl,by omega,rfl,by omega,?_⟩;erw [rI p4 _ (i,(e:Int))];(conv=>whnf);exact ⟨2-(e+1),by omega,e+1,Y++[au.cells [hY i,hY (e:Int)]],by omega,rfl,by rw [TE a5,←sD,←rJ e (by omega)] <;> rfl,by rw [sD] <;> rfl⟩
    ·rw [fs];(have a5:G8 t S at_ (i,(e:Int))=false:=by unfold G8;rw [e0,fs,qp];rfl);(conv=>whnf);exact ⟨2-(e+1),by omega,e+1,Y++[au.cells [hY i,hY (e:Int)]],by omega,rfl,by rw [ga a5,←rJ e (by omega)] <;> rfl,by rw [sD] <;> rfl⟩
   ·rw [qp];(have a5:G8 t S at_ (i,(e:Int))=false:=by unfold G8;rw [e0,qp];rfl);(conv=>whnf);exact ⟨2-(e+1),by omega,e+1,Y++[au.cells [hY i,hY (e:Int)]],by omega,rfl,by rw [ga a5,←rJ e (by omega)] <;> rfl,by rw [sD] <;> rfl⟩
 ·obtain rfl:e=2:=by omega
  conv=>whnf
  exact fJ Y
theorem ZN {G:List au} {bi:Nat} {cs:List I} (h:G[bi]?=some (.cells cs)) (aC:(cs.map I.view).map (kf G)=cs):[I.ptr bi 0].map (iz G)=[.bW cs]:=by
 simp only [sy,tA,iz,hO,h,tb];rw [aC]
theorem ZO {G:List au} {bi:Nat} {cs:List I} (h:G[bi]?=some (.cells cs)) (aC:(cs.map I.view).map (kf G)=cs):[I.ptr bi 0].map (hO G)=[.bW cs]:=by
 simp only [sy,tA,hO,h,tb];rw [aC]
theorem Xb {cs:List I} (h:cs.all (ct 6)=true):GN [.bW cs]:=⟨by
 simp only [tL,ux,uj];show cs.all (ct 6)=true
 exact h,by simp⟩
theorem aa5 (S:List Int) (i:Int):(S.filter fun x=>!decide (x=i))=GU S i:=by
 unfold GU;congr 1;funext x;simp
theorem Vh (G:List au) (a c:au):(G++[a]).set G.length c=G++[c]:=rE G a c
theorem St {b:qb} {S:List Int} {at_:Int}:∀ L:List Int,(L.flatMap (IA b S at_)).length≤2*L.length
 | []=>by simp
 | i::L=>by
   have bb:=St (b:=b) (S:=S) (at_:=at_) L;have ad:(IA b S at_ i).length≤2:=tO _ _;rw [List.flatMap_cons,sA,sP];omega
theorem aeC {b:qb} {S:List Int} {at_:Int} (ai:S.Pairwise (·<·)):(HE b S at_).Pairwise fun p q=>p.1≤q.1:=by
 unfold HE;have ad:∀ i,∀ x∈IA b S at_ i,x.1=i:=fun i x al=>by
  have:=(s_.1 al).1;simp only [sH,uc,or_false] at this;rcases this with rfl | rfl <;> rfl
 refine List.pairwise_flatMap.2 ⟨fun i _=>?_,ai.imp fun jI x al y a2=>?_⟩
 ·exact List.Pairwise.sublist List.filter_sublist (by simp)
 ·rw [ad _ x al,ad _ y a2];omega
theorem Xa {l:Row} (ak:l.length≤1000) {p:Int×Int}:∀ (m i:Nat) (z:Int),z=i→i≤(l.drop 1).length→(l.drop 1).length-i<m→(∀ q∈l.drop 1,p.1≤q.1)→Lz l Pd (fun x6 ox=>some (x6,ox)) m z p.1 p.2=some p
 | 0,_,_,_,_,h,_=>absurd h (by omega)
 | m+1,i,_,rfl,hi,hm,a5=>by
   rw [Lz,show (1:Int).toNat=1 from rfl];by_cases h:(i:Int)<((l.drop 1).length:Int)
   ·(have q':i<(l.drop 1).length:=by omega);have hle:=a5 _ (sL q');(have Gf:(l.drop 1).length≤1000:=by simp;omega);rw [if_pos (decide_eq_true h),qx ⟨by omega,h⟩,rm q',Pd,sq,if_neg (by simp;simpa using hle),r4 i (by omega)];exact Xa ak m (i+1) _ rfl (by omega) (by omega) a5
   ·rw [if_neg (by simpa using h)]
theorem aes {b:qb} {S:List Int} {at_:Int} (ai:S.Pairwise (·<·)) {p:Int×Int} {r:Row} (h:HE b S at_=p::r) (ak:(p::r).length≤1000):QZ (HE b S at_) Pd=some p:=by
 have aj:=aeC (b:=b) (at_:=at_) ai;rw [h] at aj ⊢;have jO:0<(p::r).length:=by simp
 have a5:∀ q∈(p::r).drop 1,p.1≤q.1:=(tD.1 aj).1;rw [QZ,qx ⟨by omega,by omega⟩,qx ⟨by omega,by omega⟩];have Co:((p::r).drop 1).length≤(p::r).length:=by simp
 exact Xa ak qe 0 0 rfl (by omega) (rR (by omega)) a5
theorem aim (p7:qM t) (cp:rL t S) (ai:S.Pairwise (·<·)) (aS:S≠[]) {Z:List Int} (ah:H[0]?=some (.cells ((S++Z).map hY))) (aq:out.length≤1000)
 (Hc:∀ (a9:List I) (G:List au),HE t S at_=[]→(j9 G a9 [.tmp 2]).map hk=some (.ay (out.flatMap p4) out.length (.uniq 2))→K .ret a9 G)
 (Ke:∀ (p:Int×Int) (r:Row) (R4:List Int) (RX:List au) (aaA aaB aaC QW aaD aaF aaG aaH aaI:I),HE t S at_=p::r→RX[0]?=some (.cells ((GU S p.1++R4).map hY))→K .normal (GI 81 [(0,Hg t),(3,.ay ((out++[p]).flatMap p4) (out++[p]).length (.uniq 2)),(4,.ref 0 0 (GU S p.1).length none 1),(5,hY (fin t p)),(20,aaA),(21,aaB),(22,aaC),(23,QW),(63,aaF),(65,aaD),(75,aaG),(76,aaH),(78,aaI)]) RX) :
  dG Tryz.prog Sg 85 0 none QF (GI 81 [(0,Hg t),(3,.ay (out.flatMap p4) out.length (.uniq 2)),(4,.ref 0 0 S.length none 1),(5,hY at_),(6,.ay [] 0 (.uniq 2))]) H K:=by
 have aN:S.Nodup:=ai.imp fun h e=>by omega
 have PW:S.length≤10:=sW (KS aN cp) p7.len;unfold QF;obtain ⟨ane,XO⟩:∃ c,U2=c:=⟨_,rfl⟩;obtain ⟨m_,G0⟩:∃ c,U_=c:=⟨_,rfl⟩;rw [XO,G0];conv=>whnf
 refine .intro (fun m T H'=>∃ (k:Nat) (Y:List au),k≤S.length∧m=S.length-k∧T=GI 81 [(0,Hg t),(3,.ay (out.flatMap p4) out.length (.uniq 2)),(4,.ref 0 0 S.length none 1),(5,hY at_),(6,.ay (((S.take k).flatMap (IA t S at_)).flatMap p4) ((S.take k).flatMap (IA t S at_)).length (.uniq 2)),(20,.ref 0 0 S.length none 1),(21,hY S.length),(22,hY (k:Int))]∧H'=H++Y) _ ⟨0,[],by omega,rfl,rfl,by simp⟩ ?_;rintro m T H' ⟨k,Y,av,rfl,rfl,rfl⟩;conv=>whnf
 refine H6 (fun h=>?_) (fun h=>?_)
 ·have IF:k<S.length:=by omega
  subst G0;unfold U_;obtain ⟨m9,Hk⟩:∃ c,U9=c:=⟨_,rfl⟩;rw [Hk];conv=>whnf
  refine ⟨by omega,?_⟩;conv=>whnf
  refine D1 (q2 ah) ?_;conv=>whnf
  refine D1 (x:=hY S[k]) (by rw [show 0+(k:Int).toNat*1=k by simp,ti,sR (by simpa using IF),sN,sI IF];rfl) ?_;conv=>whnf
  refine D1 (x:=au.cells [(hY (0:Int))]) (by first | exact qz.h | rfl | (simp [su,I.settle];done)) ?_
  conv=>whnf
  rw [rE];subst Hk;unfold U9;obtain ⟨fW,GX⟩:∃ c,QG=c:=⟨_,rfl⟩;rw [GX];conv=>whnf
  refine ⟨_,_,MW (rO (fun _=>rfl) _ _ _) (Xl S Z (by omega) (by omega) (q2 (q2 ah))),?_⟩;conv=>whnf
  obtain ⟨bi,M4⟩:∃ bi,bi=(H++Y).length:=⟨_,rfl⟩;obtain ⟨G,Hx⟩:∃ G,G=H++Y++[au.cells [I.int .i64 S[k]]]:=⟨_,rfl⟩;have M3:G[bi]?=some (.cells [hY S[k]]):=by rw [Hx,M4];simp
  rw [←Hx,←M4];have aQ:∀ c:au,[I.ptr bi 0].map (iz ((G++[au.cells (S.map hY)]).set G.length c))=[.bW [hY S[k]]]:=fun c=>by
   rw [Vh];exact ZN (q2 M3) rfl
  have Cq:[I.ptr bi 0].map (hO (G++[au.cells (S.map hY)]))=[.bW [hY S[k]]]:=ZO (q2 M3) rfl;refine ⟨_,_,Hv (ae3 (id:=G.length) (rest:=[]) (cur:=S) (p:=fun x=>decide (x=S[k])) rfl rfl rfl (by omega) (sK _) aQ Cq (Xb rfl) (by omega) fun x=>alz rfl),?_⟩;rw [Vh,aa5];conv=>whnf
  refine ⟨_,_,fun C=>afu (l:=GU S S[k]) (r:=List.replicate (S.length-(GU S S[k]).length) 0++[]) (id:=G.length) (H:=G++[au.cells ((GU S S[k]++List.replicate (S.length-(GU S S[k]).length) 0++[]).map hY)]) rfl (sK _) (by simp),?_⟩;rw [Vh];conv=>whnf
  subst GX;refine aio (k:=k) (can:=(S.take k).flatMap (IA t S at_)) (out:=out) (at_:=at_) p7 cp aN (sL IF) ?_ (q2 M3) fun rK=>?_
  ·have:=St (b:=t) (S:=S) (at_:=at_) (S.take k);rw [ta] at this;omega
  conv=>whnf
  have af2:(S.take (k+1)).flatMap (IA t S at_)=(S.take k).flatMap (IA t S at_)++IA t S at_ S[k]:=by
   rw [tH IF,List.flatMap_append];simp
  refine ⟨S.length-(k+1),by omega,k+1,Y++[au.cells [I.int .i64 S[k]]]++[au.dead]++rK,by omega,rfl,by rw [af2,←rJ k (by omega)] <;> rfl,by rw [Hx];simp only [sD]⟩
 ·obtain rfl:k=S.length:=by omega
  conv=>whnf
  rw [tE,show S.flatMap (IA t S at_)=HE t S at_ from rfl];subst XO;unfold U2;obtain ⟨aeu,On⟩:∃ c,U1=c:=⟨_,rfl⟩;rw [On];conv=>whnf
  rcases Ja (decide (((HE t S at_).length:Int)=0)) with e0 | e0
  ·rw [e0];(conv=>whnf);exact Hc _ _ (tt.1 (by have:=of_decide_eq_true e0;omega)) rfl
  ·rw [e0];(conv=>whnf);have e0:=of_decide_eq_false e0;obtain ⟨p,r,L5⟩:∃ p r,HE t S at_=p::r:=by
    cases e:HE t S at_ with
    | nil=>rw [e] at e0;exact absurd rfl e0
    | cons p r=>exact ⟨p,r,rfl⟩
   have aC:=Qf.1 (show p∈HE t S at_ by rw [L5];simp);have P8:=cp p.1 aC.1;subst On;unfold U1;obtain ⟨Xd,Le⟩:∃ c,U0=c:=⟨_,rfl⟩;rw [Le];(conv=>whnf);refine ⟨p5 (q7 (fun _=>(p5 rfl (p5 rfl rfl))) _ _ _) (p5 rfl rfl),_,alF GN.nil (fun q1 Bk r h=>alG h) (aes ai L5 (by have:=St (b:=t) (S:=S) (at_:=at_) S;rw [show S.flatMap (IA t S at_)=HE t S at_ from rfl,L5] at this;omega)),?_⟩;(conv=>whnf);refine D1 (x:=au.cells [(hY (0:Int)),(hY (0:Int))]) (by first | exact qz.h | rfl | (simp [su,I.settle];done)) ?_
   (conv=>whnf);rw [rE];subst Le;unfold U0;obtain ⟨Xc,KI⟩:∃ c,UZ=c:=⟨_,rfl⟩;rw [KI];(conv=>whnf);refine D1 (x:=au.cells [hY p.1,hY p.2]) (by first | exact qz.h | rfl | (simp [su,I.settle];done)) ?_
   (conv=>whnf);refine ⟨rfl,by omega,rfl,by omega,?_⟩;erw [rI p4 _ p];(conv=>whnf);subst KI;unfold UZ;obtain ⟨BL,Jy⟩:∃ c,U'=c:=⟨_,rfl⟩;rw [Jy];(conv=>whnf);have fI:0<H.length:=(ss.1 ah).1;obtain ⟨bi,M4⟩:∃ bi,bi=(H++Y).length:=⟨_,rfl⟩;(have af1:bi≠0:=by rw [M4,sA];omega);obtain ⟨G,Hx⟩:∃ G,G=H++Y++[au.cells [(hY p.1).g0.settle,(hY p.2).g0.settle]]:=⟨_,rfl⟩;(have M3:G[bi]?=some (.cells [hY p.1,hY p.2]):=by rw [Hx,M4];simp;exact ⟨rfl,rfl⟩);(have KJ:G[0]?=some (.cells ((S++Z).map hY)):=by rw [Hx];exact q2 (q2 ah));(have X0:∀ c:au,(G.set 0 c)[bi]?=some (.cells [hY p.1,hY p.2]):=fun c=>by rw [sG (Ne.symm af1)];exact M3);rw [←Hx,←M4];have aQ:∀ c:au,[I.ptr bi 0].map (iz (G.set 0 c))=[.bW [hY p.1,hY p.2]]:=fun c=>ZN (X0 c) rfl;have Cq:[I.ptr bi 0].map (hO G)=[.bW [hY p.1,hY p.2]]:=ZO M3 rfl;refine ⟨_,_,Hv (ae0 (id:=0) (cur:=S) (rest:=Z) (p:=fun x=>decide (x=p.1)) (sK _) aQ Cq (Xb rfl) (by omega) (fun x=>alH (c0:=p) rfl) KJ),?_⟩;rw [aa5];(conv=>whnf);subst Jy;unfold U';(conv=>whnf);refine D1 (X0 _) ?_;(conv=>whnf);refine ⟨p5 (Qt t) (p5 rfl rfl),_,Kw (J0 (p:=p) P8),?_⟩;(conv=>whnf);exact Ke p r (List.replicate (S.length-(GU S p.1).length) 0++Z) _ _ _ _ _ _ _ _ _ _ L5 (by rw [←sD];exact sE (ss.1 KJ).1)
def Re (t:qb):Option Row:=if ri t=0∧0<t.2.length then some (He t) else none
theorem amR {v:Row} (h:Re t=some v):qD 85 [Hg t] (.ay (v.flatMap p4) v.length .shared):=by
 unfold Re at h;split at h
 ·rename_i ao;obtain rfl:=Option.some.inj h;have p7:=Hi.1 ao.1;have dD:=p7.len;clear h;refine qZ dM ag_ rfl (q7 (fun _=>(p5 rfl (p5 rfl rfl))) _ _ _) fun Q bo=>?_;have jG:∀ T H,IP [.tmp 2] (.ay ((He t).flatMap p4) (He t).length .shared) .ret T H→Q .ret T H:=fun T H bK=>bo _ T H bK;unfold Zs;obtain ⟨anh,XR⟩:∃ c,U4=c:=⟨_,rfl⟩;rw [XR];conv=>whnf
  subst XR;unfold U4 Zt;obtain ⟨ang,XQ⟩:∃ c,U3=c:=⟨_,rfl⟩;rw [XQ];conv=>whnf
  refine ⟨_,_,MW (rO (fun _=>rfl) _ _ _) (ado ao.2 (by omega)),?_⟩;conv=>whnf
  refine .inl ⟨by omega,?_⟩;conv=>whnf
  refine .intro (fun m T H'=>∃ (S Z:List Int) (out:Row) (at_:Int),S.length<m∧Ls t m S out at_=He t∧rL t S∧S.Pairwise (·<·)∧out.length+S.length≤10∧T=GI 81 [(0,Hg t),(3,.ay (out.flatMap p4) out.length (.uniq 2)),(4,.ref 0 0 S.length none 1),(5,hY at_)]∧H'[0]?=some (.cells ((S++Z).map hY))) (t.2.length+1) ⟨upto t.2.length,[],[],-1,by rw [se];omega,rfl,I7,aaK _,by rw [se];simpa using dD,by rw [se] <;> rfl,by rw [sU];rfl⟩ ?_;rintro m T H' ⟨S,Z,out,at_,hm,ae,cp,ai,aq,rfl,ah⟩;obtain ⟨m,rfl⟩:∃ hb,m=hb+1:=⟨m-1,by omega⟩;subst XQ;unfold U3;obtain ⟨anf,XP⟩:∃ c,QF=c:=⟨_,rfl⟩;rw [XP];conv=>whnf
  rcases Ja (decide ((0:Int)<(S.length:Int))) with e0 | e0
  ·rw [e0];(conv=>whnf);subst XP;(have aS:S≠[]:=fun e=>by rw [e] at e0;simp at e0);refine aim (at_:=at_) (out:=out) p7 cp ai aS ah (by omega) ?_ ?_
   ·intro a9 G ao aj;(conv=>whnf);(have bg:out=He t:=by rw [Ls,ao] at ae;exact ae);rw [bg] at aj;obtain ⟨vs,ad,af⟩:=Option.map_eq_some_iff.1 aj;exact jG _ _ ⟨.inr rfl,vs,ad,_,by rw [af];exact o0 (q7 (fun _=>(p5 rfl (p5 rfl rfl))) _ _ _),rfl⟩
   ·intro p r R4 RX aaA aaB aaC QW aaD aaF aaG aaH aaI L5 Hx;(conv=>whnf);have aC:=(Qf.1 (show p∈HE t S at_ by rw [L5];simp)).1;(have aN:S.Nodup:=ai.imp fun h e=>by omega);have aU:=(QX aN aC).length_eq;rw [sP] at aU;refine ⟨m,by omega,GU S p.1,R4,out++[p],fin t p,by omega,?_,NJ cp _,ai.filter _,by simp only [sA,tx];omega,rfl,Hx⟩;rw [Ls,L5] at ae;exact ae
  ·rw [e0];(conv=>whnf);have aS:S=[]:=tt.1 (by have:=of_decide_eq_false e0;omega);(have bg:out=He t:=by rw [Ls,aS] at ae;exact ae);rw [bg];exact jG _ _ ⟨.inr rfl,_,rfl,_,o0 (q7 (fun _=>(p5 rfl (p5 rfl rfl))) _ _ _),rfl⟩
 ·cases h
end

noncomputable def acI:eE :=
 GD [gV 1 [.hP 0] .box,gV 2 [.iK (.ay [] 0 .full)] (.nil 2),Gr 3 0] (GD [gV 7 [.sl 1] (.p2 (.str 2)),gV 8 [.iK (.func 64 [] []),.sl 7] (.call 3),Gt 6 8,GL 9 6 0,gV 10 [.hS 6] (.ext 1),Gt 4 9,Gt 5 10] (.seq (.block 0 (GD [Gs 12 5,F4 13 12 0 .neq,Gt 11 13] (.cond (.sl 11) (GD [Gt 14 5,gV 2 [.iK (.ay [] 0 .full)] (.nil 2),Gt 3 14] .ret) (GD [F_ 16 1 1,Gq 17 16,Gp 18 17,F4 19 18 0 .eql,Gt 15 19] (.cond (.sl 15) (GD [gV 2 [.iK (.ay [] 0 .full)] (.nil 2),Gr 3 5] .ret) (GD [Gs 21 4,gV 22 [.iK (.func 83 [] []),.sl 21] (.call 3),Gp 23 22,F4 24 23 1 .gtr,Gt 20 24] (.cond (.sl 20) (GD [gV 2 [.iK (.ay [] 0 .full)] (.nil 2),Gr 3 27] .ret) .skip))))))) (GD [Gt 25 4,gV 26 [.iK (.func 85 [] []),.sl 25] (.call 3),Gt 2 26,Gr 3 0] .ret)))
theorem ahB:zm Tryz.prog WJ 37=some (acI,27,[.tmp 2,.tmp 3]):=by kernel_rfl
def NR (b:qk):Option (p'×Int) :=
 (Jo b).bind fun r1 =>
 match r1 with
 | (none,aV) =>
   if (decide (aV≠(0:Int)))=true then
    some ([],aV)
   else
    if (decide ((b.2.length:Int)=(0:Int)))=true then
     some ([],(5:Int))
    else
     none
 | (some bT,aV) =>
   if (decide (aV≠(0:Int)))=true then
    some ([],aV)
   else
    if (decide ((b.2.length:Int)=(0:Int)))=true then
     some ([],(5:Int))
    else
     (Ky bT).bind fun r2 =>
     if (decide ((1:Int)<(r2.length:Int)))=true then
      some ([],(27:Int))
     else
      (Re bT).bind fun eJ =>
      some (eJ,(0:Int))
theorem abC {b:qk} {v:(p'×Int)} (h:NR b=some v):qD 37 [(.agg [(hY b.1),(.ay (b.2.flatMap p4) b.2.length .shared)])] (.tuple [(.ay (v.1.flatMap p4) v.1.length .shared),(hY v.2)]):=by
 refine qZ dM ahB rfl (IX (p5 (q7 (fun _=>(p5 rfl (p5 rfl rfl))) _ _ _) (p5 rfl rfl))) fun Q bo=>?_;have jG:qK [.tmp 2,.tmp 3] Q (fun v=>(.tuple [(p9 v.1 .shared),(hY v.2)])) v:=fun T H bK=>bo _ T H bK;unfold NR at h;unfold acI;conv=>whnf
 obtain ⟨r1,e0,h⟩:=qj h;rcases r1 with ⟨_ | bT,aV⟩
 ·refine ⟨qt.pl,_,JG e0,?_⟩;conv=>whnf
  refine bs h (fun fs h=>?_) fun fs h=>?_
  ·rw [fs];(conv=>whnf);exact qc h jG rfl rfl
  ·rw [fs];(conv=>whnf);refine bs h (fun qp h=>?_) fun qp h=>?_
   ·rw [qp];(conv=>whnf);exact qc h jG rfl rfl
   ·rw [qp];(conv=>whnf);exact q_ h
 ·refine ⟨qt.pl,_,JG e0,?_⟩;conv=>whnf
  refine bs h (fun qC h=>?_) fun qC h=>?_
  ·rw [qC];(conv=>whnf);exact qc h jG rfl rfl
  ·rw [qC];(conv=>whnf);refine bs h (fun qH h=>?_) fun qH h=>?_
   ·rw [qH];(conv=>whnf);exact qc h jG rfl rfl
   ·rw [qH];(conv=>whnf);obtain ⟨r2,qW,h⟩:=qj h;refine ⟨qt.pl,_,VV qW,?_⟩;(conv=>whnf);refine bs h (fun qU h=>?_) fun qU h=>?_
    ·rw [qU];(conv=>whnf);exact qc h jG rfl rfl
    ·rw [qU];(conv=>whnf);obtain ⟨eJ,qX,h⟩:=qj h;refine ⟨qt.pl,_,amR qX,?_⟩;(conv=>whnf);exact qc h jG rfl rfl

noncomputable def acK:eE :=
 GD [gV 1 [.hP 0] .box,gV 2 [.iK (.ay [] 0 .full)] (.nil 2),Gr 3 0] (GD [gV 7 [.sl 1] (.p2 (.str 2)),gV 8 [.iK (.func 37 [] []),.sl 7] (.call 3),Gt 6 8,GL 9 6 0,gV 10 [.hS 6] (.ext 1),Gt 4 9,Gt 5 10] (.seq (GD [Gs 11 5,F4 12 11 0 .neq] (.cond (.sl 12) (GD [Gt 13 5,gV 2 [.iK (.ay [] 0 .full)] (.nil 2),Gt 3 13] .ret) .skip)) (.seq (GD [gV 14 [.hS 1] (.p2 (.str 2)),Gs 15 4,gV 16 [.iK (.func 22 [] []),.sl 14,.sl 15] (.call 3),F4 17 16 0 .neq] (.cond (.sl 17) (GD [gV 2 [.iK (.ay [] 0 .full)] (.nil 2),Gr 3 27] .ret) .skip)) (GD [Gt 18 4,Gt 2 18,Gr 3 0] .ret))))
theorem ahD:zm Tryz.prog WL 42=some (acK,19,[.tmp 2,.tmp 3]):=by kernel_rfl
def Po (b:qk):Option (p'×Int) :=
 (NR b).bind fun r1 =>
 if (decide (r1.2≠(0:Int)))=true then
  some ([],r1.2)
 else
  (Ms b r1.1).bind fun r2 =>
  if (decide (r2≠(0:Int)))=true then
   some ([],(27:Int))
  else
   some (r1.1,(0:Int))
theorem ama {b:qk} {v:(p'×Int)} (h:Po b=some v):qD 42 [(.agg [(hY b.1),(.ay (b.2.flatMap p4) b.2.length .shared)])] (.tuple [(.ay (v.1.flatMap p4) v.1.length .shared),(hY v.2)]):=by
 refine qZ dM ahD rfl (IX (p5 (q7 (fun _=>(p5 rfl (p5 rfl rfl))) _ _ _) (p5 rfl rfl))) fun Q bo=>?_;have jG:qK [.tmp 2,.tmp 3] Q (fun v=>(.tuple [(p9 v.1 .shared),(hY v.2)])) v:=fun T H bK=>bo _ T H bK;unfold Po at h;unfold acK;conv=>whnf
 obtain ⟨r1,e0,h⟩:=qj h;refine ⟨qt.pl,_,abC e0,?_⟩;conv=>whnf
 refine bs h (fun fs h=>?_) fun fs h=>?_
 ·rw [fs];conv=>whnf
  exact qc h jG rfl rfl
 ·rw [fs];conv=>whnf
  obtain ⟨r2,qp,h⟩:=qj h;refine ⟨qt.pl,_,abt qp,?_⟩;conv=>whnf
  refine bs h (fun qC h=>?_) fun qC h=>?_
  ·rw [qC];(conv=>whnf);exact qc h jG rfl rfl
  ·rw [qC];(conv=>whnf);exact qc h jG rfl rfl

end Go.Proofs.YtfakoboiahbhaaaGreat.Ab


namespace Go.Proofs.YtfakoboiahbhaaaGreat.Ab
open Go
set_option maxRecDepth 20000
set_option maxHeartbeats 4000000

end Go.Proofs.YtfakoboiahbhaaaGreat.Ab


namespace Go.Proofs.YtfakoboiahbhaaaGreat.Ab
open Go
set_option maxRecDepth 20000
set_option maxHeartbeats 4000000
noncomputable def acJ:eE :=
 GD [gV 1 [.hP 0] .box,gV 2 [.iK (.ay [] 0 .full)] (.nil 1),Gr 3 0] (GD [gV 7 [.hS 1] (.p2 (.str 2)),gV 8 [.iK (.func 64 [] []),.sl 7] (.call 3),Gt 6 8,GL 9 6 0,gV 10 [.hS 6] (.ext 1),Gt 4 9,Gt 5 10] (.seq (GD [Gs 11 5,F4 12 11 0 .neq] (.cond (.sl 12) (GD [Gt 13 5,gV 2 [.iK (.ay [] 0 .full)] (.nil 1),Gt 3 13] .ret) .skip)) (GD [Gt 14 4,gV 15 [.iK (.func 83 [] []),.sl 14] (.call 3),Gt 2 15,Gr 3 0] .ret)))
theorem ahC:zm Tryz.prog WK 41=some (acJ,16,[.tmp 2,.tmp 3]):=by kernel_rfl
def Pn (b:qk):Option (qq×Int) :=
 (Jo b).bind fun r1 =>
 match r1 with
 | (none,aV) =>
   if (decide (aV≠(0:Int)))=true then
    some ([],aV)
   else
    none
 | (some bT,aV) =>
   if (decide (aV≠(0:Int)))=true then
    some ([],aV)
   else
    (Ky bT).bind fun r2 =>
    some (r2,(0:Int))
theorem al9 {b:qk} {v:(qq×Int)} (h:Pn b=some v):qD 41 [(.agg [(hY b.1),(.ay (b.2.flatMap p4) b.2.length .shared)])] (.tuple [(.ay (v.1.map (qv p4)) v.1.length .shared),(hY v.2)]):=by
 refine qZ dM ahC rfl (IX (p5 (rO (fun _=>(q7 (fun _=>(p5 rfl (p5 rfl rfl))) _ _ _)) _ _ _) (p5 rfl rfl))) fun Q bo=>?_;have jG:qK [.tmp 2,.tmp 3] Q (fun v=>(.tuple [(.ay (v.1.map (qv p4)) v.1.length .shared),(hY v.2)])) v:=fun T H bK=>bo _ T H bK;unfold Pn at h;unfold acJ;conv=>whnf
 obtain ⟨r1,e0,h⟩:=qj h;rcases r1 with ⟨_ | bT,aV⟩
 ·refine ⟨qt.pl,_,JG e0,?_⟩;conv=>whnf
  refine bs h (fun fs h=>?_) fun fs h=>?_
  ·rw [fs];(conv=>whnf);exact qc h jG rfl rfl
  ·rw [fs];(conv=>whnf);exact q_ h
 ·refine ⟨qt.pl,_,JG e0,?_⟩;conv=>whnf
  refine bs h (fun qp h=>?_) fun qp h=>?_
  ·rw [qp];(conv=>whnf);exact qc h jG rfl rfl
  ·rw [qp];(conv=>whnf);obtain ⟨r2,qC,h⟩:=qj h;refine ⟨qt.pl,_,VV qC,?_⟩;(conv=>whnf);exact qc h jG rfl rfl

end Go.Proofs.YtfakoboiahbhaaaGreat.Ab


namespace Go.Proofs.YtfakoboiahbhaaaGreat.Ab
open Go
section
variable {b:qb}
def Jm (b:qb):Int:=if G' b=0 then (if 0<(q6 b).length then 27 else 0) else G' b
def JU (b:qb):Row×Int:=if Jm b=0 then (He b,0) else ([],Jm b)
theorem Zx (h:Jm b=0):G' b=0∧q6 b=[]:=by
 unfold Jm at h;split at h
 ·rename_i ad;split at h
  ·omega
  ·exact ⟨ad,tt.1 (by omega)⟩
 ·rename_i ad;exact absurd h ad
theorem Mc (h:G' b=0):(He b).length=b.2.length:=by
 obtain ⟨p7,aS,ad⟩:=TR.1 h;obtain ⟨f,c,bZ⟩:=YZ p7 aS ad;have:=bZ.all.length_eq
 rwa [tj,se] at this
theorem YY (h:G' b=0):∃ f c,Iq b (upto b.2.length) f c (He b)∧He b≠[]∧rU b (He b)=(f,c,0)∧Kq b (He b)=if f=c then 0 else 27:=by
 obtain ⟨p7,aS,ad⟩:=TR.1 h;obtain ⟨f,c,bZ⟩:=YZ p7 aS ad;have bO:He b≠[]:=fun e=>by
  have:=Mc h;rw [e] at this;simp at this;omega
 have ao:=Xh p7 bO bZ.ok (bZ.all.nodup_iff.2 (IJ _)) bZ.go;refine ⟨f,c,bZ,bO,ao,?_⟩;unfold Kq;simp only [ao];rw [if_neg (by simp),if_neg (by rw [Mc h];omega)];by_cases e:f=c
 ·rw [if_neg (by simp [e]),if_pos e]
 ·rw [if_pos e,if_neg e]
theorem YX (h:G' b=0):(Kq b (He b)=0↔q6 b=[])∧(Kq b (He b)=0∨Kq b (He b)=27):=by
 obtain ⟨p7,aS,ad⟩:=TR.1 h;obtain ⟨f,c,bZ,bO,ao,aj⟩:=YY h;have Ih:=bZ.odd p7 bO;rw [aj];by_cases e:f=c
 ·rw [if_pos e];exact ⟨⟨fun _=>Ih.1 e,fun _=>rfl⟩,.inl rfl⟩
 ·rw [if_neg e];refine ⟨⟨fun h=>absurd h (by decide),fun h=>?_⟩,.inr rfl⟩;have:=(Ih.2 e).length_eq;have aY:q3 b (upto b.2.length)=[]:=h;rw [aY] at this;simp at this
theorem abB (ag:b.2.length≤1000):NR b=some (Ij b):=by
 rw [NR];unfold Ij G';by_cases h:ri b=0
 ·have p7:=Hi.1 h;obtain ⟨R,ad,af⟩:=Rd p7;rw [Pr p7,sq];dsimp only;rw [if_neg (show ¬ decide ((0:Int)≠0)=true by decide)];simp only [h,ne_eq,not_true_eq_false,if_false];by_cases aS:b.2.length=0
  ·rw [if_pos (show decide ((b.2.length:Int)=0)=true by simp [aS]),if_pos aS];rfl
  ·rw [if_neg (show ¬ decide ((b.2.length:Int)=0)=true by simp only [decide_eq_true_eq];omega),if_neg aS,ad,sq,af.len];by_cases aG:1<G9 b
   ·rw [if_pos (show decide ((1:Int)<(G9 b:Int))=true by simp only [decide_eq_true_eq];omega),if_pos aG];rfl
   ·rw [if_neg (show ¬ decide ((1:Int)<(G9 b:Int))=true by simp only [decide_eq_true_eq];omega),if_neg aG,Re,if_pos ⟨h,by omega⟩,sq];rfl
 ·rw [Pq ag h,sq];dsimp only;simp only [h,ne_eq,not_false_eq_true,if_true,decide_true]
theorem YT (h:G' b=0):Ij b=(He b,0):=by unfold Ij;rw [if_neg (by simp [h])]
theorem aik (h:G' b≠0):Ij b=([],G' b):=by unfold Ij;rw [if_pos h]
theorem al_ (ag:b.2.length≤1000):Po b=some (JU b):=by
 rw [Po,abB ag,sq];unfold JU Jm;by_cases h:G' b=0
 ·rw [YT h];dsimp only;rw [if_neg (show ¬ decide ((0:Int)≠0)=true by decide),abr b _ ag (by rw [Mc h];exact ag),sq];obtain ⟨ad,af⟩:=YX h;simp only [h,if_true];by_cases aG:q6 b=[]
  ·rw [ad.2 aG,aG];rfl
  ·have a8:0<(q6 b).length:=tT.2 aG;have bN:Kq b (He b)=27:=af.resolve_left fun e=>aG (ad.1 e);rw [bN];simp [a8]
 ·rw [aik h];dsimp only;rw [if_pos (show decide (G' b≠0)=true by simpa using h)];simp only [h,if_false]
theorem Zw:(JU b).2=Jm b:=by
 unfold JU;split
 ·rename_i h;exact h.symm
 ·rfl
def KX (b:qb):List Row:=(Ky b).getD []
theorem Nx (p7:qM b):Ky b=some (KX b)∧MR b (KX b):=by
 obtain ⟨R,ad,af⟩:=Rd p7
 have:KX b=R:=by unfold KX;rw [ad];rfl
 rw [this];exact ⟨ad,af⟩
theorem al8 (ag:b.2.length≤1000):Pn b=some (if ri b=0 then (KX b,0) else ([],ri b)):=by
 rw [Pn];by_cases h:ri b=0
 ·have p7:=Hi.1 h;rw [Pr p7,sq,if_pos h];dsimp only;rw [if_neg (show ¬ decide ((0:Int)≠0)=true by decide),(Nx p7).1,sq]
 ·rw [Pq ag h,sq,if_neg h];dsimp only;rw [if_pos (show decide (ri b≠0)=true by simpa using h)]
theorem RowsOf.each {S:List Int} {R:List Row} (h:RowsOf b S R) (aN:S.Nodup) {r:Row} (aj:r∈R):(r.map (·.1)).Nodup∧r.length≤S.length:=by
 have y4:(r.map (·.1)).Sublist ((R.flatten).map (·.1)):=by
  refine List.Sublist.map _ ?_;obtain ⟨s,t,rfl⟩:=vm aj;simp
 have ad:=y4.length_le;rw [tj,h.all.length_eq] at ad;exact ⟨y4.nodup (h.all.nodup_iff.2 aN),ad⟩
theorem MR.short (p7:qM b) {R:List Row} (h:MR b R):R.length≤10∧∀ r∈R,r.length≤10:=by
 have dD:=p7.len;refine ⟨?_,fun r aj=>?_⟩
 ·have ad:R.length≤R.flatten.length:=by
   have bO:=h.ne
   have:∀ l:List Row,(∀ r∈l,r≠[])→l.length≤l.flatten.length:=fun l=>by
    induction l with
    | nil=>intro _;simp
    | cons r l bb =>
      intro ak;have ad:=tT.2 (ak r (by simp));have af:=bb fun q a5=>ak q (by simp [a5]);rw [tG,sA,sP];omega
   exact this R bO
  have af:=h.all.length_eq;rw [tj,se] at af;omega
 ·have:=(h.toRowsOf.each (IJ _) aj).2;rw [se] at this;omega
end
end Go.Proofs.YtfakoboiahbhaaaGreat.Ab


namespace Go.Proofs.YtfakoboiahbhaaaGreat.Ab
open Go
set_option maxRecDepth 20000
set_option maxHeartbeats 4000000
noncomputable def acL:eE :=
 GD [gV 1 [.hP 0] .box,gV 2 [.iK (.bool false)] .i_] (GD [gV 3 [.sl 1] (.p2 (.str 2)),gV 4 [.iK (.func 16 [] []),.sl 3] (.call 3),gV 5 [.hS 4] (.un .not),Gt 6 5,cS 7 [.hS 1] 6 true (.p2 (.str 2)),⟨some 8,[.iK (.func 21 [] []),.sl 7],some (6,true),none,.call 3⟩,cS 9 [.hS 8,.iK (.int .i64 0)] 6 true (.bin .eql),gV 10 [.hS 6,.hS 9,.iK (.bool false)] .pick,Gt 2 10] .ret)
theorem ahE:zm Tryz.prog WM 47=some (acL,11,[.tmp 2]):=by kernel_rfl
def Mw (b:qk):Option Bool :=
 (Pf b).bind fun r1 =>
 if r1=true then
  some false
 else
  (Ku b).bind fun r2 =>
  some (decide (r2=(0:Int)))
theorem VK {b:qk} {v:Bool} (h:Mw b=some v):qD 47 [(.agg [(hY b.1),(.ay (b.2.flatMap p4) b.2.length .shared)])] (B v):=by
 refine qZ dM ahE rfl rfl fun Q bo=>?_;have jG:qK [.tmp 2] Q (fun v=>(B v)) v:=fun T H bK=>bo _ T H bK;unfold Mw at h;unfold acL;conv=>whnf
 obtain ⟨r1,e0,h⟩:=qj h;refine ⟨qt.pl,_,alO e0,?_⟩;conv=>whnf
 cases r1
 ·conv=>whnf
  replace h:=r0 rfl h;obtain ⟨r2,fs,h⟩:=qj h;refine ⟨qt.pl,_,Ph fs,?_⟩;conv=>whnf
  exact qc h jG rfl rfl
 ·conv=>whnf
  replace h:=rZ rfl h;exact qc h jG rfl rfl

noncomputable def RF:eE :=
 .loop (some (ED false [0,2,3,1,12])) (.seq (GD [Gs 6 5,Gs 7 0,Gp 8 7,F5 9 6 8 .lss] (.cond (.sl 9) .skip (.exit 0))) (.seq (.block 1 (GD [Gs 12 0,Gs 13 5,Gl 14 12 13 1,Gq 15 14,Gs 16 1,F5 17 15 16 .eql] (.cond (.sl 17) (GD [gV 4 [.iK (.bool true)] .i_] .ret) .skip))) (Gw [Gt 10 5,F3 11 10 1,Gt 5 11])))
noncomputable def acR:eE :=
 GD [gV 4 [.iK (.bool false)] .i_] (.seq (GD [Gr 5 0] (.block 0 RF)) (GD [gV 4 [.iK (.bool false)] .i_] .ret))
theorem ahK:zm Tryz.prog Sb 53=some (acR,18,[.tmp 4]):=by kernel_rfl
def Mz (l:ql) (n:Int) (qi:Unit→Option Bool):Nat→Int→Option Bool
 | 0,_=>none
 | m+1,s1 =>
   if (decide (s1<(l.length:Int)))=true then
    qh (0≤s1∧s1<(l.length:Int)) <|
    if (decide ((ix l s1)=n))=true then
     some true
    else
     Mz l n qi m (w (s1+(1:Int)))
   else
    qi ()
def NT (l:ql) (n:Int):Option Bool :=
 Mz l n (fun _ =>
   some false) qe (0:Int)
theorem amx {l:ql} {n:Int} {qi:Unit→Option Bool} {s1:Int} {v:Bool} {Q:q8}   (jG:qK [.tmp 4] Q (fun v=>(B v)) v) (rD:∀ (p8:List I),qi ()=some v→qO 18 [] p8→Q (.exit 0) p8 []) {T:List I} (bZ:eX (ED false [0,2,3,1,12]) T=GI 18 [(0,(qG l .shared)),(1,(hY n)),(5,(hY s1))]) (h:Mz l n qi qe s1=some v) :
  dG Tryz.prog Sb 53 0 none RF T [] Q:=by
 unfold RF;refine wp_loop bZ ?_;refine .intro (fun m T H=>∃ (s1:Int),T=GI 18 [(0,(qG l .shared)),(1,(hY n)),(5,(hY s1))]∧H=[]∧Mz l n qi m s1=some v) qe ⟨s1,rfl,rfl,h⟩ ?_;clear h bZ;rintro m T H ⟨s1,rfl,rfl,h⟩;cases m
 ·exact q_ h
 rename_i m;rw [Mz.eq_2] at h;conv=>whnf
 refine bs h (fun e0 h=>?_) fun e0 h=>?_
 ·rw [e0];conv=>whnf
  refine qw h id fun fs h=>?_;rw [rS hY l s1 fs];conv=>whnf
  refine bs h (fun qp h=>?_) fun qp h=>?_
  ·rw [qp];(conv=>whnf);exact qc h jG rfl rfl
  ·rw [qp];(conv=>whnf);exact ⟨m,sv m,(w (s1+(1:Int))),rfl,rfl,h⟩
 ·rw [e0];conv=>whnf
  exact rD  _ h ⟨rfl,rfl⟩
theorem abU {l:ql} {n:Int} {v:Bool} (h:NT l n=some v):qD 53 [(.ay (l.map hY) l.length .shared),(hY n)] (B v):=by
 refine qZ dM ahK rfl rfl fun Q bo=>?_;have jG:qK [.tmp 4] Q (fun v=>(B v)) v:=fun T H bK=>bo _ T H bK;unfold NT at h;unfold acR;obtain ⟨HD,qS⟩:∃ c,RF=c:=⟨_,rfl⟩;rw [qS];conv=>whnf
 subst qS;refine amx ?_ ?_ (by exact rfl) h
 ·exact fun T H bK=>jG T H bK
 ·intro  p8 h qf;obtain ⟨qJ,rfl⟩:=qf.ex;conv=>whnf
  exact qc h jG rfl rfl

end Go.Proofs.YtfakoboiahbhaaaGreat.Ab


namespace Go.Proofs.YtfakoboiahbhaaaGreat.Ab
open Go
structure am3 (b:qb) (D:List Int) (n:Nat) (f t:Int) (r:Row):Prop where
 len:r.length=n
 run:qV b f r=some t
 ok:∀ p∈r,G7 b p=false∧ix D (qP b p)≤(n:Int)∧1≤ix D (qP b p)∧ix D (fin b p)=ix D (qP b p)-1
 down:r.Pairwise fun p q=>ix D (qP b q)<ix D (qP b p)
 first:∀ p l,r=p::l→qP b p=f
theorem abT {l:List Int} {n:Int} (ak:l.length≤1000):∀ (m i:Nat) (z:Int),z=i→i≤l.length→l.length-i<m→Mz l n (fun _=>some false) m z=some ((l.drop i).any fun x=>decide (x=n))
 | 0,i,_,_,_,h=>absurd h (by omega)
 | m+1,i,_,rfl,hi,hm=>by
   rw [Mz];by_cases h:i<l.length
   ·rw [JC h,HH h,rm h,tf h,List.any_cons];by_cases ad:l[i]=n
    ·rw [if_pos (decide_eq_true ad),decide_eq_true ad,Bool.true_or]
    ·rw [if_neg (by simpa using ad),decide_eq_false ad,Bool.false_or,r4 i (by omega),abT ak m (i+1) _ rfl (by omega) (by omega)]
   ·rw [JB h,tz (by omega)];rfl
theorem abS (l:List Int) (n:Int) (ak:l.length≤1000):NT l n=some (l.any fun x=>decide (x=n)):=by
 rw [NT,abT ak qe 0 0 rfl (sK _) (rR (by omega)),tb]
theorem VJ (b:qb):Mw b=some (decide (b.2.length≤14) && decide (ri b=0)):=by
 rw [Mw,Pf,sq];by_cases h:(14:Int)<(b.2.length:Int)
 ·rw [if_pos (decide_eq_true h),decide_eq_false (by omega)];rfl
 ·rw [if_neg (by simpa using h),VI b (by omega),sq,decide_eq_true (show b.2.length≤14 by omega)];rfl
theorem JY:Il=some true:=rfl
theorem YN {x n:Int} (al:0≤x) (aN:1≤n):0≤x.tmod n∧x.tmod n<n:=⟨Int.tmod_nonneg _ al,Int.tmod_lt_of_pos _ (by omega)⟩
end Go.Proofs.YtfakoboiahbhaaaGreat.Ab


namespace Go.Proofs.YtfakoboiahbhaaaGreat.Ab
open Go
set_option maxRecDepth 20000
set_option maxHeartbeats 4000000
noncomputable def acF:eE :=
 GD [gV 1 [.hP 0] .box, gV 2 [.iK (.ay [] 0 .full)] (.nil 1), Gr 3 0] (GD [gV 9 [.hS 1] (.p2 (.str 2)), gV 10 [.iK (.func 64 [] []), .sl 9] (.call 3), Gt 8 10, GL 11 8 0, gV 12 [.hS 8] (.ext 1), Gt 4 11, Gt 5 12] (.seq (GD [Gs 13 5, F4 14 13 0 .neq] (.cond (.sl 14) (GD [Gt 15 5, gV 2 [.iK (.ay [] 0 .full)] (.nil 1), Gt 3 15] .ret) .skip)) (GD [Gs 16 4, Gt 17 4, gV 18 [.iK (.func 77 [] []), .sl 17] (.call 3), gV 19 [.iK (.func 76 [] []), .sl 16, .sl 18] (.call 3), Gt 6 19] (GD [Gs 20 6, Gp 21 20, gV 22 [.sl 21, .hS 21] (.zF [.int .i64 0] 1 8), Gt 7 22] (GD [Gs 23 7, Gt 24 6, gV 25 [.hP 23, .hP 24] (.other (Oper.mk (some 25) (Op.call (Call.mk (Callee.builtin Builtin.copy) (Array.mk [Operand.tmp 23, Operand.tmp 24]) (Array.mk [38, 38]))) 3 "match.go:115" (Array.mk [Edge.mk 0 Ground.data, Edge.mk 1 Ground.data]) none) 0)] (GD [Gt 26 7, Gt 2 26, Gr 3 0] .ret))))))
theorem ahy:zm Tryz.prog WG 27=some (acF,27,[.tmp 2,.tmp 3]):=by kernel_rfl
def JZ (b:qk):Option (ql×Int) :=
 (Jo b).bind fun r1 =>
 match r1 with
 | (none,aV) =>
   if (decide (aV≠(0:Int)))=true then
    some ([],aV)
   else
    none
 | (some bT,aV) =>
   if (decide (aV≠(0:Int)))=true then
    some ([],aV)
   else
    (NW bT).bind fun r2 =>
    (LF bT r2).bind fun eJ =>
    qh (0≤(eJ.length:Int)∧(eJ.length:Int)≤(eJ.length:Int)∧(eJ.length:Int).toNat*8≤140737488355328) <|
    qh ((eJ.length:Int).toNat=(List.replicate (eJ.length:Int).toNat (0:Int)).length∧eJ.length=(eJ.length:Int).toNat) <|
    qh ((eJ.length:Int).toNat=eJ.length) <|
    some (eJ,(0:Int))
theorem Pk {b:qk} {v:(ql×Int)} (h:JZ b=some v):qD 27 [(.agg [(hY b.1),(.ay (b.2.flatMap p4) b.2.length .shared)])] (.tuple [(.ay (v.1.map hY) v.1.length .shared),(hY v.2)]):=by
 refine qZ dM ahy rfl (IX (p5 (rO (fun _=>rfl) _ _ _) (p5 rfl rfl))) fun Q bo=>?_;have jG:qK [.tmp 2,.tmp 3] Q (fun v=>(.tuple [(qG v.1 .shared),(hY v.2)])) v:=fun T H bK=>bo _ T H bK;unfold JZ at h;unfold acF;conv=>whnf
 obtain ⟨r1,e0,h⟩:=qj h;rcases r1 with ⟨_ | bT,aV⟩
 ·refine ⟨qt.pl,_,JG e0,?_⟩;conv=>whnf
  refine bs h (fun fs h=>?_) fun fs h=>?_
  ·rw [fs];(conv=>whnf);exact qc h jG rfl rfl
  ·rw [fs];(conv=>whnf);exact q_ h
 ·refine ⟨qt.pl,_,JG e0,?_⟩;conv=>whnf
  refine bs h (fun qp h=>?_) fun qp h=>?_
  ·rw [qp];(conv=>whnf);exact qc h jG rfl rfl
  ·rw [qp];(conv=>whnf);obtain ⟨r2,qC,h⟩:=qj h;refine ⟨qt.pl,_,VT qC,?_⟩;(conv=>whnf);obtain ⟨eJ,qH,h⟩:=qj h;refine ⟨qt.pl,_,Q_ qH,?_⟩;(conv=>whnf);obtain ⟨qW,h⟩:=qF h;refine ⟨qW.1,qW.2.1,qW.2.2,?_⟩;rw [Vc hY (0:Int)];(conv=>whnf);obtain ⟨qU,h⟩:=qF h;refine ⟨_,_,fun C=>(aiq rfl).trans (aeY (e:=3) (f:=hY) (l:=(List.replicate (eJ.length:Int).toNat (0:Int))) (m:=eJ) (by kernel_rfl) (by kernel_rfl) (sK _) (by first | exact qz.h | rfl | (simp [su,I.settle];done)) qU.1 qU.2),?_⟩
   (conv=>whnf);obtain ⟨qX,h⟩:=qF h;obtain rfl:=Option.some.inj h;exact jG _ _ ⟨.inr rfl,_,rfl,_,(afw (Qe (afv (f:=hY) (l:=eJ) (by first | exact qz.h | rfl | (simp [su,I.settle];done)) qX (fun _=>rfl) (fun _=>rfl)) (Qe (o0 rfl) TM))),by simp only [I.settle,I.view,I.cu,sy,tA,ae_];exact congrArg (fun n=>I.tuple [I.ay _ n .shared,_]) qX⟩

end Go.Proofs.YtfakoboiahbhaaaGreat.Ab


namespace Go.Proofs.YtfakoboiahbhaaaGreat.Ab
open Go
set_option maxRecDepth 20000
set_option maxHeartbeats 4000000

end Go.Proofs.YtfakoboiahbhaaaGreat.Ab


namespace Go.Proofs.YtfakoboiahbhaaaGreat.Ab
open Go
set_option maxRecDepth 20000
set_option maxHeartbeats 4000000
end Go.Proofs.YtfakoboiahbhaaaGreat.Ab


namespace Go.Proofs.YtfakoboiahbhaaaGreat.Ab
open Go
section
variable {b:qb}
theorem TQ (S:List Int):(q3 b S).length≤6:=by
 have:=tO (fun f=>decide (qN b S f % 2=1)) (upto 6);rw [se] at this;exact this
theorem Qk:(q6 b).length≤6:=TQ _
def OM (b:qb):List Int×Int:=if ri b=0 then (q6 b,0) else ([],ri b)
theorem Nf (p7:qM b):OM b=(q6 b,0):=by unfold OM;rw [if_pos (Hi.2 p7)]
theorem aid (h:ri b≠0):OM b=([],ri b):=by unfold OM;rw [if_neg h]
theorem Pj (ag:b.2.length≤1000):JZ b=some (OM b):=by
 rw [JZ];by_cases h:ri b=0
 ·have p7:=Hi.1 h;have ak:=Qk (b:=b);rw [Pr p7,sq,Nf p7];dsimp only;rw [if_neg (by simp),VS ag,sq,VQ p7 I7 (by rw [se];exact ag),sq];show qh _ (qh _ (qh _ (some (q6 b,(0:Int)))))=_;rw [qx ⟨by omega,by show ((q6 b).length:Int)≤_;exact Int.le_refl _,by show ((q6 b).length:Int).toNat*8≤_;omega⟩,qx ⟨by simp,by show (q6 b).length=((q6 b).length:Int).toNat;omega⟩,qx (by show ((q6 b).length:Int).toNat=(q6 b).length;omega)]
 ·rw [Pq ag h,sq,aid h];dsimp only;rw [if_pos (by simpa using h)]
def OP (b:qb):List (List Int)×Int:=if ri b=0 then (parts b,0) else ([],ri b)
theorem Y6 (p7:qM b):OP b=(parts b,0):=by unfold OP;rw [if_pos (Hi.2 p7)]
theorem aiz (h:ri b≠0):OP b=([],ri b):=by unfold OP;rw [if_neg h]
theorem al4 (ag:b.2.length≤1000):Pl b=some (OP b):=by
 rw [Pl];by_cases h:ri b=0
 ·have p7:=Hi.1 h;rw [Pr p7,sq,Y6 p7];dsimp only;rw [if_neg (by simp),VS ag,sq,(K3 p7).1,sq]
 ·rw [Pq ag h,sq,aiz h];dsimp only;rw [if_pos (by simpa using h)]
end
end Go.Proofs.YtfakoboiahbhaaaGreat.Ab


namespace Go.Proofs.YtfakoboiahbhaaaGreat.Ab
open Go
set_option maxRecDepth 20000
set_option maxHeartbeats 4000000
noncomputable def RA:eE :=
 .loop (some (ED false [4,1,1,4,73])) (.seq (GD [Gs 36 9,Gs 37 4,Gs 38 8,Gl 39 37 38 1,Gq 40 39,Gp 41 40,F5 42 36 41 .lss] (.cond (.sl 42) .skip (.exit 2))) (.seq (.block 3 (GD [Gs 45 4,Gs 46 8,Gl 47 45 46 1,Gq 48 47,Gs 49 9,Gl 50 48 49 1,Gq 51 50,Gt 10 51] (.seq (GD [Gs 52 10,F4 53 52 0 .lss,Gt 54 53,cS 55 [.sl 10] 54 false .i_,cS 56 [.sl 6] 54 false .i_,cS 57 [.hP 56] 54 false .xe,cS 58 [.hS 55,.hS 57] 54 false (.bin .geq),gV 59 [.hS 54,.iK (.bool true),.hS 58] .pick,Gt 60 59,cS 61 [.sl 6] 60 false .i_,cS 62 [.sl 10] 60 false .i_,cS 63 [.hS 61,.hS 62] 60 false (.pV 1),cS 64 [.hS 63] 60 false (.p2 .one),cS 65 [.hS 64,.iK (.int .i64 0)] 60 false (.bin .gtr),gV 66 [.hS 60,.iK (.bool true),.hS 65] .pick] (.cond (.sl 66) (GD [gV 2 [.iK (.ay [] 0 .full)] (.nil 1),gV 3 [.iK (.bool false)] .i_] .ret) .skip)) (GD [Gs 67 6,Gt 68 10,Gl 69 67 68 1,⟨none,[.hP 69,.iK (.int .i64 1)],none,none,.st 1⟩] (Gw [Gt 70 7,F3 71 70 1,Gt 7 71]))))) (Gw [Gt 43 9,F3 44 43 1,Gt 9 44])))
noncomputable def RB:eE :=
 .loop (some (ED false [4,1,1,3,74])) (.seq (GD [Gs 30 8,Gs 31 4,Gp 32 31,F5 33 30 32 .lss] (.cond (.sl 33) .skip (.exit 0))) (.seq (.block 1 (.seq (GD [Gr 9 0] (.block 2 RA)) (GD [Gs 72 4,Gs 73 8,Gl 74 72 73 1,Gq 75 74,Gp 76 75,F4 77 76 0 .eql] (.cond (.sl 77) (GD [gV 2 [.iK (.ay [] 0 .full)] (.nil 1),gV 3 [.iK (.bool false)] .i_] .ret) .skip)))) (Gw [Gt 34 8,F3 35 34 1,Gt 8 35])))
noncomputable def acN:eE :=
 GD [gV 1 [.hP 0] .box,gV 2 [.iK (.ay [] 0 .full)] (.nil 1),gV 3 [.iK (.bool false)] .i_] (GD [gV 12 [.sl 1] (.p2 (.str 2)),gV 13 [.iK (.func 29 [] []),.sl 12] (.call 3),Gt 11 13,GL 14 11 0,gV 15 [.hS 11] (.ext 1),Gt 4 14,Gt 5 15] (.seq (GD [Gt 16 5,F4 17 16 0 .neq,Gt 18 17,cS 19 [.sl 4] 18 false .i_,cS 20 [.hP 19] 18 false .xe,cS 21 [.sl 1] 18 false (.oY 1),cS 22 [.hS 21] 18 false (.p2 .one),cS 23 [.hP 22] 18 false .xe,cS 24 [.hS 20,.hS 23] 18 false (.bin .gtr),gV 25 [.hS 18,.iK (.bool true),.hS 24] .pick] (.cond (.sl 25) (GD [gV 2 [.iK (.ay [] 0 .full)] (.nil 1),gV 3 [.iK (.bool false)] .i_] .ret) .skip)) (GD [F_ 26 1 1,Gq 27 26,Gp 28 27,gV 29 [.sl 28,.hS 28] (.zF [.int .i64 0] 1 8),Gt 6 29] (GD [Gr 7 0] (.seq (GD [Gr 8 0] (.block 0 RB)) (GD [Gt 78 4,Gt 79 7,Gt 80 6,Gp 81 80,F5 82 79 81 .eql,Gt 2 78,Gt 3 82] .ret))))))
theorem ahG:zm Tryz.prog PB 49=some (acN,83,[.tmp 2,.tmp 3]):=by kernel_rfl
def Mx (b:qk) (r1:(GV×Int)) (s2:Int) (qT:Int→ql→Option (GV×Bool)):Nat→Int→Int→ql→Option (GV×Bool)
 | 0,_,_,_=>none
 | m+1,GC,qn,qa =>
   qh (0≤s2∧s2<(r1.1.length:Int)) <|
   if (decide (qn<((ix r1.1 s2).length:Int)))=true then
    qh (0≤s2∧s2<(r1.1.length:Int)) <|
    qh (0≤qn∧qn<((ix r1.1 s2).length:Int)) <|
    if (decide ((ix (ix r1.1 s2) qn)<(0:Int)))=true then
     some ([],false)
    else
     if (decide ((((b.2.length:Int).toNat:Nat):Int)≤(ix (ix r1.1 s2) qn)))=true then
      some ([],false)
     else
      qh (0≤(ix (ix r1.1 s2) qn)∧(ix (ix r1.1 s2) qn)<(((b.2.length:Int).toNat:Nat):Int)∧(b.2.length:Int).toNat=qa.length) <|
      if (decide ((0:Int)<(ix qa (ix (ix r1.1 s2) qn))))=true then
       some ([],false)
      else
       qh (0≤(ix (ix r1.1 s2) qn)∧(ix (ix r1.1 s2) qn)<(((b.2.length:Int).toNat:Nat):Int)∧(b.2.length:Int).toNat=qa.length) <|
       Mx b r1 s2 qT m (w (GC+(1:Int))) (w (qn+(1:Int))) (qa.set (ix (ix r1.1 s2) qn).toNat (1:Int))
   else
    qT GC qa
def LA (b:qk) (r1:(GV×Int)) (qi:Int→ql→Option (GV×Bool)):Nat→Int→Int→ql→Option (GV×Bool)
 | 0,_,_,_=>none
 | m+1,s1,s2,dj =>
   if (decide (s2<(r1.1.length:Int)))=true then
    Mx b r1 s2 (fun x6 ox =>
      qh (0≤s2∧s2<(r1.1.length:Int)) <|
      if (decide (((ix r1.1 s2).length:Int)=(0:Int)))=true then
       some ([],false)
      else
       LA b r1 qi m x6 (w (s2+(1:Int))) ox) qe s1 (0:Int) dj
   else
    qi s1 dj
def NS (b:qk):Option (GV×Bool) :=
 (Pl b).bind fun r1 =>
 if (decide (r1.2≠(0:Int)))=true then
  some ([],false)
 else
  if (decide ((b.2.length:Int)<(r1.1.length:Int)))=true then
   some ([],false)
  else
   qh (0≤(b.2.length:Int)∧(b.2.length:Int)≤(b.2.length:Int)∧(b.2.length:Int).toNat*8≤140737488355328) <|
   LA b r1 (fun F0 rC =>
     some (r1.1,(decide (F0=(((b.2.length:Int).toNat:Nat):Int))))) qe (0:Int) (0:Int) (List.replicate (b.2.length:Int).toNat (0:Int))
theorem amc {b:qk} {r1:(GV×Int)} {s2:Int} {qT:Int→ql→Option (GV×Bool)} {GC:Int} {qn:Int} {qa:ql} {v:(GV×Bool)} {Q:q8} {bD:au}  (jG:qK [.tmp 2,.tmp 3] Q (fun v=>(.tuple [(.ay (v.1.map js) v.1.length .shared),(B v.2)])) v) (HX:∀ (x6:Int) (ox:ql) (p8:List I),qT x6 ox=some v→qO 83 [(4,(.ay (r1.1.map js) r1.1.length .shared)),(6,(.ref 1 0 (b.2.length:Int).toNat (some (b.2.length:Int).toNat) 1)),(7,(hY x6)),(8,(hY s2))] p8→Q (.exit 2) p8 [bD,au.cells (ox.map hY)]) {T:List I} (bZ:eX (ED false [4,1,1,4,73]) T=GI 83 [(4,(.ay (r1.1.map js) r1.1.length .shared)),(6,(.ref 1 0 (b.2.length:Int).toNat (some (b.2.length:Int).toNat) 1)),(7,(hY GC)),(8,(hY s2)),(9,(hY qn))]) (h:Mx b r1 s2 qT qe GC qn qa=some v) :
  dG Tryz.prog PB 49 0 none RA T [bD,au.cells (qa.map hY)] Q:=by
 unfold RA;refine wp_loop bZ ?_;refine .intro (fun m T H=>∃ (GC qn:Int) (qa:ql),T=GI 83 [(4,(.ay (r1.1.map js) r1.1.length .shared)),(6,(.ref 1 0 (b.2.length:Int).toNat (some (b.2.length:Int).toNat) 1)),(7,(hY GC)),(8,(hY s2)),(9,(hY qn))]∧H=[bD,au.cells (qa.map hY)]∧Mx b r1 s2 qT m GC qn qa=some v) qe ⟨GC,qn,qa,rfl,rfl,h⟩ ?_;clear h bZ;rintro m T H ⟨GC,qn,qa,rfl,rfl,h⟩;cases m
 ·exact q_ h
 rename_i m;rw [Mx.eq_2] at h;conv=>whnf
 refine qw h id fun qW h=>?_;rw [rS js r1.1 s2 qW];conv=>whnf
 refine bs h (fun qU h=>?_) fun qU h=>?_
 ·rw [qU];conv=>whnf
  refine qw h id fun qX h=>?_;rw [rS js r1.1 s2 qX];conv=>whnf
  refine qw h id fun ra h=>?_;rw [rS hY (ix r1.1 s2) qn ra];conv=>whnf
  refine bs h (fun qL h=>?_) fun qL h=>?_
  ·rw [qL];(conv=>whnf);exact qc h jG rfl rfl
  ·rw [qL];(conv=>whnf);refine bs h (fun q9 h=>?_) fun q9 h=>?_
   ·rw [q9];(conv=>whnf);exact qc h jG rfl rfl
   ·rw [q9];(conv=>whnf);obtain ⟨rn,h⟩:=qF h;refine ⟨⟨rn.1,rn.2.1⟩,?_⟩;replace rn:0≤(ix (ix r1.1 s2) qn)∧(ix (ix r1.1 s2) qn)<(qa.length:Int):=⟨rn.1,by have:=rn.2;omega⟩;(conv=>whnf);refine O8 hY qa (ix (ix r1.1 s2) qn) rn ?_;(conv=>whnf);refine bs h (fun rb h=>?_) fun rb h=>?_
    ·rw [rb];(conv=>whnf);exact qc h jG rfl rfl
    ·rw [rb];(conv=>whnf);obtain ⟨rY,h⟩:=qF h;refine ⟨⟨rY.1,rY.2.1⟩,?_⟩;replace rY:0≤(ix (ix r1.1 s2) qn)∧(ix (ix r1.1 s2) qn)<(qa.length:Int):=⟨rY.1,by have:=rY.2;omega⟩;(conv=>whnf);refine Pa hY qa (ix (ix r1.1 s2) qn) (1:Int) rY ?_;(conv=>whnf);exact ⟨m,sv m,(w (GC+(1:Int))),(w (qn+(1:Int))),(qa.set (ix (ix r1.1 s2) qn).toNat (1:Int)),rfl,rfl,h⟩
 ·rw [qU];conv=>whnf
  exact HX _ _ _ h ⟨rfl,rfl⟩
theorem amb {b:qk} {r1:(GV×Int)} {qi:Int→ql→Option (GV×Bool)} {s1:Int} {s2:Int} {dj:ql} {v:(GV×Bool)} {Q:q8} {bD:au}  (jG:qK [.tmp 2,.tmp 3] Q (fun v=>(.tuple [(.ay (v.1.map js) v.1.length .shared),(B v.2)])) v) (rD:∀ (F0:Int) (rC:ql) (p8:List I),qi F0 rC=some v→qO 83 [(4,(.ay (r1.1.map js) r1.1.length .shared)),(6,(.ref 1 0 (b.2.length:Int).toNat (some (b.2.length:Int).toNat) 1)),(7,(hY F0))] p8→Q (.exit 0) p8 [bD,au.cells (rC.map hY)]) {T:List I} (bZ:eX (ED false [4,1,1,3,74]) T=GI 83 [(4,(.ay (r1.1.map js) r1.1.length .shared)),(6,(.ref 1 0 (b.2.length:Int).toNat (some (b.2.length:Int).toNat) 1)),(7,(hY s1)),(8,(hY s2))]) (h:LA b r1 qi qe s1 s2 dj=some v) :
  dG Tryz.prog PB 49 0 none RB T [bD,au.cells (dj.map hY)] Q:=by
 unfold RB;obtain ⟨HD,qS⟩:∃ c,RA=c:=⟨_,rfl⟩;rw [qS];refine wp_loop bZ ?_;refine .intro (fun m T H=>∃ (s1 s2:Int) (dj:ql),T=GI 83 [(4,(.ay (r1.1.map js) r1.1.length .shared)),(6,(.ref 1 0 (b.2.length:Int).toNat (some (b.2.length:Int).toNat) 1)),(7,(hY s1)),(8,(hY s2))]∧H=[bD,au.cells (dj.map hY)]∧LA b r1 qi m s1 s2 dj=some v) qe ⟨s1,s2,dj,rfl,rfl,h⟩ ?_;clear h bZ;rintro m T H ⟨s1,s2,dj,rfl,rfl,h⟩;cases m
 ·exact q_ h
 rename_i m;rw [LA.eq_2] at h;conv=>whnf
 refine bs h (fun qH h=>?_) fun qH h=>?_
 ·rw [qH];conv=>whnf
  subst qS;refine amc ?_ ?_ (by exact rfl) h
  ·exact fun T H bK=>jG T H bK
  ·intro x6 ox p8 h qf;obtain ⟨qJ,rfl⟩:=qf.ex;(conv=>whnf);refine qw h id fun GY h=>?_;rw [rS js r1.1 s2 GY];(conv=>whnf);refine bs h (fun sa h=>?_) fun sa h=>?_
   ·rw [sa];(conv=>whnf);exact qc h jG rfl rfl
   ·rw [sa];(conv=>whnf);exact ⟨m,sv m,x6,(w (s2+(1:Int))),ox,rfl,rfl,h⟩
 ·rw [qH];conv=>whnf
  exact rD _ _ _ h ⟨rfl,rfl⟩
theorem abG {b:qk} {v:(GV×Bool)} (h:NS b=some v):qD 49 [(.agg [(hY b.1),(.ay (b.2.flatMap p4) b.2.length .shared)])] (.tuple [(.ay (v.1.map js) v.1.length .shared),(B v.2)]):=by
 refine qZ dM ahG rfl (IX (p5 (rO (fun _=>(rO (fun _=>rfl) _ _ _)) _ _ _) (p5 rfl rfl))) fun Q bo=>?_;have jG:qK [.tmp 2,.tmp 3] Q (fun v=>(.tuple [(.ay (v.1.map js) v.1.length .shared),(B v.2)])) v:=fun T H bK=>bo _ T H bK;unfold NS at h;unfold acN;obtain ⟨Lc,sk⟩:∃ c,RB=c:=⟨_,rfl⟩;rw [sk];conv=>whnf
 obtain ⟨r1,e0,h⟩:=qj h;refine ⟨qt.pl,_,al5 e0,?_⟩;conv=>whnf
 refine bs h (fun fs h=>?_) fun fs h=>?_
 ·rw [fs];conv=>whnf
  exact qc h jG rfl rfl
 ·rw [fs];conv=>whnf
  refine bs h (fun qp h=>?_) fun qp h=>?_
  ·rw [qp];(conv=>whnf);exact qc h jG rfl rfl
  ·rw [qp];(conv=>whnf);obtain ⟨qC,h⟩:=qF h;refine ⟨qC.1,qC.2.1,qC.2.2,?_⟩;rw [Vc hY (0:Int)];(conv=>whnf);subst sk;refine amb ?_ ?_ (by exact rfl) h
   ·exact fun T H bK=>jG T H bK
   ·intro F0 rC p8 h qf;obtain ⟨qJ,rfl⟩:=qf.ex;(conv=>whnf);exact qc h jG rfl rfl
end Go.Proofs.YtfakoboiahbhaaaGreat.Ab
