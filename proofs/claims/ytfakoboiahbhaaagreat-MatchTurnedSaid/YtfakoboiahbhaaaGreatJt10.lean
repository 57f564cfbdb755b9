
import Derived.Test.YtfakoboiahbhaaaGreatJt4
import Derived.Test.YtfakoboiahbhaaaGreatJt5
import Derived.Test.YtfakoboiahbhaaaGreatJt9
import Derived.KernelRfl
import Derived.Test.YtfakoboiahbhaaaGreatJt8
import Derived.Test.YtfakoboiahbhaaaGreatProg
set_option linter.unusedSimpArgs false
set_option linter.unusedVariables false
set_option linter.unusedSectionVars false

open Bool renaming false_eq_true→tF
open Decidable renaming not_not→vb
open Int renaming le_refl→uD,toNat_natCast→te,toNat_of_nonneg→tQ
open List renaming any_eq_false→uA,any_eq_true→uh,append_assoc→sA,append_nil→sU,append_of_mem→uT,drop_eq_getElem_cons→sQ,drop_eq_nil_of_le→tc,drop_zero→sM,ext_getElem→vB,find?_eq_none→vd,flatten_append→uS,flatten_cons→tS,getElem?_append→sb,getElem?_append_left→sB,getElem?_append_right→sJ,getElem?_drop→sX,getElem?_eq_some_iff→sa,getElem?_replicate→vw,getElem_mem→sD,length_append→su,length_cons→sL,length_eq_zero_iff→tu,length_filter_le→tH,length_map→sV,length_singleton→tV,length_take→sY,map_append→sZ,map_cons→sx,map_map→tr,map_nil→tM,mem_append→sN,mem_cons→sj,mem_cons_of_mem→tR,mem_cons_self→ud,mem_filter→sO,mem_flatMap→uZ,mem_flatten→ui,mem_map→sm,mem_map_of_mem→vA,mem_of_mem_take→uj,mem_singleton→sK,nodup_append→tT,not_mem_nil→tW,pairwise_iff_getElem→tf,perm_ext_iff_of_nodup→uR,set_set→sS,take_append_drop→vF,take_length→tC,take_succ_eq_append_getElem→tN,take_zero→tq
open Nat renaming add_assoc→tD,le_refl→sc,le_trans→sH,lt_succ_self→sf,min_eq_left→tK,mul_one→tt,sub_self→tU,zero_le→sq
open Option renaming bind_some→r_,map_some→sd
namespace Go.Proofs.YtfakoboiahbhaaaGreat.Ab
open Go
set_option maxRecDepth 20000
set_option maxHeartbeats 4000000
def Qn (t:qb) (qd:p8) (figure:Int):Option Bool :=
 (Lb t qd).bind fun r1 =>
 if (decide ((qd.length:Int)=(0:Int)))=true then
  some true
 else
  if (decide ((2:Int)<(r1.length:Int)))=true then
   some false
  else
   if (decide ((r1.length:Int)=(2:Int)))=true then
    (UM r1 figure).bind fun r2 =>
    if r2=true then
     (JQ qd (fun qF=>Qq qF t figure)).bind fun r3 =>
     if r3=true then
      (JN t qd).bind fun r4 =>
      some (decide ((r4.length:Int)=(1:Int)))
     else
      some false
    else
     some false
   else
    (JQ qd (fun qF=>Qq qF t figure)).bind fun q8 =>
    if q8=true then
     (JN t qd).bind fun Hu =>
     some (decide ((Hu.length:Int)=(1:Int)))
    else
     some false

end Go.Proofs.YtfakoboiahbhaaaGreat.Ab


namespace Go.Proofs.YtfakoboiahbhaaaGreat.Ab
open Go
def G5 (l:Row):Row:=(l.map fun p=>(p.1,1-p.2)).reverse
section
variable {b:p3} {S:List Int}
theorem ai_ {p:Int×Int} (h:0≤p.2∧p.2≤1):qo b (p.1,1-p.2)=fin b p∧fin b (p.1,1-p.2)=qo b p:=by
 unfold qo fin;rcases show p.2=0∨p.2=1 by omega with e | e
 ·simp [e]
 ·simp [e]
theorem Qd:∀ (l:Row) (a c:Int),(∀ p∈l,0≤p.2∧p.2≤1)→qm b a l=some c→qm b c (G5 l)=some a
 | [],a,c,_,h=>by
   have:a=c:=by simpa [qm] using h
   subst this;rfl
 | p::l,a,c,ad,h=>by
   obtain ⟨cb,b8⟩:=Ii.1 h;have a_:=Qd l _ c (fun q a3=>ad q (by simp [a3])) b8;have ax:=ai_ (b:=b) (ad p (by simp));unfold G5 at a_ ⊢;rw [sx,List.reverse_cons,IA,a_,r_];exact JE.2 ⟨ax.1,by rw [ax.2];exact cb⟩
theorem V1 (l:Row):((G5 l).map (·.1)).Perm (l.map (·.1)):=by
 unfold G5;rw [List.map_reverse,tr];exact List.reverse_perm _
theorem Us:∀ (l:Row) (a c:Int),qm b a l=some c→∀ p∈l,q9 b (l.map (·.1)) a (qo b p)∧q9 b (l.map (·.1)) a (fin b p)
 | [],_,_,_,p,aC=>by simp at aC
 | q::l,a,c,h,p,aC=>by
   obtain ⟨cb,b8⟩:=Ii.1 h;have a3:q9 b ((q::l).map (·.1)) a (fin b q):=.one (i:=q.1) (by simp) ((Jr q a).2 (.inl cb)) ((Jr q _).2 (.inr rfl));rcases sj.1 aC with rfl | aC
   ·exact ⟨by rw [cb];exact .refl,a3⟩
   ·have a_:=Us l _ c b8 p aC;(have hm:∀ x∈l.map (·.1),x∈(q::l).map (·.1):=fun x al=>by simp only [sx,sj];exact .inr al);exact ⟨a3.trans (a_.1.mono hm),a3.trans (a_.2.mono hm)⟩
theorem ah1 {l:Row} {a c:Int} (h:qm b a l=some c):Lh b (l.map (·.1)):=by
 intro x al y a0 f g aQ aO;obtain ⟨p,aC,rfl⟩:=sm.1 al;obtain ⟨q,a3,rfl⟩:=sm.1 a0;have ao:∀ p∈l,∀ f,qD b p.1 f→q9 b (l.map (·.1)) a f:=fun p aC f aQ=>by
  rcases (Jr p f).1 aQ with rfl | rfl
  ·exact (Us l a c h p aC).1
  ·exact (Us l a c h p aC).2
 exact (ao p aC f aQ).symm.trans (ao q a3 g aO)
theorem Lh.perm {S S':List Int} (h:Lh b S) (aC:S.Perm S'):Lh b S':=fun x al y a0 f g aQ aO=>(h x (aC.mem_iff.2 al) y (aC.mem_iff.2 a0) f g aQ aO).mono fun z bm=>aC.mem_iff.1 bm
def JU (b:p3) (S:List Int) (f:Int):Prop:=S=[]∨(Lh b S∧(∃ i∈S,qD b i f)∧(q' b S=[]∨((q' b S).length=2∧f∈q' b S)))
structure H6 (b:p3) (S:List Int) (a c:Int) (l:Row):Prop where
 ok:∀ p∈l,rP b p
 go:qm b a l=some c
 all:(l.map (·.1)).Perm S
theorem V2 (p1:qu b) {p:Int×Int} (aC:rP b p):(0≤qo b p∧qo b p<b.1)∧0≤fin b p∧fin b p<b.1:=by
 have hm:=G3.2 ⟨aC.1,aC.2.1⟩;exact ⟨Pm p1 hm ((Jr p _).2 (.inl rfl)),Pm p1 hm ((Jr p _).2 (.inr rfl))⟩
theorem X_:∀ (l:Row) (a c:Int),l≠[]→qm b a l=some c→∃ p∈l,fin b p=c
 | [],_,_,h,_=>absurd rfl h
 | [p],a,c,_,h=>⟨p,by simp,(JE.1 h).2⟩
 | p::q::l,a,c,_,h=>by
   obtain ⟨r,aj,e⟩:=X_ (q::l) _ c (by simp) (Ii.1 h).2;exact ⟨r,tR _ aj,e⟩
theorem H6.ends (p1:qu b) {a c:Int} {l:Row} (h:H6 b S a c l) (aS:l≠[]):(0≤a∧a<b.1)∧(0≤c∧c<b.1)∧(∃ i∈S,qD b i a)∧∃ i∈S,qD b i c:=by
 obtain ⟨p,aC,e⟩:=X_ l a c aS h.go
 match l,aS,h with
 | q::l,_,h =>
   have ck:=(Ii.1 h.go).1;have ad:=V2 p1 (h.ok q (by simp));have af:=V2 p1 (h.ok p aC);rw [ck] at ad;rw [e] at af;exact ⟨ad.1,af.2,⟨q.1,h.all.mem_iff.1 (by simp),(Jr q _).2 (.inl ck)⟩,⟨p.1,h.all.mem_iff.1 (vA aC),(Jr p _).2 (.inr e)⟩⟩
theorem H6.Xv (p1:qu b) {a c:Int} {l:Row} (h:H6 b S a c l) (aS:l≠[]):(a=c→q' b S=[])∧(a≠c→(q' b S).Perm [a,c]):=by
 have W3:=fun v=>Ou l a c v h.go;have bV:=p1.f6;obtain ⟨cd,ao,_,_⟩:=h.ends p1 aS;have aZ:∀ v,qL b (l.map (·.1)) v=qL b S v:=fun v=>Pj h.all v;constructor
 ·rintro rfl;refine List.eq_nil_iff_forall_not_mem.2 fun v ae=>?_;have ad:=(MD.1 ae).2;have af:=W3 v;rw [aZ] at af;split at af <;> omega
 ·intro bM;refine (uR ((Tb S).imp fun h e=>by omega) (by simp [bM])).2 fun v=>?_;have af:=W3 v;rw [aZ] at af;rw [MD];simp only [sj,tW,or_false];constructor
  ·rintro ⟨_,ad⟩;by_cases e1:a=v
   ·exact .inl e1.symm
   ·by_cases ck:c=v
    ·exact .inr ck.symm
    ·rw [if_neg e1,if_neg ck] at af;omega
  ·rintro (rfl | rfl)
   ·rw [if_pos rfl,if_neg (Ne.symm bM)] at af;exact ⟨⟨cd.1,by omega⟩,by omega⟩
   ·rw [if_pos rfl,if_neg bM] at af;exact ⟨⟨ao.1,by omega⟩,by omega⟩
theorem H6.back {a c:Int} {l:Row} (h:H6 b S a c l):H6 b S c a (G5 l):=by
 refine ⟨fun p aC=>?_,Qd l a c (fun p aC=>(h.ok p aC).2.2) h.go,(V1 l).trans h.all⟩;unfold G5 at aC;obtain ⟨q,a3,rfl⟩:=sm.1 (List.mem_reverse.1 aC);have:=h.ok q a3;exact ⟨this.1,this.2.1,by simp only;have:=this.2.2;omega,by simp only;have:=this.2.2;omega⟩
theorem H6.ahR {a f:Int} {l:Row} (h:H6 b S a a l) (aQ:∃ i∈S,qD b i f):∃ l',H6 b S f f l':=by
 obtain ⟨i,hi,kq⟩:=aQ;obtain ⟨p,aC,rfl⟩:=sm.1 (h.all.mem_iff.2 hi);obtain ⟨dJ,kI,rfl⟩:=uT aC;have Hj:=h.go;rw [IA] at Hj;obtain ⟨c,cb,b8⟩:=qa Hj;obtain ⟨dY,hn⟩:=Ii.1 b8;have mk:∀ {x y:Row} {f:Int},x++y=dJ++p::kI→qm b a x=some f→qm b f y=some a→H6 b S f f (y++x):=fun {x y f} e ad af=>by
  have Ic:(y++x).Perm (dJ++p::kI):=by rw [←e];exact List.perm_append_comm
  exact ⟨fun q a3=>h.ok q (Ic.mem_iff.1 a3),by rw [IA,af];exact ad,(Ic.map _).trans h.all⟩
 rcases (Jr p f).1 kq with rfl | rfl
 ·exact ⟨_,mk (x:=dJ) (y:=p::kI) rfl (by rw [dY];exact cb) (by rw [dY];exact b8)⟩
 ·exact ⟨_,mk (x:=dJ++[p]) (y:=kI) (by simp) (by rw [IA,cb];exact JE.2 ⟨dY,rfl⟩) hn⟩
theorem ad7 (p1:qu b) (cm:rr b S) (ak:S.length≤990) (aS:S≠[]) (bI:Lh b S):∃ R,Va b S R:=by
 obtain ⟨l,a,ad,af,aG⟩:=round_part p1 cm ak aS bI;exact ⟨_,XD p1 cm aS af aG⟩
theorem RowsOf.single {R:List Row} (h:RowsOf b S R) (ad:R.length=1):∃ l a c,R=[l]∧H6 b S a c l:=by
 obtain ⟨l,rfl⟩:=List.length_eq_one_iff.1 ad;obtain ⟨a,c,aO⟩:=h.go l (by simp);exact ⟨l,a,c,rfl,h.ok l (by simp),aO,by simpa using h.all⟩
theorem WD (p1:qu b) (cm:rr b S) (ak:S.length≤990) {f:Int}:JU b S f↔∃ l c,H6 b S f c l:=by
 constructor
 ·rintro (rfl | ⟨bI,aQ,aq⟩)
  ·exact ⟨[],f,fun p aC=>absurd aC (by simp),rfl,by simp⟩
  ·(have aS:S≠[]:=fun e=>by obtain ⟨i,hi,_⟩:=aQ;rw [e] at hi;simp at hi);obtain ⟨R,jw⟩:=ad7 p1 cm ak aS bI;have hlen:=jw.len;have ad:R.length=1:=by
    rw [hlen];rcases aq with aq | aq
    ·rw [aq];rfl
    ·rw [aq.1];rfl
   obtain ⟨l,a,c,adX,bX⟩:=jw.toRowsOf.single ad;have jE:l≠[]:=jw.ne l (by rw [adX];simp);have Jb:=bX.Xv p1 jE;rcases aq with aq | ⟨af,aey⟩
   ·have:a=c:=Classical.byContradiction fun bM=>by
     have:=(Jb.2 bM).length_eq;rw [aq] at this;simp at this
    subst this;obtain ⟨l',lM⟩:=bX.ahR aQ;exact ⟨l',f,lM⟩
   ·(have bM:a≠c:=fun e=>by have:=Jb.1 e;rw [this] at af;simp at af);have:=(Jb.2 bM).mem_iff.1 aey;simp only [sj,tW,or_false] at this;rcases this with rfl | rfl
    ·exact ⟨l,c,bX⟩
    ·exact ⟨_,_,bX.back⟩
 ·rintro ⟨l,c,bX⟩;by_cases aS:l=[]
  ·subst aS;left;have:=bX.all.length_eq;simp at this;exact tu.1 this.symm
  ·right;refine ⟨(ah1 bX.go).perm bX.all,(bX.ends p1 aS).2.2.1,?_⟩;have Jb:=bX.Xv p1 aS;by_cases e:f=c
   ·exact .inl (Jb.1 e)
   ·exact .inr ⟨(Jb.2 e).length_eq,(Jb.2 e).mem_iff.2 (by simp)⟩
theorem ZC {s:List Int} {v:Int} (ai:s.length≤1000):∀ (m i:Nat) (z:Int),z=i→i≤s.length→s.length-i<m→Qr s v (fun _=>some (-1:Int)) m z=some (posOf (fun x=>decide (v=x)) (s.drop i) i)
 | 0,i,_,_,_,h=>absurd h (by omega)
 | m+1,i,_,rfl,hi,hm=>by
   rw [Qr];by_cases h:i<s.length
   ·rw [Iz h,G7 h,qW h,sQ h,posOf];by_cases aC:v=s[i]
    ·rw [if_pos (decide_eq_true aC),if_pos (decide_eq_true aC)]
    ·rw [if_neg (by simpa using aC),if_neg (by simpa using aC),rj i (by omega),ZC ai m (i+1) _ rfl (by omega) (by omega)]
   ·rw [Iy h,tc (by omega)];rfl
theorem ajY {s:List Int} {v:Int} (ai:s.length≤1000):UM s v=some (decide (v∈s)):=by
 have:=ZC (v:=v) ai p6 0 0 rfl (sq _) (ri (by omega));rw [sM] at this;rw [UM,ZB,this,r_,Of];congr 1;rw [Bool.eq_iff_iff];simp
def Ly (b:p3) (f i:Int):Bool:=decide ((ix b.2 i).1=f) || decide ((ix b.2 i).2=f)
theorem aex {f i:Int}:Ly b f i=true↔qD b i f:=by unfold Ly qD;simp
theorem ajP (p1:qu b) (cm:rr b S) (aN:S.Nodup) (f:Int):∃ r:Bool,Qn b S f=some r∧(r=true↔JU b S f):=by
 have ak:S.length≤b.2.length:=J_ aN cm;have dy:=p1.len;have alD:(q' b S).length≤6:=sH (tH _ _) (by rw [GN];omega);have lS:=Tc p1 cm;obtain ⟨out,ad,af,_⟩:=aab (b:=b) (S:=S) p1.len aN cm;rw [Qn,UW p1 cm (by omega),r_];by_cases aS:S=[]
 ·rw [if_pos (by simp [aS])];exact ⟨true,rfl,by simp [JU,aS]⟩
 ·rw [if_neg (by simpa using aS)];have ek:=af.one aS
  have WW:JQ S (fun qF=>Qq qF b f)=some (S.any (Ly b f)):=U2 (fun x al=>by
   have nx:=cm x al;rw [Qq,p' nx,p' nx];unfold Ly
   split <;> simp [*]) (by omega)
  have PC:S.any (Ly b f)=true↔∃ i∈S,qD b i f:=by
   rw [uh];simp only [aex]
  by_cases aG:2<(q' b S).length
  ·rw [if_pos (by simp;omega)];refine ⟨false,rfl,?_⟩;simp only [tF,false_iff];rintro (h | ⟨_,_,h | h⟩)
   ·exact aS h
   ·rw [h] at aG;simp at aG
   ·omega
  ·rw [if_neg (by simp;omega)];by_cases a6:(q' b S).length=2
   ·rw [if_pos (by simp [a6]),ajY (by omega),r_];by_cases bL:f∈q' b S
    ·rw [if_pos (decide_eq_true bL),WW,r_];by_cases bV:S.any (Ly b f)=true
     ·rw [if_pos bV,ad,r_];refine ⟨_,rfl,?_⟩;rw [decide_eq_true_eq,show ((out.length:Int)=1↔out.length=1) by omega,ek];exact ⟨fun h=>.inr ⟨h,PC.1 bV,.inr ⟨a6,bL⟩⟩,fun h=>h.elim (fun h=>absurd h aS) fun h=>h.1⟩
     ·rw [if_neg bV];exact ⟨false,rfl,by simp only [tF,false_iff];exact fun h=>h.elim aS fun h=>bV (PC.2 h.2.1)⟩
    ·rw [if_neg (by simpa using bL)];refine ⟨false,rfl,?_⟩;simp only [tF,false_iff];rintro (h | ⟨_,_,h | h⟩)
     ·exact aS h
     ·rw [h] at a6;simp at a6
     ·exact bL h.2
   ·have cN:q' b S=[]:=tu.1 (by omega);rw [if_neg (by simp;omega),WW,r_];by_cases bV:S.any (Ly b f)=true
    ·rw [if_pos bV,ad,r_];refine ⟨_,rfl,?_⟩;rw [decide_eq_true_eq,show ((out.length:Int)=1↔out.length=1) by omega,ek];exact ⟨fun h=>.inr ⟨h,PC.1 bV,.inl cN⟩,fun h=>h.elim (fun h=>absurd h aS) fun h=>h.1⟩
    ·rw [if_neg bV];exact ⟨false,rfl,by simp only [tF,false_iff];exact fun h=>h.elim aS fun h=>bV (PC.2 h.2.1)⟩
end
end Go.Proofs.YtfakoboiahbhaaaGreat.Ab


namespace Go.Proofs.YtfakoboiahbhaaaGreat.Ab
open Go
set_option maxRecDepth 20000
set_option maxHeartbeats 4000000

end Go.Proofs.YtfakoboiahbhaaaGreat.Ab


namespace Go.Proofs.YtfakoboiahbhaaaGreat.Ab
open Go
set_option maxRecDepth 20000
set_option maxHeartbeats 4000000
end Go.Proofs.YtfakoboiahbhaaaGreat.Ab


namespace Go.Proofs.YtfakoboiahbhaaaGreat.Ab
open Go
def LQ (S:List Int) (i:Int):List Int:=S.filter fun x=>decide (x≠i)
def NM (b:p3) (S:List Int) (f:Int):Bool:=(Qn b S f).getD false
def RA (b:p3) (S:List Int) (at_:Int) (p:Int×Int):Bool:=(decide (at_<0) || decide (qo b p=at_)) && NM b (LQ S p.1) (fin b p)
def V5 (b:p3) (S:List Int) (at_ i:Int):Row:=[(i,0),(i,1)].filter (RA b S at_)
def Pe (b:p3) (S:List Int) (at_:Int):Row:=S.flatMap (V5 b S at_)
section
variable {b:p3} {S:List Int}
theorem adP (p1:qu b) (cm:rr b S) (aN:S.Nodup) (f:Int):Qn b S f=some (NM b S f)∧(NM b S f=true↔JU b S f):=by
 obtain ⟨r,ad,af⟩:=ajP p1 cm aN f
 have:NM b S f=r:=by unfold NM;rw [ad];rfl
 rw [this];exact ⟨ad,af⟩
theorem Zn (cm:rr b S) (i:Int):rr b (LQ S i):=fun x al=>cm x (sO.1 al).1
theorem Zo (aN:S.Nodup) (i:Int):(LQ S i).Nodup:=aN.filter _
theorem ajE (aN:S.Nodup) {i:Int} (hi:i∈S):S.Perm (i::LQ S i):=by
 refine (uR aN ?_).2 fun x=>?_
 ·rw [List.nodup_cons];refine ⟨fun h=>?_,Zo aN i⟩;have:=(sO.1 h).2;simp at this
 ·rw [sj,LQ,sO];constructor
  ·intro h;by_cases e:x=i
   ·exact .inl e
   ·exact .inr ⟨h,by simpa using e⟩
  ·rintro (rfl | h)
   ·exact hi
   ·exact h.1
theorem agn {at_:Int} {p:Int×Int}:p∈Pe b S at_↔p.1∈S∧(p.2=0∨p.2=1)∧RA b S at_ p=true:=by
 unfold Pe V5;rw [uZ];constructor
 ·rintro ⟨i,hi,h⟩;rw [sO] at h;obtain ⟨ad,af⟩:=h;simp only [sj,tW,or_false] at ad;rcases ad with rfl | rfl
  ·exact ⟨hi,.inl rfl,af⟩
  ·exact ⟨hi,.inr rfl,af⟩
 ·rintro ⟨ad,af,aG⟩;refine ⟨p.1,ad,sO.2 ⟨?_,aG⟩⟩;obtain ⟨bR,b4⟩:=p;rcases af with af | af
  ·simp only at af;subst af;simp
  ·simp only at af;subst af;simp
def U_ (b:p3) (S:List Int) (at_:Int):Prop:=(at_<0∧∃ f,JU b S f)∨(0≤at_∧JU b S at_)
theorem U_.next (p1:qu b) (cm:rr b S) (aN:S.Nodup) {at_:Int} (h:U_ b S at_) (aS:S≠[]):Pe b S at_≠[]:=by
 have ak:S.length≤990:=sH (J_ aN cm) (by have:=p1.len;omega);obtain ⟨f,aQ,aO⟩:∃ f,(at_<0∨f=at_)∧JU b S f:=by
  rcases h with ⟨ad,f,af⟩ | ⟨_,af⟩
  ·exact ⟨f,.inl ad,af⟩
  ·exact ⟨_,.inr rfl,af⟩
 obtain ⟨l,c,bX⟩:=(WD p1 cm ak).1 aO
 match l,bX with
 | [],bX =>
   have:=bX.all.length_eq;simp at this;exact absurd (tu.1 this.symm) aS
 | p::l,bX =>
   obtain ⟨cb,b8⟩:=Ii.1 bX.go;have aC:=bX.ok p (by simp);have W2:p.1∈S:=bX.all.mem_iff.1 (by simp);have Ic:(l.map (·.1)).Perm (LQ S p.1):=by
    have:=bX.all.trans (ajE aN W2);rw [sx] at this;exact this.cons_inv
   have Hj:JU b (LQ S p.1) (fin b p):=(WD p1 (Zn cm _) (sH (tH _ _) ak)).2 ⟨l,c,fun q a3=>bX.ok q (by simp [a3]),b8,Ic⟩
   have hm:p∈Pe b S at_:=agn.2 ⟨W2,by have:=aC.2.2;omega,by
    unfold RA;rw [(adP p1 (Zn cm _) (Zo aN _) _).2.2 Hj];rcases aQ with aQ | rfl
    ·simp [aQ]
    ·simp [cb]⟩
   intro e;rw [e] at hm;simp at hm
end
end Go.Proofs.YtfakoboiahbhaaaGreat.Ab


namespace Go.Proofs.YtfakoboiahbhaaaGreat.Ab
open Go
section
variable {b:p3} {S:List Int}
theorem Pl:∀ (r pre:Row),((pre++r).map (·.1)).Nodup→GQ pre r=false
 | [],_,_=>rfl
 | p::r,pre,h=>by
   rw [GQ,if_neg]
   ·exact Pl r (pre++[p]) (by simpa using h)
   ·intro al;obtain ⟨q,a3,e⟩:=uh.1 al;have e:=of_decide_eq_true e;rw [sZ,tT] at h;exact h.2.2 q.1 (vA a3) p.1 (by simp) e
theorem Pf (p1:qu b) {r:Row} {a c:Int} (aS:r≠[]) (bO:∀ p∈r,rP b p) (aN:(r.map (·.1)).Nodup) (aO:qm b a r=some c):qV b r=(a,c,0):=by
 unfold qV;rw [if_neg (by rw [G8.2 p1];simp)]
 match r,aS,bO,aN,aO with
 | p::r,_,bO,aN,aO =>
   have ad:((p::r).any (rS b))=false:=by
    rw [uA];intro q a3;rw [Bool.not_eq_true];exact LO.2 (bO q a3)
   have af:GQ [] (p::r)=false:=Pl _ _ (by simpa using aN);have aG:=(Ii.1 aO).1;dsimp only;rw [if_neg (by rw [ad];simp),if_neg (by rw [af];simp),aG,aO]
def HB (b:p3) (rows:List Row):Int×Int:=if qK b≠0 then (0,qK b) else match rows.find? fun r=>decide ((qV b r).2.2≠0) with
 | some r=>(0,(qV b r).2.2)
 | none=>if ((rows.flatten).map (·.1)).Nodup then (if (rows.flatten).length≠b.2.length then (0,15) else (rows.length,0)) else (0,11)
theorem ac3 (p1:qu b) {R:List Row} (jw:RowsOf b (upto b.2.length) R) (bM:∀ r∈R,r≠[]):HB b R=((R.length:Int),0):=by
 have jG:((R.flatten).map (·.1)).Nodup:=jw.all.nodup_iff.2 (Jk _);have ak:=jw.all.length_eq;rw [sV,GN] at ak;unfold HB;have aQ:(R.find? fun r=>decide ((qV b r).2.2≠0))=none:=vd.2 fun r aj=>by
  obtain ⟨a,c,aO⟩:=jw.go r aj;have yX:(r.map (·.1)).Sublist ((R.flatten).map (·.1)):=by
   refine List.Sublist.map _ ?_;obtain ⟨s,t,rfl⟩:=uT aj;simp
  rw [Pf p1 (bM r aj) (jw.ok r aj) (yX.nodup jG) aO];simp
 rw [if_neg (by rw [G8.2 p1];simp),aQ];simp only;rw [if_pos jG,if_neg (by omega)]
end
end Go.Proofs.YtfakoboiahbhaaaGreat.Ab


namespace Go.Proofs.YtfakoboiahbhaaaGreat.Ab
open Go
set_option maxRecDepth 20000
set_option maxHeartbeats 4000000
noncomputable def QU:ey :=
 .loop (some (Ez false [1,2,3,2,57])) (.seq (Gz [Gn 17 7,Gn 18 1,Gk 19 18,F1 20 17 19 .lss] (.cond (.sl 20) .skip (.exit 0))) (.seq (.block 1 (.seq (Gt [gL 24 [.sl 2] (.pT (.str 2)),Gn 25 1,Gn 26 7,Gh 27 25 26 1,Gl 28 27,gL 29 [.iA (.func 19 [] []),.sl 24,.sl 28] (.call 3),Gp 23 29,GJ 30 23 0,GJ 31 23 1,GJ 32 23 2,Gp 8 30,Gp 9 31,Gp 10 32]) (.seq (Gz [Gn 33 10,F0 34 33 0 .neq] (.cond (.sl 34) (Gz [Gp 35 10,Gm 4 0,Gp 5 35] .ret) .skip)) (Gs [Gp 36 6,Gn 37 1,Gn 38 7,Gh 39 37 38 1,Gl 40 39,gL 41 [.hG 36,.hG 40] (.app 2 16),Gp 6 41])))) (Gs [Gp 21 7,FZ 22 21 1,Gp 7 22])))
noncomputable def QV:ey :=
 .loop (some (Ez false [1,2,3,1,4,1,53])) (.seq (Gz [Gn 42 11,Gn 43 6,Gk 44 43,F1 45 42 44 .lss] (.cond (.sl 45) .skip (.exit 2))) (.seq (.block 3 (.seq (Gt [Gn 48 6,Gn 49 11,gL 50 [.hG 48,.hG 49] (.AX 2 false true false),Gn 51 6,Gn 52 11,Gh 53 51 52 2,F6 54 53 0,Gl 55 54,gL 56 [.iA (.func 69 [] []),.sl 50,.sl 55] (.call 3)]) (.cond (.sl 56) (Gz [Gm 4 0,Gm 5 11] .ret) .skip))) (Gs [Gp 46 11,FZ 47 46 1,Gp 11 47])))
noncomputable def aaE:ey :=
 Gz [gL 2 [.hG 0] .box,Gm 4 0,Gm 5 0] (.seq (Gz [gL 12 [.sl 2] (.pT (.str 2)),gL 13 [.iA (.func 21 [] []),.sl 12] (.call 3),F0 14 13 0 .neq] (.cond (.sl 14) (Gz [gL 15 [.hJ 2] (.pT (.str 2)),gL 16 [.iA (.func 21 [] []),.sl 15] (.call 3),Gm 4 0,Gp 5 16] .ret) .skip)) (Gz [gL 6 [.iA (.ay [] 0 .full)] (.nil 2)] (.seq (Gz [Gm 7 0] (.block 0 QU)) (.seq (Gz [Gm 11 0] (.block 2 QV)) (.seq (Gz [Gp 57 6,Gk 58 57,F6 59 2 1,Gl 60 59,Gk 61 60,F1 62 58 61 .neq] (.cond (.sl 62) (Gz [Gm 4 0,Gm 5 15] .ret) .skip)) (Gz [Gp 63 1,Gk 64 63,Gp 4 64,Gm 5 0] .ret))))))
theorem afN:zf Tryz.prog O9 26=some (aaE,65,[.tmp 4,.tmp 5]):=by kernel_rfl
def L2 (b:qb) (rows:qx) (p9:p_→Option (Int×Int)):Nat→p_→Int→Option (Int×Int)
 | 0,_,_=>none
 | m+1,s1,s2 =>
   if (decide (s2<(rows.length:Int)))=true then
    p5 (0≤s2∧s2<(rows.length:Int)) <|
    (K3 b (ix rows s2)).bind fun r3 =>
    if (decide (r3.2.2≠(0:Int)))=true then
     some ((0:Int),r3.2.2)
    else
     p5 (0≤s2∧s2<(rows.length:Int)) <|
     p5 ((s1.length+(ix rows s2).length)*16≤140737488355328) <|
     L2 b rows p9 m (s1++(ix rows s2)) (w (s2+(1:Int)))
   else
    p9 s1
def L3 (xZ:p_) (qq:Unit→Option (Int×Int)):Nat→Int→Option (Int×Int)
 | 0,_=>none
 | m+1,s3 =>
   if (decide (s3<(xZ.length:Int)))=true then
    p5 (0≤s3∧s3≤(xZ.length:Int)) <|
    p5 (0≤s3∧s3<(xZ.length:Int)) <|
    (M9 (xZ.take s3.toNat) ((ix xZ s3).1)).bind fun r4 =>
    if r4=true then
     some ((0:Int),(11:Int))
    else
     L3 xZ qq m (w (s3+(1:Int)))
   else
    qq ()
def OD (b:qb) (rows:qx):Option (Int×Int) :=
 (Jm b).bind fun r1 =>
 if (decide (r1≠(0:Int)))=true then
  (Jm b).bind fun r2 =>
  some ((0:Int),r2)
 else
  L2 b rows (fun xZ =>
    L3 xZ (fun _ =>
      if (decide ((xZ.length:Int)≠(b.2.length:Int)))=true then
       some ((0:Int),(15:Int))
      else
       some ((rows.length:Int),(0:Int))) p6 (0:Int)) p6 ([]:List (Int×Int)) (0:Int)
theorem akf {b:qb} {rows:qx} {p9:p_→Option (Int×Int)} {s1:p_} {s2:Int} {v:(Int×Int)} {Q:qY}   (jw:qv [.tmp 4,.tmp 5] Q (fun v=>(.tuple [(hP v.1),(hP v.2)])) v) (q7:∀ (xZ:p_) (p4:List I),p9 xZ=some v→qI 65 [(1,(.ay (rows.map (qB pY)) rows.length .shared)),(2,(.ptr 0 0)),(6,(p2 xZ (.uniq 2)))] p4→Q (.exit 0) p4 [rz b]) {T:List I} (bX:eQ (Ez false [1,2,3,2,57]) T=GG 65 [(1,(.ay (rows.map (qB pY)) rows.length .shared)),(2,(.ptr 0 0)),(6,(p2 s1 (.uniq 2))),(7,(hP s2))]) (h:L2 b rows p9 p6 s1 s2=some v) :
  dB Tryz.prog O9 26 0 none QU T [rz b] Q:=by
 unfold QU;refine wp_loop bX ?_;refine .intro (fun m T H=>∃ (s1:p_) (s2:Int),T=GG 65 [(1,(.ay (rows.map (qB pY)) rows.length .shared)),(2,(.ptr 0 0)),(6,(p2 s1 (.uniq 2))),(7,(hP s2))]∧H=[rz b]∧L2 b rows p9 m s1 s2=some v) p6 ⟨s1,s2,rfl,rfl,h⟩ ?_;clear h bX;rintro m T H ⟨s1,s2,rfl,rfl,h⟩;cases m
 ·exact qT h
 rename_i m;rw [L2.eq_2] at h;conv=>whnf
 refine bs h (fun qw h=>?_) fun qw h=>?_
 ·rw [qw];conv=>whnf
  refine qj h id fun qC h=>?_;rw [rJ (qB pY) rows s2 qC];conv=>whnf
  obtain ⟨r3,rk,h⟩:=qa h;refine ⟨qc.pl,_,UO rk,HM,?_⟩;conv=>whnf
  refine bs h (fun qM h=>?_) fun qM h=>?_
  ·rw [qM];(conv=>whnf);exact p7 h jw rfl rfl
  ·rw [qM];(conv=>whnf);refine qj h id fun qP h=>?_;rw [rJ (qB pY) rows s2 qP];(conv=>whnf);obtain ⟨q3,h⟩:=qn h;refine ⟨by first | rfl | (simp;done) | exact G0 pY _ ql _,by have:=q3;omega,rfl,q3,?_⟩
   erw [VW pY s1 (ix rows s2)];(conv=>whnf);exact ⟨m,sf m,(s1++(ix rows s2)),(w (s2+(1:Int))),rfl,rfl,h⟩
 ·rw [qw];conv=>whnf
  exact q7 _ _ h ⟨rfl,rfl⟩
theorem akg {xZ:p_} {qq:Unit→Option (Int×Int)} {s3:Int} {b:qb} {rows:qx} {v:(Int×Int)} {Q:qY}   {JZ:il} (jw:qv [.tmp 4,.tmp 5] Q (fun v=>(.tuple [(hP v.1),(hP v.2)])) v) (Hk:∀ (p4:List I),qq ()=some v→qI 65 [(1,(.ay (rows.map (qB pY)) rows.length .shared)),(2,(.ptr 0 0)),(6,(p2 xZ (.own 2)))] p4→Q (.exit 2) p4 [rz b]) (SE:(JZ=(.uniq 2)∨JZ=(.own 2))) {T:List I} (bX:eQ (Ez false [1,2,3,1,4,1,53]) T=GG 65 [(1,(.ay (rows.map (qB pY)) rows.length .shared)),(2,(.ptr 0 0)),(6,(.ay (xZ.flatMap pY) xZ.length JZ)),(11,(hP s3))]) (h:L3 xZ qq p6 s3=some v) :
  dB Tryz.prog O9 26 0 none QV T [rz b] Q:=by
 unfold QV;refine wp_loop bX ?_;refine .intro (fun m T H=>∃ (s3:Int) (JZ:il),(JZ=(.uniq 2)∨JZ=(.own 2))∧T=GG 65 [(1,(.ay (rows.map (qB pY)) rows.length .shared)),(2,(.ptr 0 0)),(6,(.ay (xZ.flatMap pY) xZ.length JZ)),(11,(hP s3))]∧H=[rz b]∧L3 xZ qq m s3=some v) p6 ⟨s3,_,SE,rfl,rfl,h⟩ ?_;clear h bX;rintro m T H ⟨s3,JZ,SE,rfl,rfl,h⟩;cases m
 ·exact qT h
 rename_i m;rw [L3.eq_2] at h;rcases SE with rfl | rfl
 ·conv=>whnf
  refine bs h (fun qG h=>?_) fun qG h=>?_
  ·rw [qG];(conv=>whnf);refine qj h id fun rE h=>?_;erw [MW pY 2 ql xZ s3 rE];(conv=>whnf);refine qj h id fun rh h=>?_;rw [qU pY 2 ql xZ s3 rh];(conv=>whnf);obtain ⟨r4,rm,h⟩:=qa h;refine ⟨qc.pl,_,UU rm,HM,?_⟩;(conv=>whnf);cases r4
   ·(conv=>whnf);replace h:=GV rfl h;exact ⟨m,sf m,(w (s3+(1:Int))),_,(.inr rfl),rfl,rfl,h⟩
   ·(conv=>whnf);replace h:=GX rfl h;exact p7 h jw rfl rfl
  ·rw [qG];(conv=>whnf);exact Hk  _ h ⟨rfl,rfl⟩
 ·conv=>whnf
  refine bs h (fun qG h=>?_) fun qG h=>?_
  ·rw [qG];(conv=>whnf);refine qj h id fun rE h=>?_;erw [MW pY 2 ql xZ s3 rE];(conv=>whnf);refine qj h id fun rh h=>?_;rw [qU pY 2 ql xZ s3 rh];(conv=>whnf);obtain ⟨r4,rm,h⟩:=qa h;refine ⟨qc.pl,_,UU rm,HM,?_⟩;(conv=>whnf);cases r4
   ·(conv=>whnf);replace h:=GV rfl h;exact ⟨m,sf m,(w (s3+(1:Int))),_,(.inr rfl),rfl,rfl,h⟩
   ·(conv=>whnf);replace h:=GX rfl h;exact p7 h jw rfl rfl
  ·rw [qG];(conv=>whnf);exact Hk  _ h ⟨rfl,rfl⟩
theorem akh {b:qb} {rows:qx} {v:(Int×Int)} (h:OD b rows=some v):qp 26 [(.agg [(hP b.1),(.ay (b.2.flatMap pY) b.2.length .shared)]),(.ay (rows.map (qB pY)) rows.length .shared)] (.tuple [(hP v.1),(hP v.2)]):=by
 refine qN dH afN rfl (Ih (pZ rfl (pZ rfl rfl))) fun Q bl=>?_;have jw:qv [.tmp 4,.tmp 5] Q (fun v=>(.tuple [(hP v.1),(hP v.2)])) v:=fun T H bI=>bl _ T H bI;unfold OD at h;unfold aaE;obtain ⟨Hd,qy⟩:∃ c,QU=c:=⟨_,rfl⟩;rw [qy];obtain ⟨I3,ru⟩:∃ c,QV=c:=⟨_,rfl⟩;rw [ru];conv=>whnf
 obtain ⟨r1,eT,h⟩:=qa h;refine ⟨qc.pl,_,OC eT,?_⟩;conv=>whnf
 refine bs h (fun fj h=>?_) fun fj h=>?_
 ·rw [fj];conv=>whnf
  obtain ⟨r2,qk,h⟩:=qa h;refine ⟨qc.pl,_,OC qk,?_⟩;conv=>whnf
  exact p7 h jw rfl rfl
 ·rw [fj];conv=>whnf
  subst qy;refine akf ?_ ?_ (by exact rfl) h
  ·exact fun T H bI=>jw T H bI
  ·intro xZ p4 h qf;obtain ⟨qE,rfl⟩:=qf.ex;(conv=>whnf);subst ru;refine akg ?_ ?_ (.inl rfl) (by exact rfl) h
   ·exact fun T H bI=>jw T H bI
   ·intro  p4 h qf;obtain ⟨qE,rfl⟩:=qf.ex;(conv=>whnf);refine bs h (fun rM h=>?_) fun rM h=>?_
    ·rw [rM];(conv=>whnf);exact p7 h jw rfl rfl
    ·rw [rM];(conv=>whnf);exact p7 h jw rfl rfl

noncomputable def QT:ey :=
 .loop (some (Ez false [0,1,2,2,17])) (.seq (Gz [Gn 7 4,Gn 8 0,Gk 9 8,F1 10 7 9 .lss] (.cond (.sl 10) .skip (.exit 0))) (.seq (.block 1 (Gs [Gp 13 3,Gn 14 0,Gn 15 4,Gh 16 14 15 1,Gl 17 16,Gk 18 17,gL 19 [.hG 13,.hG 18] .max,Gp 3 19])) (Gs [Gp 11 4,FZ 12 11 1,Gp 4 12])))
noncomputable def aaD:ey :=
 Gz [gL 2 [.iA (.bool false)] .iQ] (Gz [Gn 5 0,Gk 6 5,Gp 3 6] (.seq (Gz [Gm 4 0] (.block 0 QT)) (Gz [Gp 20 3,F0 21 20 14 .gtr,Gp 2 21] .ret)))
theorem afM:zf Tryz.prog Rm 24=some (aaD,22,[.tmp 2]):=by kernel_rfl
def L1 (l:qx) (p9:Int→Option Bool):Nat→Int→Int→Option Bool
 | 0,_,_=>none
 | m+1,s1,s2 =>
   if (decide (s2<(l.length:Int)))=true then
    p5 (0≤s2∧s2<(l.length:Int)) <|
    L1 l p9 m (max s1 ((ix l s2).length:Int)) (w (s2+(1:Int)))
   else
    p9 s1
def M4 (l:qx):Option Bool :=
 L1 l (fun xZ =>
   some (decide ((14:Int)<xZ))) p6 (l.length:Int) (0:Int)
theorem aj_ {l:qx} {p9:Int→Option Bool} {s1:Int} {s2:Int} {v:Bool} {Q:qY}   (q7:∀ (xZ:Int) (p4:List I),p9 xZ=some v→qI 22 [(3,(hP xZ))] p4→Q (.exit 0) p4 []) {T:List I} (bX:eQ (Ez false [0,1,2,2,17]) T=GG 22 [(0,(.ay (l.map (qB pY)) l.length .shared)),(3,(hP s1)),(4,(hP s2))]) (h:L1 l p9 p6 s1 s2=some v) :
  dB Tryz.prog Rm 24 0 none QT T [] Q:=by
 unfold QT;refine wp_loop bX ?_;refine .intro (fun m T H=>∃ (s1 s2:Int),T=GG 22 [(0,(.ay (l.map (qB pY)) l.length .shared)),(3,(hP s1)),(4,(hP s2))]∧H=[]∧L1 l p9 m s1 s2=some v) p6 ⟨s1,s2,rfl,rfl,h⟩ ?_;clear h bX;rintro m T H ⟨s1,s2,rfl,rfl,h⟩;cases m
 ·exact qT h
 rename_i m;rw [L1.eq_2] at h;conv=>whnf
 refine bs h (fun eT h=>?_) fun eT h=>?_
 ·rw [eT];conv=>whnf
  refine qj h id fun fj h=>?_;rw [rJ (qB pY) l s2 fj];conv=>whnf
  exact ⟨m,sf m,(max s1 ((ix l s2).length:Int)),(w (s2+(1:Int))),rfl,rfl,h⟩
 ·rw [eT];conv=>whnf
  exact q7 _ _ h ⟨rfl,rfl⟩
theorem akb {l:qx} {v:Bool} (h:M4 l=some v):qp 24 [(.ay (l.map (qB pY)) l.length .shared)] (B v):=by
 refine qN dH afM rfl rfl fun Q bl=>?_;have jw:qv [.tmp 2] Q (fun v=>(B v)) v:=fun T H bI=>bl _ T H bI;unfold M4 at h;unfold aaD;obtain ⟨Hd,qy⟩:∃ c,QT=c:=⟨_,rfl⟩;rw [qy];conv=>whnf
 subst qy;refine aj_ ?_ (by exact rfl) h;intro xZ p4 h qf;obtain ⟨qE,rfl⟩:=qf.ex;conv=>whnf
 exact p7 h jw rfl rfl

noncomputable def QY:ey :=
 .loop (some (Ez false [0,2,3,1,20])) (.seq (Gz [Gn 11 5,Gn 12 0,Gk 13 12,F1 14 11 13 .lss] (.cond (.sl 14) .skip (.exit 0))) (.seq (.block 1 (.seq (Gt [Gn 17 0,Gn 18 5,Gh 19 17 18 1,Gl 20 19,Gn 21 1,Gn 22 5,Gh 23 21 22 1,Gl 24 23,F1 25 20 24 .neq]) (.cond (.sl 25) (Gz [gL 4 [.iA (.bool false)] .iQ] .ret) .skip))) (Gs [Gp 15 5,FZ 16 15 1,Gp 5 16])))
noncomputable def aaI:ey :=
 Gz [gL 4 [.iA (.bool false)] .iQ] (.seq (Gz [Gn 6 0,Gk 7 6,Gn 8 1,Gk 9 8,F1 10 7 9 .neq] (.cond (.sl 10) (Gz [gL 4 [.iA (.bool false)] .iQ] .ret) .skip)) (.seq (Gz [Gm 5 0] (.block 0 QY)) (Gz [gL 4 [.iA (.bool true)] .iQ] .ret)))
theorem afR:zf Tryz.prog Rn 33=some (aaI,26,[.tmp 4]):=by kernel_rfl
def L5 (a b:p8) (p9:Unit→Option Bool):Nat→Int→Option Bool
 | 0,_=>none
 | m+1,s1 =>
   if (decide (s1<(a.length:Int)))=true then
    p5 (0≤s1∧s1<(a.length:Int)) <|
    p5 (0≤s1∧s1<(b.length:Int)) <|
    if (decide ((ix a s1)≠(ix b s1)))=true then
     some false
    else
     L5 a b p9 m (w (s1+(1:Int)))
   else
    p9 ()
def L4 (a b:p8):Option Bool :=
 if (decide ((a.length:Int)≠(b.length:Int)))=true then
  some false
 else
  L5 a b (fun _ =>
    some true) p6 (0:Int)
theorem akm {a:p8} {b:p8} {p9:Unit→Option Bool} {s1:Int} {v:Bool} {Q:qY}   (jw:qv [.tmp 4] Q (fun v=>(B v)) v) (q7:∀ (p4:List I),p9 ()=some v→qI 26 [] p4→Q (.exit 0) p4 []) {T:List I} (bX:eQ (Ez false [0,2,3,1,20]) T=GG 26 [(0,(qg a .shared)),(1,(qg b .shared)),(5,(hP s1))]) (h:L5 a b p9 p6 s1=some v) :
  dB Tryz.prog Rn 33 0 none QY T [] Q:=by
 unfold QY;refine wp_loop bX ?_;refine .intro (fun m T H=>∃ (s1:Int),T=GG 26 [(0,(qg a .shared)),(1,(qg b .shared)),(5,(hP s1))]∧H=[]∧L5 a b p9 m s1=some v) p6 ⟨s1,rfl,rfl,h⟩ ?_;clear h bX;rintro m T H ⟨s1,rfl,rfl,h⟩;cases m
 ·exact qT h
 rename_i m;rw [L5.eq_2] at h;conv=>whnf
 refine bs h (fun fj h=>?_) fun fj h=>?_
 ·rw [fj];conv=>whnf
  refine qj h id fun qk h=>?_;rw [rJ hP a s1 qk];conv=>whnf
  refine qj h id fun qw h=>?_;rw [rJ hP b s1 qw];conv=>whnf
  refine bs h (fun qC h=>?_) fun qC h=>?_
  ·rw [qC];(conv=>whnf);exact p7 h jw rfl rfl
  ·rw [qC];(conv=>whnf);exact ⟨m,sf m,(w (s1+(1:Int))),rfl,rfl,h⟩
 ·rw [fj];conv=>whnf
  exact q7  _ h ⟨rfl,rfl⟩
theorem OG {a:p8} {b:p8} {v:Bool} (h:L4 a b=some v):qp 33 [(.ay (a.map hP) a.length .shared),(.ay (b.map hP) b.length .shared)] (B v):=by
 refine qN dH afR rfl rfl fun Q bl=>?_;have jw:qv [.tmp 4] Q (fun v=>(B v)) v:=fun T H bI=>bl _ T H bI;unfold L4 at h;unfold aaI;obtain ⟨Hd,qy⟩:∃ c,QY=c:=⟨_,rfl⟩;rw [qy];conv=>whnf
 refine bs h (fun eT h=>?_) fun eT h=>?_
 ·rw [eT];conv=>whnf
  exact p7 h jw rfl rfl
 ·rw [eT];conv=>whnf
  subst qy;refine akm ?_ ?_ (by exact rfl) h
  ·exact fun T H bI=>jw T H bI
  ·intro  p4 h qf;obtain ⟨qE,rfl⟩:=qf.ex;(conv=>whnf);exact p7 h jw rfl rfl

noncomputable def QZ:ey :=
 .loop (some (Ez false [0,2,3,1,21])) (.seq (Gz [Gn 11 5,Gn 12 0,Gk 13 12,F1 14 11 13 .lss] (.cond (.sl 14) .skip (.exit 0))) (.seq (.block 1 (.seq (Gt [Gn 17 0,Gn 18 5,Gh 19 17 18 1,Gl 20 19,Gn 21 1,Gn 22 5,Gh 23 21 22 1,Gl 24 23,gL 25 [.iA (.func 33 [] []),.sl 20,.sl 24] (.call 3),gL 26 [.hJ 25] (.un .not)]) (.cond (.sl 26) (Gz [gL 4 [.iA (.bool false)] .iQ] .ret) .skip))) (Gs [Gp 15 5,FZ 16 15 1,Gp 5 16])))
noncomputable def aaJ:ey :=
 Gz [gL 4 [.iA (.bool false)] .iQ] (.seq (Gz [Gn 6 0,Gk 7 6,Gn 8 1,Gk 9 8,F1 10 7 9 .neq] (.cond (.sl 10) (Gz [gL 4 [.iA (.bool false)] .iQ] .ret) .skip)) (.seq (Gz [Gm 5 0] (.block 0 QZ)) (Gz [gL 4 [.iA (.bool true)] .iQ] .ret)))
theorem afS:zf Tryz.prog Ro 34=some (aaJ,27,[.tmp 4]):=by kernel_rfl
def L6 (a b:rB) (p9:Unit→Option Bool):Nat→Int→Option Bool
 | 0,_=>none
 | m+1,s1 =>
   if (decide (s1<(a.length:Int)))=true then
    p5 (0≤s1∧s1<(a.length:Int)) <|
    p5 (0≤s1∧s1<(b.length:Int)) <|
    (L4 (ix a s1) (ix b s1)).bind fun r1 =>
    if r1=true then
     L6 a b p9 m (w (s1+(1:Int)))
    else
     some false
   else
    p9 ()
def OH (a b:rB):Option Bool :=
 if (decide ((a.length:Int)≠(b.length:Int)))=true then
  some false
 else
  L6 a b (fun _ =>
    some true) p6 (0:Int)
theorem akn {a:rB} {b:rB} {p9:Unit→Option Bool} {s1:Int} {v:Bool} {Q:qY}   (jw:qv [.tmp 4] Q (fun v=>(B v)) v) (q7:∀ (p4:List I),p9 ()=some v→qI 27 [] p4→Q (.exit 0) p4 []) {T:List I} (bX:eQ (Ez false [0,2,3,1,21]) T=GG 27 [(0,(.ay (a.map jh) a.length .shared)),(1,(.ay (b.map jh) b.length .shared)),(5,(hP s1))]) (h:L6 a b p9 p6 s1=some v) :
  dB Tryz.prog Ro 34 0 none QZ T [] Q:=by
 unfold QZ;refine wp_loop bX ?_;refine .intro (fun m T H=>∃ (s1:Int),T=GG 27 [(0,(.ay (a.map jh) a.length .shared)),(1,(.ay (b.map jh) b.length .shared)),(5,(hP s1))]∧H=[]∧L6 a b p9 m s1=some v) p6 ⟨s1,rfl,rfl,h⟩ ?_;clear h bX;rintro m T H ⟨s1,rfl,rfl,h⟩;cases m
 ·exact qT h
 rename_i m;rw [L6.eq_2] at h;conv=>whnf
 refine bs h (fun fj h=>?_) fun fj h=>?_
 ·rw [fj];conv=>whnf
  refine qj h id fun qk h=>?_;rw [rJ jh a s1 qk];conv=>whnf
  refine qj h id fun qw h=>?_;rw [rJ jh b s1 qw];conv=>whnf
  obtain ⟨r1,qC,h⟩:=qa h;refine ⟨qc.pl,_,OG qC,HM,?_⟩;conv=>whnf
  cases r1
  ·(conv=>whnf);replace h:=GV rfl h;exact p7 h jw rfl rfl
  ·(conv=>whnf);replace h:=GX rfl h;exact ⟨m,sf m,(w (s1+(1:Int))),rfl,rfl,h⟩
 ·rw [fj];conv=>whnf
  exact q7  _ h ⟨rfl,rfl⟩
theorem ZT {a:rB} {b:rB} {v:Bool} (h:OH a b=some v):qp 34 [(.ay (a.map jh) a.length .shared),(.ay (b.map jh) b.length .shared)] (B v):=by
 refine qN dH afS rfl rfl fun Q bl=>?_;have jw:qv [.tmp 4] Q (fun v=>(B v)) v:=fun T H bI=>bl _ T H bI;unfold OH at h;unfold aaJ;obtain ⟨Hd,qy⟩:∃ c,QZ=c:=⟨_,rfl⟩;rw [qy];conv=>whnf
 refine bs h (fun eT h=>?_) fun eT h=>?_
 ·rw [eT];conv=>whnf
  exact p7 h jw rfl rfl
 ·rw [eT];conv=>whnf
  subst qy;refine akn ?_ ?_ (by exact rfl) h
  ·exact fun T H bI=>jw T H bI
  ·intro  p4 h qf;obtain ⟨qE,rfl⟩:=qf.ex;(conv=>whnf);exact p7 h jw rfl rfl
end Go.Proofs.YtfakoboiahbhaaaGreat.Ab


namespace Go.Proofs.YtfakoboiahbhaaaGreat.Ab
open Go
section
variable {b:p3}
theorem ZN {xZ:Row} (bm:xZ.length≤100000) (ai:∀ i:Nat,i<xZ.length→(xZ.take i).length≤1000) {k:Unit→Option (Int×Int)}:∀ (m i:Nat) (z:Int),z=i→i≤xZ.length→xZ.length-i<m→L3 xZ k m z=if GQ (xZ.take i) (xZ.drop i)=true then some (0,11) else k ()
 | 0,_,_,_,_,h=>absurd h (by omega)
 | m+1,i,_,rfl,hi,hm=>by
   rw [L3];by_cases h:(i:Int)<(xZ.length:Int)
   ·(have qJ:i<xZ.length:=by omega);rw [if_pos (decide_eq_true h),p' ⟨by omega,by omega⟩,p' ⟨by omega,h⟩,qW qJ,te,Z6 _ _ (ai i qJ),r_,sQ qJ,GQ];by_cases aZ:((xZ.take i).any fun q=>decide (q.1=xZ[i].1))=true
    ·rw [if_pos aZ,if_pos aZ,if_pos rfl]
    ·rw [if_neg aZ,if_neg aZ,rj i (by omega),ZN bm ai m (i+1) _ rfl (by omega) (by omega),Ki qJ]
   ·rw [if_neg (by simpa using h),tc (by omega),GQ,if_neg (by simp)]
theorem ZM (ag:b.2.length≤1000) {rows:List Row} (aj:rows.length≤1000) (C3:∀ r∈rows,r.length≤1000) {k:Row→Option (Int×Int)}:∀ (m i:Nat) (z:Int) (acc:Row),z=i→i≤rows.length→rows.length-i<m→acc.length≤1000*i →
  L2 b rows k m acc z=match (rows.drop i).find? fun r=>decide ((qV b r).2.2≠0) with | some r=>some (0,(qV b r).2.2) | none=>k (acc++(rows.drop i).flatten)
 | 0,_,_,_,_,_,h,_=>absurd h (by omega)
 | m+1,i,_,acc,rfl,hi,hm,cd=>by
   rw [L2];by_cases h:(i:Int)<(rows.length:Int)
   ·(have qJ:i<rows.length:=by omega);have ak:=C3 _ (sD qJ);rw [if_pos (decide_eq_true h),p' ⟨by omega,h⟩,qW qJ,ZF b _ ag ak,r_,sQ qJ,List.find?_cons];by_cases ao:(qV b rows[i]).2.2≠0
    ·rw [if_pos (decide_eq_true ao),decide_eq_true ao]
    ·rw [if_neg (by simpa using ao),decide_eq_false ao,p' ⟨by omega,h⟩,p' (by omega),rj i (by omega),ZM ag aj C3 m (i+1) _ _ rfl (by omega) (by omega) (by rw [su];omega),tS,sA]
   ·rw [if_neg (by simpa using h),tc (by omega)];simp
theorem RI:∀ {rows:List Row} {n:Nat},(∀ r∈rows,r.length≤n)→rows.flatten.length≤n*rows.length
 | [],_,_=>by simp
 | r::rows,n,h=>by
   have ad:=h r (by simp);have af:=RI fun q a3=>h q (tR _ a3);rw [tS,su,sL,Nat.mul_add];omega
theorem ake (ag:b.2.length≤1000) {rows:List Row} (aj:rows.length≤20) (C3:∀ r∈rows,r.length≤20):OD b rows=some (HB b rows):=by
 rw [OD,UP b ag,r_];unfold HB;by_cases h:qK b=0
 ·have pa:=RI C3;rw [if_neg (by simp [h]),if_neg (by simp [h]),ZM ag (by omega) (fun r aj=>sH (C3 r aj) (by omega)) p6 0 0 [] rfl (by omega) (ri (by omega)) (by simp),sM];cases (rows.find? fun r=>decide ((qV b r).2.2≠0)) with
  | some r=>rfl
  | none =>
    simp only [List.nil_append];rw [ZN (by omega) (fun i _=>by rw [sY];omega) p6 0 0 rfl (by omega) (ri (by omega)),tq,sM];by_cases aN:(rows.flatten.map (·.1)).Nodup
    ·rw [if_pos aN,Pl _ _ (by simpa using aN),if_neg (by simp)];by_cases ak:rows.flatten.length≠b.2.length
     ·rw [if_pos ak,if_pos (show decide ((rows.flatten.length:Int)≠(b.2.length:Int))=true by simp only [decide_eq_true_eq];omega)]
     ·rw [if_neg ak,if_neg (show ¬ decide ((rows.flatten.length:Int)≠(b.2.length:Int))=true by simp only [decide_eq_true_eq];omega)]
    ·rw [if_neg aN]
     have:GQ [] rows.flatten=true:=by
      cases aZ:GQ [] rows.flatten with
      | true=>rfl
      | false=>exact absurd (by simpa using Pk _ _ aZ (by simp)) aN
     rw [this,if_pos rfl]
 ·rw [if_pos (by simpa using h),if_pos h,r_]
theorem ZL {l:List Row} (ak:l.length≤9223372036854775807) {k:Int→Option Bool}:∀ (m i:Nat) (z a:Int),z=i→i≤l.length→l.length-i<m →
  ∃ aM,L1 l k m a z=k aM∧(14<aM↔14<a∨∃ r∈l.drop i,14<r.length)
 | 0,_,_,_,_,_,h=>absurd h (by omega)
 | m+1,i,_,a,rfl,hi,hm=>by
   rw [L1];by_cases h:(i:Int)<(l.length:Int)
   ·(have qJ:i<l.length:=by omega);rw [if_pos (decide_eq_true h),p' ⟨by omega,h⟩,qW qJ,rj i (by omega)];obtain ⟨aM,ad,af⟩:=ZL ak (k:=k) m (i+1) _ (max a (l[i].length:Int)) rfl (by omega) (by omega);refine ⟨aM,ad,?_⟩;rw [af,sQ qJ];constructor
    ·rintro (h | ⟨r,aj,h⟩)
     ·by_cases ao:14<a
      ·exact .inl ao
      ·exact .inr ⟨_,ud,by omega⟩
     ·exact .inr ⟨r,tR _ aj,h⟩
    ·rintro (h | ⟨r,aj,h⟩)
     ·exact .inl (by omega)
     ·rcases sj.1 aj with rfl | aj
      ·exact .inl (by omega)
      ·exact .inr ⟨r,aj,h⟩
   ·rw [if_neg (by simpa using h),tc (by omega)];exact ⟨a,rfl,by simp⟩
theorem aj9 {l:List Row} (ak:l.length≤9223372036854775807):∃ r:Bool,M4 l=some r∧(r=true↔14<l.length∨∃ q∈l,14<q.length):=by
 rw [M4];obtain ⟨aM,ad,af⟩:=ZL ak (k:=fun xZ=>some (decide ((14:Int)<xZ))) p6 0 0 (l.length:Int) rfl (by omega) (ri (by omega));refine ⟨_,ad,?_⟩;rw [decide_eq_true_eq,af,sM];constructor
 ·rintro (h | h)
  ·exact .inl (by omega)
  ·exact .inr h
 ·rintro (h | h)
  ·exact .inl (by omega)
  ·exact .inr h
theorem aka {l:List Row} (ak:l.length≤14) (h:∀ r∈l,r.length≤14):M4 l=some false:=by
 obtain ⟨r,ad,af⟩:=aj9 (l:=l) (by omega);rw [ad];cases r with
 | false=>rfl
 | true =>
   rcases af.1 rfl with aG | ⟨q,a3,aG⟩
   ·omega
   ·have:=h q a3;omega
theorem ZR {a:List Int} (cd:a.length≤1000):∀ (m i:Nat) (z:Int),z=i→i≤a.length→a.length-i<m→L5 a a (fun _=>some true) m z=some true
 | 0,_,_,_,_,h=>absurd h (by omega)
 | m+1,i,_,rfl,hi,hm=>by
   rw [L5];by_cases h:(i:Int)<(a.length:Int)
   ·rw [if_pos (decide_eq_true h),p' ⟨by omega,h⟩,p' ⟨by omega,h⟩,if_neg (by simp),rj i (by omega)];exact ZR cd m (i+1) _ rfl (by omega) (by omega)
   ·rw [if_neg (by simpa using h)]
theorem UR {a:List Int} (cd:a.length≤1000):L4 a a=some true:=by
 rw [L4,if_neg (by simp)];exact ZR cd p6 0 0 rfl (by omega) (ri (by omega))
theorem ZS {a:List (List Int)} (cd:a.length≤1000) (aj:∀ r∈a,r.length≤1000):∀ (m i:Nat) (z:Int),z=i→i≤a.length→a.length-i<m→L6 a a (fun _=>some true) m z=some true
 | 0,_,_,_,_,h=>absurd h (by omega)
 | m+1,i,_,rfl,hi,hm=>by
   rw [L6];by_cases h:(i:Int)<(a.length:Int)
   ·(have qJ:i<a.length:=by omega);rw [if_pos (decide_eq_true h),p' ⟨by omega,h⟩,p' ⟨by omega,h⟩,qW qJ,UR (aj _ (sD qJ)),r_,if_pos rfl,rj i (by omega)];exact ZS cd aj m (i+1) _ rfl (by omega) (by omega)
   ·rw [if_neg (by simpa using h)]
theorem ako {a:List (List Int)} (cd:a.length≤1000) (aj:∀ r∈a,r.length≤1000):OH a a=some true:=by
 rw [OH,if_neg (by simp)];exact ZS cd aj p6 0 0 rfl (by omega) (ri (by omega))
end
end Go.Proofs.YtfakoboiahbhaaaGreat.Ab


namespace Go.Proofs.YtfakoboiahbhaaaGreat.Ab
open Go
noncomputable def Ug:ey :=
 Gz [gL 5 [] (.x' 0 1 [.int .i64 0] []),Gp 6 0,gL 7 [.hG 5,.hG 6] (.app 1 8),Gp 2 7] .ret
noncomputable def Uf:ey :=
 Gz [gL 2 [.iA (.ay [] 0 .full)] (.nil 1)] (.seq (Gz [Gn 3 0, gL 4 [.hJ 3, .iA (.ay [] 0 .full)] (.other (Oper.mk (some 4) (Op.binOp .eql 38 (Operand.tmp 3) (Operand.const (Value.slice none 0 0)) 38) 4 "slices.go:357" (Array.mk [Edge.mk 0 Ground.data]) none) 0)] (.cond (.sl 4) (Gz [gL 2 [.iA (.ay [] 0 .full)] (.nil 1)] .ret) .skip)) Ug)
theorem Xp:zf Go.Proofs.Tryz.prog VP 75=some (Uf,8,[.tmp 2]):=by kernel_rfl
noncomputable def T2:ey :=
 Gz [Gn 17 6,F0 18 17 0 .neq] (.cond (.sl 18) (Gz [Gp 19 6,Gm 4 0,Gp 5 19] .ret) .skip)
noncomputable def T5:ey :=
 Gz [Gn 33 12,F0 34 33 0 .neq] (.cond (.sl 34) (Gz [Gp 35 12,Gm 4 0,Gp 5 35] .ret) .skip)
noncomputable def T6:ey :=
 .j0 true [Gn 42 7,Gn 43 7,Gk 44 43,Gn 45 7,Gk 46 45,gL 47 [.hG 42,.hG 44,.hG 46] (.AX 1 false true true),F6 48 14 0,Gl 49 48,gL 50 [.hJ 49] (.x' 1 1 [.int .i64 0] [0]),gL 51 [.hG 47,.hG 50] (.app 1 8),Gp 7 51]
noncomputable def T7:ey :=
 .block 3 (Gz [gL 40 [.sl 36,.sl 38] (.pM 2),gL 41 [.hJ 40] (.pT (.str 2)),gL 14 [] (.alloc [.int .i64 0,.int .i64 0]),⟨none,[.sl 14,.hG 41],none,none,.st 2⟩] T6)
noncomputable def T8:ey :=
 Gz [Gp 36 9,gL 37 [.sl 36] .pV,Gm 38 0] (.block 2 (.loop (some (Ez false [1,2,4,1,12,3,13,3,34])) (Gz [gL 39 [.sl 38,.sl 37] (.bin .lss)] (.seq (.cond (.sl 39) .skip (.exit 2)) (.seq T7 (Gs [FZ 52 38 1,Gp 38 52]))))))
noncomputable def T9:ey :=
 .seq (Gz [gL 27 [.sl 2] (.pT (.str 2)),Gn 28 9,gL 29 [.iA (.func 18 [] []),.sl 27,.sl 28] (.call 3),Gp 26 29,GJ 30 26 0,GJ 31 26 1,gL 32 [.hJ 26] (.ext 2),Gp 10 30,Gp 11 31,Gp 12 32] T5) T8
noncomputable def T_:ey :=
 .block 1 (Gz [gL 24 [.sl 20,.sl 22] (.pM 1),Gl 25 24,Gp 9 25] T9)
noncomputable def On:ey :=
 Gz [Gp 65 7,Gk 66 65,F6 67 2 1,Gl 68 67,Gk 69 68,F1 70 66 69 .lss,Gp 64 70] (.cond (.sl 64) (Gz [Gm 4 0,Gm 5 15] .ret) .skip)
noncomputable def P8:ey :=
 .block 4 (Gz [Gn 57 7,gL 58 [.iA (.func 75 [] []),.sl 57] (.call 0),gL 59 [.iA (.func 74 [] []),.hG 58] (.call 1),Gk 60 59,Gn 61 7,Gk 62 61,F1 63 60 62 .lss,Gp 56 63] (.cond (.sl 56) (Gz [Gm 4 0,Gm 5 11] .ret) On))
noncomputable def P7:ey :=
 Gz [Gp 71 1,Gk 72 71,Gp 4 72,Gm 5 0] .ret
noncomputable def T3:ey :=
 .seq (Gz [Gn 20 1,gL 21 [.sl 20] .pV,Gm 22 0] (.block 0 (.loop (some (Ez false [1,2,4,1,12,3,50])) (Gz [gL 23 [.sl 22,.sl 21] (.bin .lss)] (.seq (.cond (.sl 23) .skip (.exit 0)) (.seq T_ (Gs [FZ 53 22 1,Gp 22 53]))))))) (Gz [⟨some 54,[.hG 7],none,some 7,.A6⟩,gL 55 [.iA (.func 73 [] []),.hG 54] (.call 1)] (.seq P8 P7))
noncomputable def T4:ey :=
 .seq (Gz [gL 15 [.sl 2] (.pT (.str 2)),gL 16 [.iA (.func 20 [] []),.sl 15] (.call 3),Gp 6 16] T2) (Gz [gL 7 [.iA (.ay [] 0 .full)] (.nil 1)] T3)
noncomputable def XW:ey :=
 Gz [gL 2 [.hG 0] .box,Gm 4 0,Gm 5 0] T4
theorem afy:zf Go.Proofs.Tryz.prog Vy 25=some (XW,73,[.tmp 4,.tmp 5]):=by kernel_rfl
end Go.Proofs.YtfakoboiahbhaaaGreat.Ab


namespace Go.Proofs.YtfakoboiahbhaaaGreat.Ab
open Go
set_option maxRecDepth 20000
set_option maxHeartbeats 4000000
theorem X1 (z:I):∀ n:Nat,eX n [z]=List.replicate n z
 | 0=>rfl
 | n+1=>by simp [eX,X1 z n,List.replicate_succ]
theorem ac6 (lo id off len:Nat) (H:List au) (l:List I) (bD:lo≤id) (ah:H[id]?=some (.cells l)) (h:off+len≤l.length) :
  kR Go.Proofs.Tryz.prog lo #[38] H [.ref id off len none 1]=some (.tuple [],H.set id (.cells (l.take off++List.replicate len (hP 0)++l.drop (off+len)))):=by
 have e1:((#[38]:Array TypeId)[0]?).bind Go.Proofs.Tryz.prog.underlying=some (.slice 3):=by kernel_rfl
 have ck:bS Go.Proofs.Tryz.prog 3=some 1:=by kernel_rfl
 have dE:zeroCells Go.Proofs.Tryz.prog 3=some [.int .i64 0]:=by kernel_rfl
 have oH:setCells off (eX len [I.int .i64 0]) l=l.take off++List.replicate len (hP 0)++l.drop (off+len):=by
  apply List.ext_getElem?;intro j;rw [n7 _ _ _ _ (by rw [ie];simp;omega),ie,X1];simp only [tV,tt];by_cases aw:j<off
  ·rw [if_neg (by omega),sA,sB (by simp;omega),List.getElem?_take_of_lt aw]
  ·by_cases fk:j<off+len
   ·rw [if_pos ⟨by omega,fk⟩,sB (by simp;omega),sJ (by simp;omega),vw,vw,sY,if_pos (by omega),if_pos (by omega)]
   ·rw [if_neg (by omega),sJ (by simp;omega),sX];congr 1;simp;omega
 unfold kR;simp only [e1,ck,dE,g7,ah,sd,if_pos bD];rw [if_pos ⟨trivial,rfl,by decide⟩,if_pos (by omega),oH];rfl
section
variable {id lo:Nat} {H:List au} {IJ:FuncId} {HA cs:List I} {p:Int→Bool} {cur rest:List Int}
end

section
variable {id lo:Nat} {H:List au}
theorem ac_ (l r:List Int) (aS:0<l.length) (ak:l.length≤1000) (ah:H[id]?=some (.cells ((l++r).map hP))) :
  Sem Go.Proofs.Tryz.prog (.fn 75) [.ref id 0 l.length none 1] H lo (.ay (l.map hP) l.length (.uniq 1)) H:=by
 refine G_ dH Xp rfl ⟨sc _,fun j _ _=>rfl⟩ fun Q bl=>?_;unfold Uf Ug;conv=>whnf
 refine ⟨.bool false,H,fun C=>by kernel_rfl,?_⟩;conv=>whnf
 refine DW ah ?_;conv=>whnf
 refine ⟨by simp,?_⟩;rw [show List.map I.view (List.take (l.length*1) (List.drop 0 (List.map hP (l++r))))=l.map hP by rw [sM,tt,sZ,List.take_left' (by simp),tr];rfl];conv=>whnf
 refine ⟨by simp,by omega,rfl,by omega,?_⟩;conv=>whnf
 exact bl _ _ _ ⟨.inr rfl,⟨rfl,fun j o aw=>.inr aw⟩,by rw [Nat.zero_add];rfl⟩
end

end Go.Proofs.YtfakoboiahbhaaaGreat.Ab


namespace Go.Proofs.YtfakoboiahbhaaaGreat.Ab
open Go
set_option maxRecDepth 20000
set_option maxHeartbeats 4000000

end Go.Proofs.YtfakoboiahbhaaaGreat.Ab


namespace Go.Proofs.YtfakoboiahbhaaaGreat.Ab
open Go
set_option maxRecDepth 20000
set_option maxHeartbeats 4000000

section
variable {t:p3} {S:List Int} {H:List au} {bi k:Nat} {at_ i:Int} {can out:Row} {JF JG JH:I} {K:cB→List I→List au→Prop}
end

end Go.Proofs.YtfakoboiahbhaaaGreat.Ab


namespace Go.Proofs.YtfakoboiahbhaaaGreat.Ab
open Go
set_option maxRecDepth 20000
set_option maxHeartbeats 4000000

end Go.Proofs.YtfakoboiahbhaaaGreat.Ab


namespace Go.Proofs.YtfakoboiahbhaaaGreat.Ab
open Go
set_option maxRecDepth 20000
set_option maxHeartbeats 4000000

end Go.Proofs.YtfakoboiahbhaaaGreat.Ab


namespace Go.Proofs.YtfakoboiahbhaaaGreat.Ab
open Go
set_option maxRecDepth 20000
set_option maxHeartbeats 4000000
noncomputable def aaL:ey :=
 Gz [gL 1 [.hG 0] .box,gL 2 [.iA (.ay [] 0 .full)] (.nil 1),Gm 3 0] (Gz [gL 7 [.hJ 1] (.pT (.str 2)),gL 8 [.iA (.func 64 [] []),.sl 7] (.call 3),Gp 6 8,GJ 9 6 0,gL 10 [.hJ 6] (.ext 1),Gp 4 9,Gp 5 10] (.seq (Gz [Gn 11 5,F0 12 11 0 .neq] (.cond (.sl 12) (Gz [Gp 13 5,gL 2 [.iA (.ay [] 0 .full)] (.nil 1),Gp 3 13] .ret) .skip)) (Gz [Gp 14 4,gL 15 [.iA (.func 83 [] []),.sl 14] (.call 3),Gp 2 15,Gm 3 0] .ret)))
theorem afU:zf Tryz.prog VC 41=some (aaL,16,[.tmp 2,.tmp 3]):=by kernel_rfl
def OJ (b:qb):Option (qx×Int) :=
 (Im b).bind fun r1 =>
 match r1 with
 | (none,q1) =>
   if (decide (q1≠(0:Int)))=true then
    some ([],q1)
   else
    none
 | (some bR,q1) =>
   if (decide (q1≠(0:Int)))=true then
    some ([],q1)
   else
    (JP bR).bind fun r2 =>
    some (r2,(0:Int))
theorem aks {b:qb} {v:(qx×Int)} (h:OJ b=some v):qp 41 [(.agg [(hP b.1),(.ay (b.2.flatMap pY) b.2.length .shared)])] (.tuple [(.ay (v.1.map (qB pY)) v.1.length .shared),(hP v.2)]):=by
 refine qN dH afU rfl (Ih (pZ (rK (fun _=>(qX (fun _=>(pZ rfl (pZ rfl rfl))) _ _ _)) _ _ _) (pZ rfl rfl))) fun Q bl=>?_;have jw:qv [.tmp 2,.tmp 3] Q (fun v=>(.tuple [(.ay (v.1.map (qB pY)) v.1.length .shared),(hP v.2)])) v:=fun T H bI=>bl _ T H bI;unfold OJ at h;unfold aaL;conv=>whnf
 obtain ⟨r1,eT,h⟩:=qa h;rcases r1 with ⟨_ | bR,q1⟩
 ·refine ⟨qc.pl,_,IH eT,?_⟩;conv=>whnf
  refine bs h (fun fj h=>?_) fun fj h=>?_
  ·rw [fj];(conv=>whnf);exact p7 h jw rfl rfl
  ·rw [fj];(conv=>whnf);exact qT h
 ·refine ⟨qc.pl,_,IH eT,?_⟩;conv=>whnf
  refine bs h (fun qk h=>?_) fun qk h=>?_
  ·rw [qk];(conv=>whnf);exact p7 h jw rfl rfl
  ·rw [qk];(conv=>whnf);obtain ⟨r2,qw,h⟩:=qa h;refine ⟨qc.pl,_,aak qw,?_⟩;(conv=>whnf);exact p7 h jw rfl rfl

end Go.Proofs.YtfakoboiahbhaaaGreat.Ab


namespace Go.Proofs.YtfakoboiahbhaaaGreat.Ab
open Go
section
variable {b:p3}
def Kd (b:p3):List Row:=(JP b).getD []
theorem X6 (p1:qu b):JP b=some (Kd b)∧Mn b (Kd b):=by
 obtain ⟨R,ad,af⟩:=aag p1
 have:Kd b=R:=by unfold Kd;rw [ad];rfl
 rw [this];exact ⟨ad,af⟩
theorem akr (ag:b.2.length≤1000):OJ b=some (if qK b=0 then (Kd b,0) else ([],qK b)):=by
 rw [OJ];by_cases h:qK b=0
 ·have p1:=G8.1 h;rw [OO p1,r_,if_pos h];dsimp only;rw [if_neg (show ¬ decide ((0:Int)≠0)=true by decide),(X6 p1).1,r_]
 ·rw [ON ag h,r_,if_neg h];dsimp only;rw [if_pos (show decide (qK b≠0)=true by simpa using h)]
theorem RowsOf.each {S:List Int} {R:List Row} (h:RowsOf b S R) (aN:S.Nodup) {r:Row} (aj:r∈R):(r.map (·.1)).Nodup∧r.length≤S.length:=by
 have yX:(r.map (·.1)).Sublist ((R.flatten).map (·.1)):=by
  refine List.Sublist.map _ ?_;obtain ⟨s,t,rfl⟩:=uT aj;simp
 have ad:=yX.length_le;rw [sV,h.all.length_eq] at ad;exact ⟨yX.nodup (h.all.nodup_iff.2 aN),ad⟩
theorem Mn.short (p1:qu b) {R:List Row} (h:Mn b R):R.length≤10∧∀ r∈R,r.length≤10:=by
 have dy:=p1.len;refine ⟨?_,fun r aj=>?_⟩
 ·have ad:R.length≤R.flatten.length:=by
   have bM:=h.ne
   have:∀ l:List Row,(∀ r∈l,r≠[])→l.length≤l.flatten.length:=fun l=>by
    induction l with
    | nil=>intro _;simp
    | cons r l a_ =>
      intro ak;have ad:=List.length_pos_iff.2 (ak r (by simp));have af:=a_ fun q a3=>ak q (by simp [a3]);rw [tS,su,sL];omega
   exact this R bM
  have af:=h.all.length_eq;rw [sV,GN] at af;omega
 ·have:=(h.toRowsOf.each (Jk _) aj).2;rw [GN] at this;omega
end
end Go.Proofs.YtfakoboiahbhaaaGreat.Ab


namespace Go.Proofs.YtfakoboiahbhaaaGreat.Ab
open Go
set_option maxRecDepth 20000
set_option maxHeartbeats 4000000
noncomputable def aaM:ey :=
 Gz [gL 1 [.hG 0] .box,gL 2 [.iA (.bool false)] .iQ] (Gz [gL 3 [.sl 1] (.pT (.str 2)),gL 4 [.iA (.func 16 [] []),.sl 3] (.call 3),gL 5 [.hJ 4] (.un .not),Gp 6 5,cP 7 [.hJ 1] 6 true (.pT (.str 2)),⟨some 8,[.iA (.func 21 [] []),.sl 7],some (6,true),none,.call 3⟩,cP 9 [.hJ 8,.iA (.int .i64 0)] 6 true (.bin .eql),gL 10 [.hJ 6,.hJ 9,.iA (.bool false)] .pick,Gp 2 10] .ret)
theorem afV:zf Tryz.prog VD 47=some (aaM,11,[.tmp 2]):=by kernel_rfl
def OK (b:qb):Option Bool :=
 (OA b).bind fun r1 =>
 if r1=true then
  some false
 else
  (Jm b).bind fun r2 =>
  some (decide (r2=(0:Int)))
theorem aku {b:qb} {v:Bool} (h:OK b=some v):qp 47 [(.agg [(hP b.1),(.ay (b.2.flatMap pY) b.2.length .shared)])] (B v):=by
 refine qN dH afV rfl rfl fun Q bl=>?_;have jw:qv [.tmp 2] Q (fun v=>(B v)) v:=fun T H bI=>bl _ T H bI;unfold OK at h;unfold aaM;conv=>whnf
 obtain ⟨r1,eT,h⟩:=qa h;refine ⟨qc.pl,_,ajZ eT,?_⟩;conv=>whnf
 cases r1
 ·conv=>whnf
  replace h:=GV rfl h;obtain ⟨r2,fj,h⟩:=qa h;refine ⟨qc.pl,_,OC fj,?_⟩;conv=>whnf
  exact p7 h jw rfl rfl
 ·conv=>whnf
  replace h:=GX rfl h;exact p7 h jw rfl rfl

end Go.Proofs.YtfakoboiahbhaaaGreat.Ab


namespace Go.Proofs.YtfakoboiahbhaaaGreat.Ab
open Go
set_option maxRecDepth 20000
set_option maxHeartbeats 4000000
end Go.Proofs.YtfakoboiahbhaaaGreat.Ab


namespace Go.Proofs.YtfakoboiahbhaaaGreat.Ab
open Go
structure ak1 (b:p3) (D:List Int) (n:Nat) (f t:Int) (r:Row):Prop where
 len:r.length=n
 run:qm b f r=some t
 ok:∀ p∈r,rS b p=false∧ix D (qo b p)≤(n:Int)∧1≤ix D (qo b p)∧ix D (fin b p)=ix D (qo b p)-1
 down:r.Pairwise fun p q=>ix D (qo b q)<ix D (qo b p)
 first:∀ p l,r=p::l→qo b p=f
theorem adx {b:p3} {wo f t:Int} {D:List Int} (h:Mm b wo t D) (aQ:0≤f∧f<6):0≤ix D f↔rU b wo f t:=by
 refine ⟨fun ad=>?_,fun ⟨n,aN⟩=>(h.least n f aN.symm).2.2.1⟩;have:=h.walk f.toNat (by omega) (by rw [tQ aQ.1];exact ad);rw [tQ aQ.1] at this;exact ⟨_,this.symm⟩
theorem akt (b:p3):OK b=some (decide (b.2.length≤14) && decide (qK b=0)):=by
 rw [OK,OA,r_];by_cases h:(14:Int)<(b.2.length:Int)
 ·rw [if_pos (decide_eq_true h),decide_eq_false (by omega)];rfl
 ·rw [if_neg (by simpa using h),UP b (by omega),r_,decide_eq_true (show b.2.length≤14 by omega)];rfl
theorem UN:K2=some true:=rfl
end Go.Proofs.YtfakoboiahbhaaaGreat.Ab


namespace Go.Proofs.YtfakoboiahbhaaaGreat.Ab
open Go
set_option maxRecDepth 20000
set_option maxHeartbeats 4000000
noncomputable def aaF:ey :=
 Gz [gL 1 [.hG 0] .box, gL 2 [.iA (.ay [] 0 .full)] (.nil 1), Gm 3 0] (Gz [gL 9 [.hJ 1] (.pT (.str 2)), gL 10 [.iA (.func 64 [] []), .sl 9] (.call 3), Gp 8 10, GJ 11 8 0, gL 12 [.hJ 8] (.ext 1), Gp 4 11, Gp 5 12] (.seq (Gz [Gn 13 5, F0 14 13 0 .neq] (.cond (.sl 14) (Gz [Gp 15 5, gL 2 [.iA (.ay [] 0 .full)] (.nil 1), Gp 3 15] .ret) .skip)) (Gz [Gn 16 4, Gp 17 4, gL 18 [.iA (.func 77 [] []), .sl 17] (.call 3), gL 19 [.iA (.func 76 [] []), .sl 16, .sl 18] (.call 3), Gp 6 19] (Gz [Gn 20 6, Gk 21 20, gL 22 [.sl 21, .hJ 21] (.zy [.int .i64 0] 1 8), Gp 7 22] (Gz [Gn 23 7, Gp 24 6, gL 25 [.hG 23, .hG 24] (.other (Oper.mk (some 25) (Op.call (Call.mk (Callee.builtin Builtin.copy) (Array.mk [Operand.tmp 23, Operand.tmp 24]) (Array.mk [38, 38]))) 3 "match.go:115" (Array.mk [Edge.mk 0 Ground.data, Edge.mk 1 Ground.data]) none) 0)] (Gz [Gp 26 7, Gp 2 26, Gm 3 0] .ret))))))
theorem afO:zf Tryz.prog Vz 27=some (aaF,27,[.tmp 2,.tmp 3]):=by kernel_rfl
def K4 (b:qb):Option (p8×Int) :=
 (Im b).bind fun r1 =>
 match r1 with
 | (none,q1) =>
   if (decide (q1≠(0:Int)))=true then
    some ([],q1)
   else
    none
 | (some bR,q1) =>
   if (decide (q1≠(0:Int)))=true then
    some ([],q1)
   else
    (M' bR).bind fun r2 =>
    (Lb bR r2).bind fun r3 =>
    p5 (0≤(r3.length:Int)∧(r3.length:Int)≤(r3.length:Int)∧(r3.length:Int).toNat*8≤140737488355328) <|
    p5 ((r3.length:Int).toNat=(List.replicate (r3.length:Int).toNat (0:Int)).length∧r3.length=(r3.length:Int).toNat) <|
    p5 ((r3.length:Int).toNat=r3.length) <|
    some (r3,(0:Int))
theorem Qw {b:qb} {v:(p8×Int)} (h:K4 b=some v):qp 27 [(.agg [(hP b.1),(.ay (b.2.flatMap pY) b.2.length .shared)])] (.tuple [(.ay (v.1.map hP) v.1.length .shared),(hP v.2)]):=by
 refine qN dH afO rfl (Ih (pZ (rK (fun _=>rfl) _ _ _) (pZ rfl rfl))) fun Q bl=>?_;have jw:qv [.tmp 2,.tmp 3] Q (fun v=>(.tuple [(qg v.1 .shared),(hP v.2)])) v:=fun T H bI=>bl _ T H bI;unfold K4 at h;unfold aaF;conv=>whnf
 obtain ⟨r1,eT,h⟩:=qa h;rcases r1 with ⟨_ | bR,q1⟩
 ·refine ⟨qc.pl,_,IH eT,?_⟩;conv=>whnf
  refine bs h (fun fj h=>?_) fun fj h=>?_
  ·rw [fj];(conv=>whnf);exact p7 h jw rfl rfl
  ·rw [fj];(conv=>whnf);exact qT h
 ·refine ⟨qc.pl,_,IH eT,?_⟩;conv=>whnf
  refine bs h (fun qk h=>?_) fun qk h=>?_
  ·rw [qk];(conv=>whnf);exact p7 h jw rfl rfl
  ·rw [qk];(conv=>whnf);obtain ⟨r2,qw,h⟩:=qa h;refine ⟨qc.pl,_,U0 qw,?_⟩;(conv=>whnf);obtain ⟨r3,qC,h⟩:=qa h;refine ⟨qc.pl,_,UY qC,?_⟩;(conv=>whnf);obtain ⟨rk,h⟩:=qn h;refine ⟨rk.1,rk.2.1,rk.2.2,?_⟩;rw [Uq hP (0:Int)];(conv=>whnf);obtain ⟨qM,h⟩:=qn h;refine ⟨_,_,fun C=>(agy rfl).trans (adj (e:=3) (f:=hP) (l:=(List.replicate (r3.length:Int).toNat (0:Int))) (m:=r3) (by kernel_rfl) (by kernel_rfl) (sq _) (by first | exact qh.h | rfl | (simp [sb,I.settle];done)) qM.1 qM.2),?_⟩
   (conv=>whnf);obtain ⟨qP,h⟩:=qn h;obtain rfl:=Option.some.inj h;exact jw _ _ ⟨.inr rfl,_,rfl,_,(adN (PR (adM (f:=hP) (l:=r3) (by first | exact qh.h | rfl | (simp [sb,I.settle];done)) qP (fun _=>rfl) (fun _=>rfl)) (PR (oR rfl) S7))),by simp only [I.settle,I.view,I.cr,sx,tM,ads];exact congrArg (fun n=>I.tuple [I.ay _ n .shared,_]) qP⟩

end Go.Proofs.YtfakoboiahbhaaaGreat.Ab


namespace Go.Proofs.YtfakoboiahbhaaaGreat.Ab
open Go
set_option maxRecDepth 20000
set_option maxHeartbeats 4000000
noncomputable def OW:ey :=
 .cond (.sl 16) (Gz [Gp 17 5,gL 2 [.iA (.ay [] 0 .full)] (.nil 1),Gp 3 17] .ret) .skip
noncomputable def U5:ey :=
 .cond (.sl 35) (Gs [Gp 36 6,Gp 37 7,gL 38 [.hJ 37] (.x' 1 1 [.int .i64 0] [0]),gL 39 [.hG 36,.hG 38] (.app 1 8),Gp 6 39]) .skip
noncomputable def QW:ey :=
 Gz [F6 31 8 0,Gl 32 31,gL 33 [.hJ 9,.hJ 32] (.y3 6 1),Gl 34 33,F0 35 34 0 .lss] U5
noncomputable def OU:ey :=
 Gz [Gn 26 4,gL 27 [.sl 8] (.oP 1),Gl 28 27,Gn 29 7,gL 30 [.iA (.func 81 [] []),.sl 26,.sl 28,.sl 29] (.call 3),gL 9 [] (.alloc [.int .i64 0,.int .i64 0,.int .i64 0,.int .i64 0,.int .i64 0,.int .i64 0]),⟨none,[.sl 9,.hG 30],none,none,.st 6⟩] QW
noncomputable def OT:ey :=
 .j0 false [FZ 40 21 1,Gp 21 40]
noncomputable def O1:ey :=
 .seq (.block 1 (Gz [Gn 23 21,gL 24 [.sl 19,.sl 21] (.pM 2),gL 25 [.hJ 24] (.pT (.str 2)),gL 8 [] (.alloc [.int .i64 0,.int .i64 0]),Gp 7 23,⟨none,[.sl 8,.hG 25],none,none,.st 2⟩] OU)) OT
noncomputable def O0:ey :=
 .seq (.cond (.sl 22) .skip (.exit 0)) O1
noncomputable def Mi:ey :=
 .loop (some (Ez false [4,1,1,1,12,3,20])) (Gz [gL 22 [.sl 21,.sl 20] (.bin .lss)] O0)
noncomputable def OZ:ey :=
 .block 0 Mi
noncomputable def OY:ey :=
 Gz [Gp 41 6,Gp 2 41,Gm 3 0] .ret
noncomputable def OX:ey :=
 .seq (Gz [F6 18 1 1,Gl 19 18,gL 20 [.sl 19] .pV,Gm 21 0] OZ) OY
noncomputable def OV:ey :=
 Gz [gL 6 [.iA (.ay [] 0 .full)] (.nil 1)] OX
noncomputable def QX:ey :=
 .seq (Gz [Gn 15 5,F0 16 15 0 .neq] OW) OV
noncomputable def U4:ey :=
 Gz [gL 11 [.sl 1] (.pT (.str 2)),gL 12 [.iA (.func 64 [] []),.sl 11] (.call 3),Gp 10 12,GJ 13 10 0,gL 14 [.hJ 10] (.ext 1),Gp 4 13,Gp 5 14] QX
noncomputable def aaH:ey :=
 Gz [gL 1 [.hG 0] .box,gL 2 [.iA (.ay [] 0 .full)] (.nil 1),Gm 3 0] U4
theorem afQ:zf Tryz.prog O_ 31=some (aaH,42,[.tmp 2,.tmp 3]):=by kernel_rfl
def Qx (b:qb) (p9:Unit→Option (p8×Int)):Nat→Option (p8×Int)
 | 0=>none
 | m+1 =>
   if (decide ((0:Int)<(b.2.length:Int)))=true then
    p5 (0≤(0:Int)∧(0:Int)<(b.2.length:Int)) <|
    none
   else
    p9 ()
def K6 (b bR:qb) (qq:p8→Option (p8×Int)):Nat→p8→Int→Option (p8×Int)
 | 0,_,_=>none
 | m+1,s1,s2 =>
   if (decide (s2<(b.2.length:Int)))=true then
    p5 (0≤s2∧s2<(b.2.length:Int)) <|
    (OQ bR ((ix b.2 s2).2) s2).bind fun r2 =>
    p5 (r2.length=6∧(List.replicate 6 (0:Int)).length=6) <|
    p5 (0≤(ix b.2 s2).1∧(ix b.2 s2).1<(6:Int)∧6=r2.length) <|
    if (decide ((ix r2 ((ix b.2 s2).1))<(0:Int)))=true then
     p5 ((s1.length+1)*8≤140737488355328) <|
     K6 b bR qq m (s1++[s2]) (w (s2+(1:Int)))
    else
     K6 b bR qq m s1 (w (s2+(1:Int)))
   else
    qq s1
def K5 (b:qb):Option (p8×Int) :=
 (Im b).bind fun r1 =>
 match r1 with
 | (none,q1) =>
   if (decide (q1≠(0:Int)))=true then
    some ([],q1)
   else
    Qx b (fun _ =>
      some ([],(0:Int))) p6
 | (some bR,q1) =>
   if (decide (q1≠(0:Int)))=true then
    some ([],q1)
   else
    K6 b bR (fun xZ =>
      some (xZ,(0:Int))) p6 ([]:List Int) (0:Int)
theorem akk {b:qb} {p9:Unit→Option (p8×Int)} {v:(p8×Int)} {Q:qY} {bA:au}  (q7:∀ (p4:List I),p9 ()=some v→qI 42 [(6,(.ay [] 0 (.uniq 1)))] p4→Q (.exit 0) p4 [bA]) {T:List I} (bX:eQ (Ez false [4,1,1,1,12,3,20]) T=GG 42 [(4,.eB),(6,(.ay [] 0 (.uniq 1))),(19,(p2 b.2 .shared)),(20,(hP (b.2.length:Int))),(21,(hP (0:Int)))]) (h:Qx b p9 p6  = some v) :
  dB Tryz.prog O_ 31 0 none Mi T [bA] Q:=by
 unfold Mi;obtain ⟨acO,NJ⟩:∃ c,O0=c:=⟨_,rfl⟩;rw [NJ];refine wp_loop bX ?_;refine .intro (fun m T H=>T=GG 42 [(4,.eB),(6,(.ay [] 0 (.uniq 1))),(19,(p2 b.2 .shared)),(20,(hP (b.2.length:Int))),(21,(hP (0:Int)))]∧H=[bA]∧Qx b p9 m  = some v) p6 ⟨rfl,rfl,h⟩ ?_;clear h bX;rintro m T H ⟨rfl,rfl,h⟩;cases m
 ·exact qT h
 rename_i m;rw [Qx.eq_2] at h;conv=>whnf
 subst NJ;unfold O0;obtain ⟨acP,NK⟩:∃ c,O1=c:=⟨_,rfl⟩;rw [NK];conv=>whnf
 refine bs h (fun qk h=>?_) fun qk h=>?_
 ·rw [qk];conv=>whnf
  subst NK;unfold O1;obtain ⟨acI,NC⟩:∃ c,OT=c:=⟨_,rfl⟩;rw [NC];obtain ⟨acJ,ND⟩:∃ c,OU=c:=⟨_,rfl⟩;rw [ND];conv=>whnf
  refine qj h id fun qw h=>?_;rw [qU pY 2 ql b.2 (0:Int) qw];conv=>whnf
  subst ND;unfold OU;obtain ⟨acK,Ps⟩:∃ c,QW=c:=⟨_,rfl⟩;rw [Ps];conv=>whnf
  exact qT h
 ·rw [qk];conv=>whnf
  exact q7  _ h ⟨rfl,rfl⟩
theorem akl {b:qb} {bR:qb} {qq:p8→Option (p8×Int)} {s1:p8} {s2:Int} {v:(p8×Int)} {Q:qY} {bA:au}  (Hk:∀ (xZ:p8) (qs:List au) (p4:List I),qq xZ=some v→qI 42 [(6,(qg xZ (.uniq 1)))] p4→Q (.exit 0) p4 (bA::qs)) {T:List I} (bX:eQ (Ez false [4,1,1,1,12,3,20]) T=GG 42 [(4,(.bU [(hP bR.1),(p2 bR.2 .shared)])),(6,(qg s1 (.uniq 1))),(19,(p2 b.2 .shared)),(20,(hP (b.2.length:Int))),(21,(hP s2))]) (h:K6 b bR qq p6 s1 s2=some v) :
  dB Tryz.prog O_ 31 0 none Mi T [bA] Q:=by
 unfold Mi;obtain ⟨acO,NJ⟩:∃ c,O0=c:=⟨_,rfl⟩;rw [NJ];refine wp_loop bX ?_;refine .intro (fun m T H=>∃ (s1:p8) (s2:Int) (Vh:List au),T=GG 42 [(4,(.bU [(hP bR.1),(p2 bR.2 .shared)])),(6,(qg s1 (.uniq 1))),(19,(p2 b.2 .shared)),(20,(hP (b.2.length:Int))),(21,(hP s2))]∧H=(bA::Vh)∧K6 b bR qq m s1 s2=some v) p6 ⟨s1,s2,[],rfl,rfl,h⟩ ?_;clear h bX;rintro m T H ⟨s1,s2,Vh,rfl,rfl,h⟩;cases m
 ·exact qT h
 rename_i m;rw [K6.eq_2] at h;conv=>whnf
 subst NJ;unfold O0;obtain ⟨acP,NK⟩:∃ c,O1=c:=⟨_,rfl⟩;rw [NK];conv=>whnf
 refine bs h (fun rk h=>?_) fun rk h=>?_
 ·rw [rk];conv=>whnf
  subst NK;unfold O1;obtain ⟨acI,NC⟩:∃ c,OT=c:=⟨_,rfl⟩;rw [NC];obtain ⟨acJ,ND⟩:∃ c,OU=c:=⟨_,rfl⟩;rw [ND];conv=>whnf
  refine qj h id fun qM h=>?_;rw [qU pY 2 ql b.2 s2 qM];conv=>whnf
  refine DW (x:=au.cells [(hP (0:Int)),(hP (0:Int))]) (by first | exact qh.h | rfl | (simp [sb,I.settle];done)) ?_
  conv=>whnf
  rw [q5];subst ND;unfold OU;obtain ⟨acK,Ps⟩:∃ c,QW=c:=⟨_,rfl⟩;rw [Ps];conv=>whnf
  refine DW (x:=au.cells [(hP (ix b.2 s2).1),(hP (ix b.2 s2).2)]) (by first | exact qh.h | rfl | (simp [sb,I.settle];done)) ?_
  conv=>whnf
  obtain ⟨r2,qP,h⟩:=qa h;refine ⟨qc.pl,_,akL qP,?_⟩;conv=>whnf
  obtain ⟨q3,h⟩:=qn h;refine DW (x:=au.cells ((List.replicate 6 (0:Int)).map hP)) (by first | exact qh.h | rfl | (simp [sb,I.settle];done)) ?_
  conv=>whnf
  try rw [show List.map I.gR (List.map hP r2)=List.map hP r2 from by rw [tr];rfl]
  first | (refine Yl hP r2 (n:=6) (l:=(List.replicate 6 (0:Int))) (sq _) (fun _=>rfl) (by first | exact qh.h | rfl | (simp [sb,I.settle];done)) q3.1 q3.2 (by decide) ?_) | (rw [show Nat.beq (List.map hP r2).length 6=true from by rw [sV,q3.1] <;> exact Nat.beq_refl _];refine UB hP (List.replicate 6 (0:Int)) r2 (fun _=>rfl) (by rw [q3.1,q3.2]) ?_)
  conv=>whnf
  rw [q5];conv=>whnf
  subst Ps;unfold QW;obtain ⟨alh,WC⟩:∃ c,U5=c:=⟨_,rfl⟩;rw [WC];conv=>whnf
  refine DW (x:=au.cells [(hP (ix b.2 s2).1),(hP (ix b.2 s2).2)]) (by first | exact qh.h | rfl | (simp [sb,I.settle];done)) ?_
  conv=>whnf
  obtain ⟨qG,h⟩:=qn h;refine ⟨⟨qG.1,qG.2.1⟩,?_⟩;replace qG:0≤(ix b.2 s2).1∧(ix b.2 s2).1<(r2.length:Int):=⟨qG.1,by have:=qG.2;omega⟩;conv=>whnf
  refine DW (x:=au.cells (r2.map hP)) (by first | exact qh.h | rfl | (simp [sb,I.settle];done)) ?_
  conv=>whnf
  refine Kc hP r2 ((ix b.2 s2).1) qG ?_;conv=>whnf
  subst WC;unfold U5;conv=>whnf
  refine bs h (fun rE h=>?_) fun rE h=>?_
  ·rw [rE];(conv=>whnf);obtain ⟨rh,h⟩:=qn h;refine ⟨by first | rfl | simp,by have:=rh;omega,rfl,rh,?_⟩
   erw [Lj hP s1 s2];(conv=>whnf);subst NC;unfold OT;(conv=>whnf);exact ⟨m,sf m,(s1++[s2]),(w (s2+(1:Int))),_,rfl,rfl,h⟩
  ·rw [rE];(conv=>whnf);subst NC;unfold OT;(conv=>whnf);exact ⟨m,sf m,s1,(w (s2+(1:Int))),_,rfl,rfl,h⟩
 ·rw [rk];conv=>whnf
  exact Hk _ _ _ h ⟨rfl,rfl⟩
theorem Qy {b:qb} {v:(p8×Int)} (h:K5 b=some v):qp 31 [(.agg [(hP b.1),(.ay (b.2.flatMap pY) b.2.length .shared)])] (.tuple [(.ay (v.1.map hP) v.1.length .shared),(hP v.2)]):=by
 refine qN dH afQ rfl (Ih (pZ (rK (fun _=>rfl) _ _ _) (pZ rfl rfl))) fun Q bl=>?_;have jw:qv [.tmp 2,.tmp 3] Q (fun v=>(.tuple [(qg v.1 .shared),(hP v.2)])) v:=fun T H bI=>bl _ T H bI;unfold K5 at h;unfold aaH;obtain ⟨Hd,qy⟩:∃ c,U4=c:=⟨_,rfl⟩;rw [qy];conv=>whnf
 subst qy;unfold U4;obtain ⟨I3,ru⟩:∃ c,QX=c:=⟨_,rfl⟩;rw [ru];conv=>whnf
 obtain ⟨r1,eT,h⟩:=qa h;rcases r1 with ⟨_ | bR,q1⟩
 ·refine ⟨qc.pl,_,IH eT,?_⟩;conv=>whnf
  subst ru;unfold QX;obtain ⟨Nt,G'⟩:∃ c,OV=c:=⟨_,rfl⟩;rw [G'];obtain ⟨Rz,Hg⟩:∃ c,OW=c:=⟨_,rfl⟩;rw [Hg];conv=>whnf
  subst Hg;unfold OW;conv=>whnf
  refine bs h (fun fj h=>?_) fun fj h=>?_
  ·rw [fj];(conv=>whnf);exact p7 h jw rfl rfl
  ·rw [fj];(conv=>whnf);subst G';unfold OV;obtain ⟨V4,J0⟩:∃ c,OX=c:=⟨_,rfl⟩;rw [J0];(conv=>whnf);subst J0;unfold OX;obtain ⟨acM,NG⟩:∃ c,OY=c:=⟨_,rfl⟩;rw [NG];obtain ⟨acN,NH⟩:∃ c,OZ=c:=⟨_,rfl⟩;rw [NH];(conv=>whnf);subst NH;unfold OZ;obtain ⟨acL,NF⟩:∃ c,Mi=c:=⟨_,rfl⟩;rw [NF];(conv=>whnf);subst NF;refine akk ?_ (by exact rfl) h;intro  p4 h qf;obtain ⟨qE,rfl⟩:=qf.ex;(conv=>whnf);subst NG;unfold OY;(conv=>whnf);exact p7 h jw rfl rfl
 ·refine ⟨qc.pl,_,IH eT,?_⟩;conv=>whnf
  subst ru;unfold QX;obtain ⟨Nt,G'⟩:∃ c,OV=c:=⟨_,rfl⟩;rw [G'];obtain ⟨Rz,Hg⟩:∃ c,OW=c:=⟨_,rfl⟩;rw [Hg];conv=>whnf
  subst Hg;unfold OW;conv=>whnf
  refine bs h (fun qC h=>?_) fun qC h=>?_
  ·rw [qC];(conv=>whnf);exact p7 h jw rfl rfl
  ·rw [qC];(conv=>whnf);subst G';unfold OV;obtain ⟨V4,J0⟩:∃ c,OX=c:=⟨_,rfl⟩;rw [J0];(conv=>whnf);subst J0;unfold OX;obtain ⟨acM,NG⟩:∃ c,OY=c:=⟨_,rfl⟩;rw [NG];obtain ⟨acN,NH⟩:∃ c,OZ=c:=⟨_,rfl⟩;rw [NH];(conv=>whnf);subst NH;unfold OZ;obtain ⟨acL,NF⟩:∃ c,Mi=c:=⟨_,rfl⟩;rw [NF];(conv=>whnf);subst NF;refine akl ?_ (by exact rfl) h;intro xZ qs p4 h qf;obtain ⟨qE,rfl⟩:=qf.ex;(conv=>whnf);subst NG;unfold OY;(conv=>whnf);exact p7 h jw rfl rfl

def QF (b:qb) (rN:Int):Option Bool :=
 (US b rN).bind fun r1 =>
 p5 (0≤rN∧rN<(b.2.length:Int)) <|
 p5 (0≤(ix b.2 rN).1∧(ix b.2 rN).1<(r1.length:Int)) <|
 p5 (0≤rN∧rN<(b.2.length:Int)) <|
 p5 (0≤(ix b.2 rN).2∧(ix b.2 rN).2<(r1.length:Int)) <|
 some (decide ((ix r1 ((ix b.2 rN).1))≠(ix r1 ((ix b.2 rN).2))))

end Go.Proofs.YtfakoboiahbhaaaGreat.Ab


namespace Go.Proofs.YtfakoboiahbhaaaGreat.Ab
open Go
section
variable {b:p3}
theorem agv (S:List Int):(q' b S).length≤6:=by
 have:=tH (fun f=>decide (qL b S f % 2=1)) (upto 6);rw [GN] at this;exact this
theorem Xw:(Ig b).length≤6:=agv _
def Oc (b:p3):List Int×Int:=if qK b=0 then (Ig b,0) else ([],qK b)
theorem Ta (p1:qu b):Oc b=(Ig b,0):=by unfold Oc;rw [if_pos (G8.2 p1)]
theorem agu (h:qK b≠0):Oc b=([],qK b):=by unfold Oc;rw [if_neg h]
theorem ZO (ag:b.2.length≤1000):K4 b=some (Oc b):=by
 rw [K4];by_cases h:qK b=0
 ·have p1:=G8.1 h;have ak:=Xw (b:=b);rw [OO p1,r_,Ta p1];dsimp only;rw [if_neg (by simp),UZ ag,r_,UW p1 Jj (by rw [GN];exact ag),r_];show p5 _ (p5 _ (p5 _ (some (Ig b,(0:Int)))))=_;rw [p' ⟨by omega,by show ((Ig b).length:Int)≤_;exact uD _,by show ((Ig b).length:Int).toNat*8≤_;omega⟩,p' ⟨by simp,by show (Ig b).length=((Ig b).length:Int).toNat;omega⟩,p' (by show ((Ig b).length:Int).toNat=(Ig b).length;omega)]
 ·rw [ON ag h,r_,agu h];dsimp only;rw [if_pos (by simpa using h)]
def Oe (b:p3):List (List Int)×Int:=if qK b=0 then (parts b,0) else ([],qK b)
theorem XF (p1:qu b):Oe b=(parts b,0):=by unfold Oe;rw [if_pos (G8.2 p1)]
theorem agC (h:qK b≠0):Oe b=([],qK b):=by unfold Oe;rw [if_neg h]
theorem aki (ag:b.2.length≤1000):OE b=some (Oe b):=by
 rw [OE];by_cases h:qK b=0
 ·have p1:=G8.1 h;rw [OO p1,r_,XF p1];dsimp only;rw [if_neg (by simp),UZ ag,r_,(JO p1).1,r_]
 ·rw [ON ag h,r_,agC h];dsimp only;rw [if_pos (by simpa using h)]
def HG (b:p3) (i:Int):Bool:=(QF b i).getD false
theorem SY (p1:qu b) {i:Int} (hi:0≤i∧i<(b.2.length:Int)):QF b i=some (HG b i)∧(HG b i=true↔¬ rU b i (ix b.2 i).1 (ix b.2 i).2):=by
 obtain ⟨N,B9,qQ⟩:=akz p1 i;obtain ⟨n,rfl⟩:∃ n:Nat,i=n:=⟨i.toNat,by omega⟩;have ai:=LN p1 (i:=n) (by omega);have ak:=qQ.len;have e:QF b (n:Int)=some (decide (ix N (ix b.2 (n:Int)).1≠ix N (ix b.2 (n:Int)).2)):=by
  rw [QF,B9,r_,p' hi,p' ⟨ai.1,by omega⟩,p' hi,p' ⟨ai.2.2.1,by omega⟩]
 refine ⟨by unfold HG;rw [e];rfl,?_⟩;unfold HG;rw [e];show decide _=true↔_;rw [decide_eq_true_eq];exact not_congr (qQ.iff ⟨ai.1,ai.2.1⟩ ⟨ai.2.2.1,ai.2.2.2⟩)
def LC (b:p3):List Int:=(upto b.2.length).filter (HG b)
theorem afo:(LC b).length≤b.2.length:=by
 have:=tH (HG b) (upto b.2.length)
 rwa [GN] at this
def N' (b:p3):List Int×Int:=if qK b=0 then (LC b,0) else ([],qK b)
theorem SZ (p1:qu b):N' b=(LC b,0):=by unfold N';rw [if_pos (G8.2 p1)]
theorem afn (h:qK b≠0):N' b=([],qK b):=by unfold N';rw [if_neg h]
theorem ZQ (p1:qu b) {k:List Int→Option (List Int×Int)}:∀ (m i:Nat) (z:Int),z=i→i≤b.2.length→b.2.length-i<m→K6 b b k m ((upto i).filter (HG b)) z=k (LC b)
 | 0,_,_,_,_,h=>absurd h (by omega)
 | m+1,i,_,rfl,hi,hm=>by
   rw [K6];have dy:=p1.len;have bV:=p1.f6;by_cases h:(i:Int)<(b.2.length:Int)
   ·have ak:=tH (HG b) (upto i);rw [GN] at ak;have a_:=ZQ (k:=k) p1 m (i+1) _ rfl (by omega) (by omega);rw [UC] at a_;have ai:=LN p1 (i:=i) (by omega);obtain ⟨D,al,qQ⟩:=aad p1 (wo:=(i:Int)) (to:=(ix b.2 (i:Int)).2) ⟨ai.2.2.1,ai.2.2.2⟩;have ao:=adx qQ (f:=(ix b.2 (i:Int)).1) ⟨ai.1,by omega⟩;have aw:=(SY p1 (i:=(i:Int)) ⟨by omega,h⟩).2;rw [if_pos (decide_eq_true h),p' ⟨by omega,h⟩,al,r_,p' ⟨qQ.len,by simp⟩,p' ⟨ai.1,by omega,qQ.len.symm⟩,rj i (by omega)];by_cases aQ:ix D (ix b.2 (i:Int)).1<0
    ·(have aeE:HG b (i:Int)=true:=aw.2 fun Ci=>by have:=ao.2 Ci;omega);rw [aeE,if_pos rfl] at a_;rw [if_pos (decide_eq_true aQ),p' (by omega)];exact a_
    ·have aeD:HG b (i:Int)=false:=by
      cases e:HG b (i:Int) with
      | false=>rfl
      | true=>exact absurd (ao.1 (by omega)) (aw.1 e)
     rw [aeD,if_neg (by decide),sU] at a_;rw [if_neg (by simpa using aQ)];exact a_
   ·rw [if_neg (by simpa using h),show i=b.2.length by omega];rfl
theorem ZP (ag:b.2.length≤1000):K5 b=some (N' b):=by
 rw [K5];by_cases h:qK b=0
 ·have p1:=G8.1 h;rw [OO p1,r_,SZ p1];dsimp only;rw [if_neg (by simp)];exact ZQ p1 p6 0 0 rfl (by omega) (ri (by omega))
 ·rw [ON ag h,r_,afn h];dsimp only;rw [if_pos (by simpa using h)]
end
end Go.Proofs.YtfakoboiahbhaaaGreat.Ab


namespace Go.Proofs.YtfakoboiahbhaaaGreat.Ab
open Go
set_option maxRecDepth 20000
set_option maxHeartbeats 4000000
noncomputable def Q1:ey :=
 .loop (some (Ez false [4,1,1,4,73])) (.seq (Gz [Gn 36 9,Gn 37 4,Gn 38 8,Gh 39 37 38 1,Gl 40 39,Gk 41 40,F1 42 36 41 .lss] (.cond (.sl 42) .skip (.exit 2))) (.seq (.block 3 (Gz [Gn 45 4,Gn 46 8,Gh 47 45 46 1,Gl 48 47,Gn 49 9,Gh 50 48 49 1,Gl 51 50,Gp 10 51] (.seq (Gz [Gn 52 10,F0 53 52 0 .lss,Gp 54 53,cP 55 [.sl 10] 54 false .iQ,cP 56 [.sl 6] 54 false .iQ,cP 57 [.hG 56] 54 false .pV,cP 58 [.hJ 55,.hJ 57] 54 false (.bin .geq),gL 59 [.hJ 54,.iA (.bool true),.hJ 58] .pick,Gp 60 59,cP 61 [.sl 6] 60 false .iQ,cP 62 [.sl 10] 60 false .iQ,cP 63 [.hJ 61,.hJ 62] 60 false (.pM 1),cP 64 [.hJ 63] 60 false (.pT .one),cP 65 [.hJ 64,.iA (.int .i64 0)] 60 false (.bin .gtr),gL 66 [.hJ 60,.iA (.bool true),.hJ 65] .pick] (.cond (.sl 66) (Gz [gL 2 [.iA (.ay [] 0 .full)] (.nil 1),gL 3 [.iA (.bool false)] .iQ] .ret) .skip)) (Gz [Gn 67 6,Gp 68 10,Gh 69 67 68 1,⟨none,[.hG 69,.iA (.int .i64 1)],none,none,.st 1⟩] (Gs [Gp 70 7,FZ 71 70 1,Gp 7 71]))))) (Gs [Gp 43 9,FZ 44 43 1,Gp 9 44])))
noncomputable def Q2:ey :=
 .loop (some (Ez false [4,1,1,3,74])) (.seq (Gz [Gn 30 8,Gn 31 4,Gk 32 31,F1 33 30 32 .lss] (.cond (.sl 33) .skip (.exit 0))) (.seq (.block 1 (.seq (Gz [Gm 9 0] (.block 2 Q1)) (Gz [Gn 72 4,Gn 73 8,Gh 74 72 73 1,Gl 75 74,Gk 76 75,F0 77 76 0 .eql] (.cond (.sl 77) (Gz [gL 2 [.iA (.ay [] 0 .full)] (.nil 1),gL 3 [.iA (.bool false)] .iQ] .ret) .skip)))) (Gs [Gp 34 8,FZ 35 34 1,Gp 8 35])))
noncomputable def aaO:ey :=
 Gz [gL 1 [.hG 0] .box,gL 2 [.iA (.ay [] 0 .full)] (.nil 1),gL 3 [.iA (.bool false)] .iQ] (Gz [gL 12 [.sl 1] (.pT (.str 2)),gL 13 [.iA (.func 29 [] []),.sl 12] (.call 3),Gp 11 13,GJ 14 11 0,gL 15 [.hJ 11] (.ext 1),Gp 4 14,Gp 5 15] (.seq (Gz [Gp 16 5,F0 17 16 0 .neq,Gp 18 17,cP 19 [.sl 4] 18 false .iQ,cP 20 [.hG 19] 18 false .pV,cP 21 [.sl 1] 18 false (.oP 1),cP 22 [.hJ 21] 18 false (.pT .one),cP 23 [.hG 22] 18 false .pV,cP 24 [.hJ 20,.hJ 23] 18 false (.bin .gtr),gL 25 [.hJ 18,.iA (.bool true),.hJ 24] .pick] (.cond (.sl 25) (Gz [gL 2 [.iA (.ay [] 0 .full)] (.nil 1),gL 3 [.iA (.bool false)] .iQ] .ret) .skip)) (Gz [F6 26 1 1,Gl 27 26,Gk 28 27,gL 29 [.sl 28,.hJ 28] (.zy [.int .i64 0] 1 8),Gp 6 29] (Gz [Gm 7 0] (.seq (Gz [Gm 8 0] (.block 0 Q2)) (Gz [Gp 78 4,Gp 79 7,Gp 80 6,Gk 81 80,F1 82 79 81 .eql,Gp 2 78,Gp 3 82] .ret))))))
theorem afX:zf Tryz.prog O' 49=some (aaO,83,[.tmp 2,.tmp 3]):=by kernel_rfl
def L7 (b:qb) (r1:(rB×Int)) (s2:Int) (qq:Int→p8→Option (rB×Bool)):Nat→Int→Int→p8→Option (rB×Bool)
 | 0,_,_,_=>none
 | m+1,Gy,qe,qi =>
   p5 (0≤s2∧s2<(r1.1.length:Int)) <|
   if (decide (qe<((ix r1.1 s2).length:Int)))=true then
    p5 (0≤s2∧s2<(r1.1.length:Int)) <|
    p5 (0≤qe∧qe<((ix r1.1 s2).length:Int)) <|
    if (decide ((ix (ix r1.1 s2) qe)<(0:Int)))=true then
     some ([],false)
    else
     if (decide ((((b.2.length:Int).toNat:Nat):Int)≤(ix (ix r1.1 s2) qe)))=true then
      some ([],false)
     else
      p5 (0≤(ix (ix r1.1 s2) qe)∧(ix (ix r1.1 s2) qe)<(((b.2.length:Int).toNat:Nat):Int)∧(b.2.length:Int).toNat=qi.length) <|
      if (decide ((0:Int)<(ix qi (ix (ix r1.1 s2) qe))))=true then
       some ([],false)
      else
       p5 (0≤(ix (ix r1.1 s2) qe)∧(ix (ix r1.1 s2) qe)<(((b.2.length:Int).toNat:Nat):Int)∧(b.2.length:Int).toNat=qi.length) <|
       L7 b r1 s2 qq m (w (Gy+(1:Int))) (w (qe+(1:Int))) (qi.set (ix (ix r1.1 s2) qe).toNat (1:Int))
   else
    qq Gy qi
def K9 (b:qb) (r1:(rB×Int)) (p9:Int→p8→Option (rB×Bool)):Nat→Int→Int→p8→Option (rB×Bool)
 | 0,_,_,_=>none
 | m+1,s1,s2,s3 =>
   if (decide (s2<(r1.1.length:Int)))=true then
    L7 b r1 s2 (fun xZ oi =>
      p5 (0≤s2∧s2<(r1.1.length:Int)) <|
      if (decide (((ix r1.1 s2).length:Int)=(0:Int)))=true then
       some ([],false)
      else
       K9 b r1 p9 m xZ (w (s2+(1:Int))) oi) p6 s1 (0:Int) s3
   else
    p9 s1 s3
def K8 (b:qb):Option (rB×Bool) :=
 (OE b).bind fun r1 =>
 if (decide (r1.2≠(0:Int)))=true then
  some ([],false)
 else
  if (decide ((b.2.length:Int)<(r1.1.length:Int)))=true then
   some ([],false)
  else
   p5 (0≤(b.2.length:Int)∧(b.2.length:Int)≤(b.2.length:Int)∧(b.2.length:Int).toNat*8≤140737488355328) <|
   K9 b r1 (fun FW O2 =>
     some (r1.1,(decide (FW=(((b.2.length:Int).toNat:Nat):Int))))) p6 (0:Int) (0:Int) (List.replicate (b.2.length:Int).toNat (0:Int))
theorem akw {b:qb} {r1:(rB×Int)} {s2:Int} {qq:Int→p8→Option (rB×Bool)} {Gy:Int} {qe:Int} {qi:p8} {v:(rB×Bool)} {Q:qY} {bA:au}  (jw:qv [.tmp 2,.tmp 3] Q (fun v=>(.tuple [(.ay (v.1.map jh) v.1.length .shared),(B v.2)])) v) (Hk:∀ (xZ:Int) (oi:p8) (p4:List I),qq xZ oi=some v→qI 83 [(4,(.ay (r1.1.map jh) r1.1.length .shared)),(6,(.ref 1 0 (b.2.length:Int).toNat (some (b.2.length:Int).toNat) 1)),(7,(hP xZ)),(8,(hP s2))] p4→Q (.exit 2) p4 [bA,au.cells (oi.map hP)]) {T:List I} (bX:eQ (Ez false [4,1,1,4,73]) T=GG 83 [(4,(.ay (r1.1.map jh) r1.1.length .shared)),(6,(.ref 1 0 (b.2.length:Int).toNat (some (b.2.length:Int).toNat) 1)),(7,(hP Gy)),(8,(hP s2)),(9,(hP qe))]) (h:L7 b r1 s2 qq p6 Gy qe qi=some v) :
  dB Tryz.prog O' 49 0 none Q1 T [bA,au.cells (qi.map hP)] Q:=by
 unfold Q1;refine wp_loop bX ?_;refine .intro (fun m T H=>∃ (Gy qe:Int) (qi:p8),T=GG 83 [(4,(.ay (r1.1.map jh) r1.1.length .shared)),(6,(.ref 1 0 (b.2.length:Int).toNat (some (b.2.length:Int).toNat) 1)),(7,(hP Gy)),(8,(hP s2)),(9,(hP qe))]∧H=[bA,au.cells (qi.map hP)]∧L7 b r1 s2 qq m Gy qe qi=some v) p6 ⟨Gy,qe,qi,rfl,rfl,h⟩ ?_;clear h bX;rintro m T H ⟨Gy,qe,qi,rfl,rfl,h⟩;cases m
 ·exact qT h
 rename_i m;rw [L7.eq_2] at h;conv=>whnf
 refine qj h id fun rk h=>?_;rw [rJ jh r1.1 s2 rk];conv=>whnf
 refine bs h (fun qM h=>?_) fun qM h=>?_
 ·rw [qM];conv=>whnf
  refine qj h id fun qP h=>?_;rw [rJ jh r1.1 s2 qP];conv=>whnf
  refine qj h id fun q3 h=>?_;rw [rJ hP (ix r1.1 s2) qe q3];conv=>whnf
  refine bs h (fun qG h=>?_) fun qG h=>?_
  ·rw [qG];(conv=>whnf);exact p7 h jw rfl rfl
  ·rw [qG];(conv=>whnf);refine bs h (fun rE h=>?_) fun rE h=>?_
   ·rw [rE];(conv=>whnf);exact p7 h jw rfl rfl
   ·rw [rE];(conv=>whnf);obtain ⟨rh,h⟩:=qn h;refine ⟨⟨rh.1,rh.2.1⟩,?_⟩;replace rh:0≤(ix (ix r1.1 s2) qe)∧(ix (ix r1.1 s2) qe)<(qi.length:Int):=⟨rh.1,by have:=rh.2;omega⟩;(conv=>whnf);refine Kc hP qi (ix (ix r1.1 s2) qe) rh ?_;(conv=>whnf);refine bs h (fun rm h=>?_) fun rm h=>?_
    ·rw [rm];(conv=>whnf);exact p7 h jw rfl rfl
    ·rw [rm];(conv=>whnf);obtain ⟨rM,h⟩:=qn h;refine ⟨⟨rM.1,rM.2.1⟩,?_⟩;replace rM:0≤(ix (ix r1.1 s2) qe)∧(ix (ix r1.1 s2) qe)<(qi.length:Int):=⟨rM.1,by have:=rM.2;omega⟩;(conv=>whnf);refine KY hP qi (ix (ix r1.1 s2) qe) (1:Int) rM ?_;(conv=>whnf);exact ⟨m,sf m,(w (Gy+(1:Int))),(w (qe+(1:Int))),(qi.set (ix (ix r1.1 s2) qe).toNat (1:Int)),rfl,rfl,h⟩
 ·rw [qM];conv=>whnf
  exact Hk _ _ _ h ⟨rfl,rfl⟩
theorem akv {b:qb} {r1:(rB×Int)} {p9:Int→p8→Option (rB×Bool)} {s1:Int} {s2:Int} {s3:p8} {v:(rB×Bool)} {Q:qY} {bA:au}  (jw:qv [.tmp 2,.tmp 3] Q (fun v=>(.tuple [(.ay (v.1.map jh) v.1.length .shared),(B v.2)])) v) (q7:∀ (FW:Int) (O2:p8) (p4:List I),p9 FW O2=some v→qI 83 [(4,(.ay (r1.1.map jh) r1.1.length .shared)),(6,(.ref 1 0 (b.2.length:Int).toNat (some (b.2.length:Int).toNat) 1)),(7,(hP FW))] p4→Q (.exit 0) p4 [bA,au.cells (O2.map hP)]) {T:List I} (bX:eQ (Ez false [4,1,1,3,74]) T=GG 83 [(4,(.ay (r1.1.map jh) r1.1.length .shared)),(6,(.ref 1 0 (b.2.length:Int).toNat (some (b.2.length:Int).toNat) 1)),(7,(hP s1)),(8,(hP s2))]) (h:K9 b r1 p9 p6 s1 s2 s3=some v) :
  dB Tryz.prog O' 49 0 none Q2 T [bA,au.cells (s3.map hP)] Q:=by
 unfold Q2;obtain ⟨Hd,qy⟩:∃ c,Q1=c:=⟨_,rfl⟩;rw [qy];refine wp_loop bX ?_;refine .intro (fun m T H=>∃ (s1 s2:Int) (s3:p8),T=GG 83 [(4,(.ay (r1.1.map jh) r1.1.length .shared)),(6,(.ref 1 0 (b.2.length:Int).toNat (some (b.2.length:Int).toNat) 1)),(7,(hP s1)),(8,(hP s2))]∧H=[bA,au.cells (s3.map hP)]∧K9 b r1 p9 m s1 s2 s3=some v) p6 ⟨s1,s2,s3,rfl,rfl,h⟩ ?_;clear h bX;rintro m T H ⟨s1,s2,s3,rfl,rfl,h⟩;cases m
 ·exact qT h
 rename_i m;rw [K9.eq_2] at h;conv=>whnf
 refine bs h (fun qC h=>?_) fun qC h=>?_
 ·rw [qC];conv=>whnf
  subst qy;refine akw ?_ ?_ (by exact rfl) h
  ·exact fun T H bI=>jw T H bI
  ·intro xZ oi p4 h qf;obtain ⟨qE,rfl⟩:=qf.ex;(conv=>whnf);refine qj h id fun Iw h=>?_;rw [rJ jh r1.1 s2 Iw];(conv=>whnf);refine bs h (fun Ha h=>?_) fun Ha h=>?_
   ·rw [Ha];(conv=>whnf);exact p7 h jw rfl rfl
   ·rw [Ha];(conv=>whnf);exact ⟨m,sf m,xZ,(w (s2+(1:Int))),oi,rfl,rfl,h⟩
 ·rw [qC];conv=>whnf
  exact q7 _ _ _ h ⟨rfl,rfl⟩
theorem QA {b:qb} {v:(rB×Bool)} (h:K8 b=some v):qp 49 [(.agg [(hP b.1),(.ay (b.2.flatMap pY) b.2.length .shared)])] (.tuple [(.ay (v.1.map jh) v.1.length .shared),(B v.2)]):=by
 refine qN dH afX rfl (Ih (pZ (rK (fun _=>(rK (fun _=>rfl) _ _ _)) _ _ _) (pZ rfl rfl))) fun Q bl=>?_;have jw:qv [.tmp 2,.tmp 3] Q (fun v=>(.tuple [(.ay (v.1.map jh) v.1.length .shared),(B v.2)])) v:=fun T H bI=>bl _ T H bI;unfold K8 at h;unfold aaO;obtain ⟨I3,ru⟩:∃ c,Q2=c:=⟨_,rfl⟩;rw [ru];conv=>whnf
 obtain ⟨r1,eT,h⟩:=qa h;refine ⟨qc.pl,_,akj eT,?_⟩;conv=>whnf
 refine bs h (fun fj h=>?_) fun fj h=>?_
 ·rw [fj];conv=>whnf
  exact p7 h jw rfl rfl
 ·rw [fj];conv=>whnf
  refine bs h (fun qk h=>?_) fun qk h=>?_
  ·rw [qk];(conv=>whnf);exact p7 h jw rfl rfl
  ·rw [qk];(conv=>whnf);obtain ⟨qw,h⟩:=qn h;refine ⟨qw.1,qw.2.1,qw.2.2,?_⟩;rw [Uq hP (0:Int)];(conv=>whnf);subst ru;refine akv ?_ ?_ (by exact rfl) h
   ·exact fun T H bI=>jw T H bI
   ·intro FW O2 p4 h qf;obtain ⟨qE,rfl⟩:=qf.ex;(conv=>whnf);exact p7 h jw rfl rfl

end Go.Proofs.YtfakoboiahbhaaaGreat.Ab


namespace Go.Proofs.YtfakoboiahbhaaaGreat.Ab
open Go
section
variable {b:p3}
def Ij (n:Nat) (S:List Int):List Int:=(upto n).map fun x=>if x∈S then 1 else 0
theorem MV (n:Nat) (S:List Int):(Ij n S).length=n:=by rw [Ij,sV,GN]
theorem ah3 {n:Nat} {S:List Int} {x:Int} (h:0≤x∧x<(n:Int)):ix (Ij n S) x=if x∈S then 1 else 0:=by
 obtain ⟨i,rfl⟩:∃ i:Nat,x=i:=⟨x.toNat,by omega⟩;have hi:i<n:=by omega
 rw [qW (by rw [MV];exact hi)];simp [Ij,upto]
theorem ah4 (n:Nat):List.replicate n (0:Int)=Ij n []:=by
 refine vB (by rw [MV];simp) fun i ad af=>?_;simp [Ij]
theorem ah5 {n:Nat} {S:List Int} {x:Int} (h:0≤x∧x<(n:Int)):(Ij n S).set x.toNat 1=Ij n (S++[x]):=by
 refine vB (by simp [MV]) fun i ad af=>?_;rw [List.getElem_set];have hi:i<n:=by rw [MV] at af;exact af
 simp only [Ij,upto,List.getElem_map,List.getElem_range,sN,sK];by_cases e:x.toNat=i
 ·rw [if_pos e,if_pos (.inr (by omega))]
 ·rw [if_neg e];by_cases aG:(i:Int)∈S
  ·rw [if_pos aG,if_pos (.inl aG)]
  ·rw [if_neg aG,if_neg (by rintro (a6 | a6);exact aG a6;omega)]
theorem ZX {r1:List (List Int)×Int} {s2:Int} (ai:0≤s2∧s2<(r1.1.length:Int)) {r D:List Int} (aj:ix r1.1 s2=r) (aN:(D++r).Nodup) (gX:rr b r) (ag:b.2.length≤1000) (qQ:D.length≤1000) (C3:r.length≤1000) {k:Int→List Int→Option (List (List Int)×Bool)} :
  ∀ (m i:Nat) (z y:Int),z=((D.length+i:Nat):Int)→y=(i:Int)→i≤r.length→r.length-i<m→L7 b r1 s2 k m z y (Ij b.2.length (D++r.take i))=k ((D.length+r.length:Nat):Int) (Ij b.2.length (D++r))
 | 0,_,_,_,_,_,_,h=>absurd h (by omega)
 | m+1,i,_,_,rfl,rfl,hi,hm=>by
   rw [L7,p' ai,aj];by_cases h:(i:Int)<(r.length:Int)
   ·(have qJ:i<r.length:=by omega);have al:=gX _ (sD qJ);have aeU:r[i] ∉ D++r.take i:=fun hm=>by
     rw [←vF i r,sQ qJ,←sA] at aN;exact (tT.1 aN).2.2 _ hm _ (ud ..) rfl
    rw [if_pos (decide_eq_true h),p' ai,p' ⟨by omega,h⟩,qW qJ,if_neg (by simpa using al.1),if_neg (by simpa using al.2),p' ⟨al.1,by simpa using al.2,by rw [MV];simp⟩,ah3 al,if_neg aeU,if_neg (by simp),p' ⟨al.1,by simpa using al.2,by rw [MV];simp⟩,ah5 al,sA,←tN qJ,rj i (by omega),rj (D.length+i) (by omega)];exact ZX ai aj aN gX ag qQ C3 m (i+1) _ _ rfl rfl (by omega) (by omega)
   ·rw [if_neg (by simpa using h),show i=r.length by omega,tC]
theorem ZW {r1:List (List Int)×Int} {P:List (List Int)} (B_:r1.1=P) (aN:P.flatten.Nodup) (gX:∀ r∈P,rr b r) (bM:∀ r∈P,r≠[]) (ag:b.2.length≤1000) (ak:P.length≤1000) {k:Int→List Int→Option (List (List Int)×Bool)} :
  ∀ (m i:Nat) (z y:Int),z=(((P.take i).flatten.length:Nat):Int)→y=(i:Int)→i≤P.length→P.length-i<m→K9 b r1 k m z y (Ij b.2.length (P.take i).flatten)=k ((P.flatten.length:Nat):Int) (Ij b.2.length P.flatten)
 | 0,_,_,_,_,_,_,h=>absurd h (by omega)
 | m+1,i,_,_,rfl,rfl,hi,hm=>by
   rw [K9,B_];have LA:∀ l:List (List Int),(∀ r∈l,rr b r)→rr b l.flatten:=fun l ak x al=>by
    obtain ⟨r,aj,al⟩:=ui.1 al;exact ak r aj x al
   by_cases h:(i:Int)<(P.length:Int)
   ·(have qJ:i<P.length:=by omega);have ku:=sD qJ;(have e:(P.take (i+1)).flatten=(P.take i).flatten++P[i]:=by rw [tN qJ,uS];simp);have jG:((P.take i).flatten++P[i]).Nodup:=by
     rw [←e];refine List.Nodup.sublist ?_ aN;(conv=>rhs;rw [←vF (i+1) P,uS]);exact List.sublist_append_left _ _
    have qQ:(P.take i).flatten.length≤1000:=sH (LH (tT.1 jG).1 (LA _ fun r aj=>gX r (uj aj))) ag;have aj:(P[i]).length≤1000:=sH (LH (tT.1 jG).2.1 (gX _ ku)) ag;rw [if_pos (decide_eq_true h)];have key:=ZX (b:=b) (r1:=r1) (s2:=(i:Int)) (D:=(P.take i).flatten) (r:=P[i]) (by rw [B_];exact ⟨by omega,h⟩) (by rw [B_,qW qJ]) jG (gX _ ku) ag qQ aj
     (k:=fun xZ oi=>p5 (0≤(i:Int)∧(i:Int)<(r1.1.length:Int)) <| if (decide (((ix r1.1 (i:Int)).length:Int)=(0:Int)))=true then some ([],false) else K9 b r1 k m xZ (w ((i:Int)+(1:Int))) oi) p6 0 ((P.take i).flatten.length:Int) 0 (by simp) rfl (by omega) (ri (by omega))
    rw [tq,sU,B_] at key;rw [key,p' ⟨by omega,h⟩,qW qJ,if_neg (by simpa using bM _ ku),rj i (by omega),←e];exact ZW B_ aN gX bM ag ak m (i+1) _ _ (by rw [e,su]) rfl (by omega) (by omega)
   ·rw [if_neg (by simpa using h),show i=P.length by omega,tC]
theorem agE (p1:qu b):(parts b).flatten.Perm (upto b.2.length):=(JO p1).2.1.flat (Jk _)
theorem ZV (p1:qu b):K8 b=some (parts b,true):=by
 have hlen:=p1.len;have SJ:=(JO p1).2.1.few Jj;have aC:=agE p1;have ak:=aC.length_eq;rw [GN] at ak;rw [K8,aki (by omega),r_,XF p1,if_neg (by simp),if_neg (by simp;exact SJ),p' ⟨by omega,by omega,by omega⟩];have key:=ZW (b:=b) (r1:=(parts b,0)) (P:=parts b) rfl (aC.nodup_iff.2 (Jk _)) (fun r aj=>(Tg p1 r aj).1) (JO p1).2.1.ne (by omega) (by omega)
  (k:=fun FW O2=>some (parts b,(decide (FW=(((b.2.length:Int).toNat:Nat):Int))))) p6 0 0 0 (by simp) rfl (by omega) (ri (by omega))
 rw [tq,List.flatten_nil,←ah4] at key;rw [te];refine key.trans ?_;rw [ak,te,decide_eq_true rfl]
def Td (b:p3) (done own:Row) (p:Int×Int):Bool:=!(done.any fun q=>decide (q.1=p.1)) && (decide (own=[]) || decide (fin b (own.getD (own.length-1) default)=qo b p))
def Xu (b:p3) (done own:Row) (i:Int):Row:=[(i,0),(i,1)].filter (Td b done own)
def S_ (b:p3) (done own:Row):Row:=(upto b.2.length).flatMap (Xu b done own)
theorem agq {done own:Row} {p:Int×Int}:p∈S_ b done own↔rP b p∧Td b done own p=true:=by
 unfold S_ Xu;rw [uZ];constructor
 ·rintro ⟨i,hi,aC⟩;rw [sO] at aC;have:=G3.1 hi;simp only [sj,tW,or_false] at aC;rcases aC with ⟨rfl | rfl,h⟩
  ·exact ⟨⟨this.1,this.2,by simp,by simp⟩,h⟩
  ·exact ⟨⟨this.1,this.2,by simp,by simp⟩,h⟩
 ·rintro ⟨⟨ad,af,aG,a6⟩,h⟩;refine ⟨p.1,G3.2 ⟨ad,af⟩,sO.2 ⟨?_,h⟩⟩;obtain ⟨x,y⟩:=p;have alm:0≤y:=aG;have aln:y≤1:=a6;rcases (show y=0∨y=1 by omega) with rfl | rfl <;> simp
structure Nj (b:p3) (D own:Row):Prop where
 ok:∀ p∈D++own,rP b p
 rV:((D++own).map (·.1)).Nodup
 go:own=[]∨∃ a,qm b a own=some (fin b (own.getD (own.length-1) default))
theorem Nj.len {D own:Row} (h:Nj b D own):D.length+own.length≤b.2.length:=by
 have:=LH h.rV (n:=b.2.length) fun x al=>by
  obtain ⟨p,aC,rfl⟩:=sm.1 al;exact ⟨(h.ok p aC).1,(h.ok p aC).2.1⟩
 simpa using this
theorem Nj.next {D own:Row} (h:Nj b D own) {p:Int×Int} (aC:p∈S_ b (D++own) own):Nj b D (own++[p]):=by
 obtain ⟨bO,aN⟩:=agq.1 aC;unfold Td at aN;simp only [Bool.and_eq_true,Bool.or_eq_true,Bool.not_eq_true',decide_eq_true_eq] at aN;refine ⟨fun q a3=>?_,?_,.inr ?_⟩
 ·rw [←sA] at a3;rcases sN.1 a3 with a3 | a3
  ·exact h.ok q a3
  ·rw [sK.1 a3];exact bO
 ·rw [←sA,sZ,tT];refine ⟨h.rV,by simp,fun x al y a0 e=>?_⟩;simp only [sx,tM,sK] at a0;subst a0;subst e;obtain ⟨q,a3,e⟩:=sm.1 al;have:=uA.1 aN.1 q a3;simp [e] at this
 ·have N5:(own++[p]).getD ((own++[p]).length-1) default=p:=by simp
  rw [N5];rcases aN.2 with aS | aS
  ·subst aS;exact ⟨qo b p,JE.2 ⟨rfl,rfl⟩⟩
  ·by_cases ad:own=[]
   ·subst ad;exact ⟨qo b p,JE.2 ⟨rfl,rfl⟩⟩
   ·rcases h.go with af | ⟨a,af⟩
    ·exact absurd af ad
    ·refine ⟨a,?_⟩;rw [IA,af,r_];exact JE.2 ⟨aS.symm,rfl⟩
section
variable {V3:List Int} (yA:V3.length≤1000) (aes:∀ x∈V3,0≤x∧x≤255)
include yA aes
end
end
end Go.Proofs.YtfakoboiahbhaaaGreat.Ab


namespace Go.Proofs.YtfakoboiahbhaaaGreat.Ab
open Go
set_option maxRecDepth 20000
set_option maxHeartbeats 4000000
def qS (l:List Int):Nat→List Int
 | 0=>[]
 | k+1=>if 0<k∧l.getD k 0=l.getD (k-1) 0 then qS l k else qS l k++[l.getD k 0]
theorem RD (l:List Int):∀ k,(qS l k).length≤k
 | 0=>sc _
 | k+1=>by
   have:=RD l k;simp only [qS];split
   ·omega
   ·simp;omega
theorem ac5 (lo id off len:Nat) (H:List au) (l:List I) (bD:lo≤id) (ah:H[id]?=some (.cells l)) (h:off+len=l.length) :
  kR Go.Proofs.Tryz.prog lo #[38] H [.ref id off len none 1]=some (.tuple [],H.set id (.cells (l.take off++List.replicate len (hP 0)))):=by
 rw [ac6 lo id off len H l bD ah (by omega),tc (by omega),sU]
theorem Rv (l:List Int) (k x:Nat) (h:(qS l k).length≤x) (al:x<l.length):((qS l k++l.drop (qS l k).length).map hP)[x]?=some (hP (l.getD x 0)):=by
 rw [List.getElem?_map,sJ h,sX,show (qS l k).length+(x-(qS l k).length)=x by omega,List.getElem?_eq_getElem al];simp [al]
theorem ah7 (l:List Int) (A:List Int) (v:Int) (h:A.length<l.length):((A++l.drop A.length).map hP).set A.length (hP v)=((A++[v])++l.drop (A++[v]).length).map hP:=by
 rw [sZ,List.set_append_right _ _ (by simp),sV,tU,sQ h,sx,List.set_cons_zero];simp
theorem Xe (l:List Int) (x:Nat) (al:x<l.length):(l.map hP)[x]?=some (hP (l.getD x 0)):=by simp [al]
section
variable {H:List au} {id lo:Nat}
theorem adh (bD:lo≤id) (l:List Int) (aS:0<l.length) (ak:l.length≤1000) (ah:H[id]?=some (.cells (l.map hP))) {Q:cB→List I→List au→Prop}
  (bl:∀ T Rh,c4 T 2=.ref id 0 (qS l l.length).length none 1→Rh=H.set id (.cells ((qS l l.length++List.replicate (l.length-(qS l l.length).length) 0).map hP))→Q .ret T Rh) :
  dB Go.Proofs.Tryz.prog Rr 74 lo none MR (GG 61 [(0,.ref id 0 l.length none 1),(2,.ay [] 0 (.uniq 1))]) H Q:=by
 have aE:=(sa.1 ah).1;have Cc:Nat.ble lo id=true:=Nat.ble_eq_true_of_le bD;have gs:∀ c:au,(H.set id c)[id]?=some c:=fun c=>by rw [List.getElem?_set_self aE]
 have HR:∀ c e:au,((H.set id c).set id e)[id]?=some e:=fun c e=>by rw [sS,gs]
 have same:H.set id (.cells (l.map hP))=H:=by
  obtain ⟨ad,af⟩:=sa.1 ah;rw [←af,List.set_getElem_self]
 unfold MR;obtain ⟨m0,GR⟩:∃ c,Oo=c:=⟨_,rfl⟩;rw [GR];conv=>whnf
 have fin:∀ T,c4 T 2=.ref id 0 l.length none 1→qS l l.length=l→Q .ret T H:=fun T bX e=>bl _ _ (by rw [bX,e]) (by rw [e,tU,List.replicate_zero,sU,same]);by_cases af:((l.length:Nat):Int)<2
 ·rw [decide_eq_true af];conv=>whnf
  have:l.length=1:=by omega
  refine fin _ rfl ?_
  match l,this with
  | [x],_=>rfl
 rw [decide_eq_false af];conv=>whnf
 refine .intro (fun m T H'=>∃ k,1≤k∧k≤l.length∧m=l.length-k∧qS l k=l.take k∧T=GG 61 [(0,.ref id 0 l.length none 1),(3,hP (k:Nat))]∧H=H') (l.length-1) ⟨1,by omega,by omega,rfl,?_,rfl,rfl⟩ ?_
 ·match l,aS with
  | x::r,_=>rfl
 rintro m T H' ⟨k,CE,pk,rfl,he,rfl,rfl⟩;subst GR;unfold Oo XZ;obtain ⟨fO,Hf⟩:∃ c,Ue=c:=⟨_,rfl⟩;rw [Hf];conv=>whnf
 by_cases av:(k:Int)<(l.length:Int)
 ·rw [decide_eq_true av];conv=>whnf
  refine ⟨by omega,?_⟩;conv=>whnf
  refine DW ah ?_;conv=>whnf
  refine DW (x:=hP (l.getD k 0)) (by rw [show 0+(k:Int).toNat*1=k by simp];exact Xe l k (by omega)) ?_;conv=>whnf
  rw [show IntKind.i64.wrap ((k:Int)-1)=((k-1:Nat):Int) by rw [H3 _ (by omega) (by omega)];omega];refine ⟨by omega,?_⟩;conv=>whnf
  refine DW ah ?_;conv=>whnf
  refine DW (x:=hP (l.getD (k-1) 0)) (by rw [show 0+(((k-1:Nat)):Int).toNat*1=k-1 by simp];exact Xe l (k-1) (by omega)) ?_;conv=>whnf
  by_cases aZ:l.getD k 0=l.getD (k-1) 0
  ·rw [decide_eq_true aZ];(conv=>whnf);(have N2:qS l (k+1)=l.take k:=by simp only [qS];rw [if_pos ⟨by omega,aZ⟩,he]);subst Hf;unfold Ue;obtain ⟨bq,dY⟩:∃ c,Uc=c:=⟨_,rfl⟩;obtain ⟨dW,B1⟩:∃ c,Ud=c:=⟨_,rfl⟩;rw [dY,B1];(conv=>whnf);refine ⟨rfl,by omega,fun _=>?_,fun h=>by omega⟩;(conv=>whnf);refine .intro (fun m T H'=>∃ q,1≤q∧k+q≤l.length∧m=l.length-q∧(qS l (k+q)).length+1≤k+q∧T=GG 61 [(0,.ref id 0 l.length none 1),(3,hP (qS l (k+q)).length),(4,.ref id (0+(k:Int).toNat*1) (l.length-(k:Int).toNat) none 1),(5,hP (q:Nat))]∧H'=H.set id (.cells ((qS l (k+q)++l.drop (qS l (k+q)).length).map hP))) (l.length-1) ⟨1,sc _,by omega,rfl,by rw [N2];simp;omega,?_,?_⟩ ?_
   ·rw [N2,sY,tK (by omega)];rfl
   ·rw [N2,sY,tK (by omega),vF];exact same.symm
   rintro m T H' ⟨q,aeZ,CW,rfl,hw,rfl,rfl⟩;subst dY;unfold Uc XX;obtain ⟨a',cb⟩:∃ c,Ub=c:=⟨_,rfl⟩;rw [cb];(conv=>whnf);by_cases a3:(q:Int)<((l.length-k:Nat):Int)
   ·rw [show decide ((q:Int)<((l.length-(k:Int).toNat:Nat):Int))=true from decide_eq_true a3];(conv=>whnf);refine ⟨by simp;omega,?_⟩;(conv=>whnf);refine DW (gs _) ?_;(conv=>whnf);refine DW (x:=hP (l.getD (k+q) 0)) (by rw [show 0+(k:Int).toNat*1+(q:Int).toNat*1=k+q by simp];exact Rv l (k+q) (k+q) (by omega) (by omega)) ?_;(conv=>whnf);rw [show IntKind.i64.wrap ((q:Int)-1)=((q-1:Nat):Int) by rw [H3 _ (by omega) (by omega)];omega];refine ⟨by simp;omega,?_⟩;(conv=>whnf);refine DW (gs _) ?_;(conv=>whnf);refine DW (x:=hP (l.getD (k+q-1) 0)) (by rw [show 0+(k:Int).toNat*1+(((q-1:Nat)):Int).toNat*1=k+q-1 by simp;omega];exact Rv l (k+q) (k+q-1) (by omega) (by omega)) ?_;(conv=>whnf);by_cases al:l.getD (k+q) 0=l.getD (k+q-1) 0
    ·rw [decide_eq_false (not_not_intro al)];(conv=>whnf);(have e:qS l (k+(q+1))=qS l (k+q):=by rw [←tD];simp only [qS];rw [if_pos ⟨by omega,al⟩]);refine ⟨l.length-(q+1),by omega,q+1,by omega,by omega,rfl,by rw [e];omega,?_,by rw [e]⟩;rw [e,←GY q (by omega)];rfl
    ·rw [decide_eq_true al];(conv=>whnf);(have e:qS l (k+(q+1))=qS l (k+q)++[l.getD (k+q) 0]:=by rw [←tD];simp only [qS];rw [if_neg fun h=>al h.2]);subst cb;refine Il fun mS G2=>?_;unfold Ub;(conv=>whnf);refine ⟨by simp;omega,?_⟩;(conv=>whnf);refine DW (gs _) ?_;(conv=>whnf);refine DW (x:=hP (l.getD (k+q) 0)) (by rw [show 0+(k:Int).toNat*1+(q:Int).toNat*1=k+q by simp];exact Rv l (k+q) (k+q) (by omega) (by omega)) ?_;(conv=>whnf);refine ⟨by omega,?_⟩;(conv=>whnf);rw [Cc];(conv=>whnf);refine DW (gs _) ?_;(conv=>whnf);refine A_ (by simp;omega) ?_;(conv=>whnf);refine G2 _ _ _ ?_;(conv=>whnf);refine ⟨l.length-(q+1),by omega,q+1,by omega,by omega,rfl,by rw [e,su,tV];omega,?_,?_⟩
     ·rw [e,su,tV,←GY q (by omega),←GY (qS l (k+q)).length (by omega)];rfl
     ·rw [sS,e,show 0+((qS l (k+q)).length:Int).toNat*1=(qS l (k+q)).length by simp,ah7 l (qS l (k+q)) _ (by omega)]
   ·rw [show decide ((q:Int)<((l.length-(k:Int).toNat:Nat):Int))=false from decide_eq_false a3];(conv=>whnf);(obtain rfl:q=l.length-k:=by omega);rw [show k+(l.length-k)=l.length by omega] at hw ⊢;subst B1;unfold Ud XY;(conv=>whnf);refine ⟨rfl,by omega,fun _=>?_,fun h=>by omega⟩;(conv=>whnf);refine ⟨_,_,fun C=>(ac5 lo id _ _ _ _ bD (gs _) (by simp)),?_⟩;(conv=>whnf);refine ⟨rfl,by omega,?_⟩;(conv=>whnf);refine bl _ _ rfl ?_;rw [sS];have e:(List.take (0+((qS l l.length).length:Int).toNat*1) ((qS l l.length++l.drop (qS l l.length).length).map hP)++List.replicate (l.length-((qS l l.length).length:Int).toNat) (hP 0))=(qS l l.length++List.replicate (l.length-(qS l l.length).length) 0).map hP:=by
     simp
    rw [←e]
  ·rw [decide_eq_false aZ];(conv=>whnf);refine ⟨l.length-(k+1),by omega,k+1,by omega,by omega,rfl,?_,by rw [←GY k (by omega)];rfl,rfl⟩;simp only [qS];rw [if_neg fun h=>aZ h.2,he,tN (by omega)];simp [show k<l.length by omega]
 ·rw [decide_eq_false av];conv=>whnf
  obtain rfl:k=l.length:=by omega
  exact fin _ rfl (by rw [he,tC])
theorem adg (l:List Int) (aS:0<l.length) (ak:l.length≤1000) (bD:lo≤H.length) :
  Sem Go.Proofs.Tryz.prog (.fn 74) [.ay (l.map hP) l.length (.uniq 1)] H lo (.ref H.length 0 (qS l l.length).length none 1) (H++[.cells ((qS l l.length++List.replicate (l.length-(qS l l.length).length) 0).map hP)]):=by
 refine G_ dH Xo rfl ⟨by simp,fun j ad af=>by rw [sB af]⟩ fun Q bl=>?_;unfold Ua;obtain ⟨BH,Js⟩:∃ c,MR=c:=⟨_,rfl⟩;rw [Js];conv=>whnf
 subst Js;have h:=adh (H:=H++[.cells (l.map hP)]) (id:=H.length) bD l aS ak (by simp) (Q:=Q) fun T Rh bX al=>bl _ _ _ ⟨.inr rfl,by rw [al,q5];exact ⟨rfl,fun j o aw=>.inr aw⟩,by simp only [jZ,bX,sd,g']⟩;unfold MR at h ⊢;obtain ⟨m0,GR⟩:∃ c,Oo=c:=⟨_,rfl⟩;rw [GR] at h ⊢;conv=>whnf
 refine .inl ⟨by omega,?_⟩;conv=>whnf
 conv at h=>whnf
 exact h
end

def Vc (n:Nat):Prop:=∀ (l:List Int),l.length≤n→∀ (H:List au) (id lo:Nat),lo≤id→H[id]?=some (.cells (l.map hP)) →
 ∃ N,Sem Tryz.prog (.fn 73) [.ref id 0 l.length none 1] H lo (.tuple []) (H.set id (.cells ((rY l).map hP))++List.replicate N .dead)
theorem aie:Vc 12:=fun l h H id lo bD ah=>⟨0,by rw [List.replicate_zero,sU];exact Yj l bD h rfl ah⟩
section
variable {H:List au} {lo:Nat}
theorem afh:Sem Go.Proofs.Tryz.prog (.fn 115) [.ay [] 0 (.own 1),hP 0,hP 0] H lo (.tuple []) H:=by
 refine G_ dH Xj rfl (ba.refl _ _) fun Q bl=>?_;unfold TU;conv=>whnf
 refine .intro (fun m T H'=>T=GG 49 [(0,.ay [] 0 (.own 1)),(1,hP 0),(2,hP 0),(6,hP 1)]∧H=H') 0 ⟨rfl,rfl⟩ ?_;rintro m T H' ⟨rfl,rfl⟩;conv=>whnf
 exact bl _ _ _ ⟨.inl rfl,⟨by simp,fun j o aw=>.inr aw⟩,rfl⟩
theorem agI {IU:Int}:Sem Go.Proofs.Tryz.prog (.fn 96) [.ay [] 0 (.own 1),hP 0,hP 0,hP IU] H lo (.tuple []) H:=by
 refine G_ dH Xq rfl (ba.refl _ _) fun Q bl=>?_;unfold Uo;obtain ⟨Rx,IK⟩:∃ c,Ot=c:=⟨_,rfl⟩;rw [IK];conv=>whnf
 refine .intro (fun m T H'=>T=GG 134 [(0,.ay [] 0 (.own 1)),(1,hP 0),(2,hP 0),(3,hP IU),(8,B true),(9,B true)]∧H'=H) 0 ⟨rfl,rfl⟩ ?_;rintro m T H' ⟨rfl,rfl⟩;subst IK;unfold Ot;obtain ⟨a',cb⟩:∃ c,Oq=c:=⟨_,rfl⟩;obtain ⟨Rw,Lq⟩:∃ c,Up=c:=⟨_,rfl⟩;rw [cb,Lq];conv=>whnf
 subst cb;unfold Oq;conv=>whnf
 refine ⟨_,_,G9 afh,?_⟩;conv=>whnf
 exact bl _ _ _ ⟨.inr rfl,⟨rfl,fun j o aw=>.inr aw⟩,rfl⟩
theorem aib:Sem Go.Proofs.Tryz.prog (.fn 73) [.ay [] 0 (.uniq 1)] H lo (.tuple []) H:=by
 refine G_ dH Xn rfl (ba.refl _ _) fun Q bl=>?_;unfold T';conv=>whnf
 refine ⟨by first | rfl | simp only [List.all_cons,List.all_nil,MG,MO,MH,MJ,MI,MK,MQ,MP,JA,ML,MM,MN,Bool.and_true,Bool.and_self],_,Pb 0 (by decide),?_⟩
 conv=>whnf
 refine ⟨_,_,G9 agI,?_⟩;conv=>whnf
 exact bl _ _ _ ⟨.inl rfl,⟨by simp,fun j o aw=>.inr aw⟩,rfl⟩
theorem ac9:Sem Go.Proofs.Tryz.prog (.fn 75) [.ay [] 0 .shared] H lo (.ay [] 0 (.uniq 1)) H:=by
 refine G_ dH Xp rfl (ba.refl _ _) fun Q bl=>?_;unfold Uf Ug;conv=>whnf
 refine ⟨.dn,H,fun C=>by kernel_rfl,?_⟩;conv=>whnf
 refine ⟨?_,?_⟩
 ·conv=>whnf
  exact bl _ _ _ ⟨.inr rfl,⟨rfl,fun j o aw=>.inr aw⟩,rfl⟩
 ·conv=>whnf
  refine ⟨rfl,by omega,rfl,by omega,?_⟩;conv=>whnf
  exact bl _ _ _ ⟨.inr rfl,⟨rfl,fun j o aw=>.inr aw⟩,rfl⟩
theorem adf:Sem Go.Proofs.Tryz.prog (.fn 74) [.ay [] 0 (.uniq 1)] H lo (.ay [] 0 .shared) H:=by
 refine G_ dH Xo rfl (ba.refl _ _) fun Q bl=>?_;unfold Ua MR;obtain ⟨m0,GR⟩:∃ c,Oo=c:=⟨_,rfl⟩;rw [GR];conv=>whnf
 refine .inr ⟨rfl,?_⟩;conv=>whnf
 exact bl _ _ _ ⟨.inr rfl,⟨rfl,fun j o aw=>.inr aw⟩,rfl⟩
end

theorem ahZ {b:p3} {rows:List Row} {k:Nat} (aS:qK b=0) (av:k<rows.length) (aO:∀ r∈rows.take k,(qV b r).2.2=0) (ag:(qV b rows[k]).2.2≠0):HB b rows=(0,(qV b rows[k]).2.2):=by
 unfold HB;rw [if_neg (by simp [aS])]
 have:rows.find? (fun r=>decide ((qV b r).2.2≠0))=some rows[k]:=by
  obtain ⟨x,al⟩:∃ x,x=rows[k]:=⟨_,rfl⟩;have e:rows=rows.take k++x::rows.drop (k+1):=by rw [al,←sQ av,vF]
  rw [←al] at ag ⊢;conv=>lhs;rw [e]
  rw [List.find?_append,vd.2 (fun r aj=>by simpa using aO r aj),Option.none_or,List.find?_cons_of_pos (by simpa using ag)]
 rw [this]
theorem ah0 {b:p3} {rows:List Row} (aS:qK b=0) (aO:∀ r∈rows,(qV b r).2.2=0):HB b rows=if ((rows.flatten).map (·.1)).Nodup then (if (rows.flatten).length≠b.2.length then ((0:Int),(15:Int)) else ((rows.length:Int),0)) else (0,11):=by
 unfold HB;rw [if_neg (by simp [aS]),vd.2 (fun r aj=>by simpa using aO r aj)]
theorem Wa {l:List Int} (ai:l.Pairwise (·≤·)):∀ k,k≤l.length→((qS l k).length=k↔(l.take k).Nodup)
 | 0,_=>by simp [qS]
 | k+1,av=>by
   have a_:=Wa ai k (by omega);have hle:=RD l k;(have I':k<l.length:=by omega);(have e1:l.getD k 0=l[k]:=by simp [I']);have ae7:l.take (k+1)=l.take k++[l[k]]:=tN I';have jG:(l.take (k+1)).Nodup↔(l.take k).Nodup∧l[k] ∉ l.take k:=by
    rw [ae7,tT];constructor
    ·rintro ⟨a,_,c⟩;exact ⟨a,fun hm=>c _ hm _ (by simp) rfl⟩
    ·rintro ⟨a,c⟩;exact ⟨a,by simp,fun x al y a0 e=>c (by simp at a0;subst a0;subst e;exact al)⟩
   have ku:l[k]∈l.take k↔0<k∧l.getD k 0=l.getD (k-1) 0:=by
    constructor
    ·intro hm;obtain ⟨i,hi,e⟩:=List.getElem_of_mem hm;(have WX:i<k:=by simp at hi;omega);rw [List.getElem_take] at e;(have CE:k-1<l.length:=by omega);refine ⟨by omega,?_⟩;rw [e1,show l.getD (k-1) 0=l[k-1] by simp [CE]];have ad:=tf.1 ai (k-1) k CE I' (by omega);have af:l[i]≤l[k-1]:=by
      rcases Nat.lt_or_ge i (k-1) with h | h
      ·exact tf.1 ai i (k-1) (by omega) CE h
      ·have:i=k-1:=by omega
       subst this;exact uD _
     omega
    ·rintro ⟨ad,af⟩;(have CE:k-1<l.length:=by omega);rw [e1,show l.getD (k-1) 0=l[k-1] by simp [CE]] at af;rw [af];exact List.mem_iff_getElem.2 ⟨k-1,by simp;omega,by rw [List.getElem_take]⟩
   rw [jG];simp only [qS];split
   ·rename_i h;constructor
    ·intro af;omega
    ·rintro ⟨_,aG⟩;exact absurd (ku.2 h) aG
   ·rename_i h;rw [su,tV];constructor
    ·intro af;exact ⟨a_.1 (by omega),fun hm=>h (ku.1 hm)⟩
    ·rintro ⟨aG,_⟩;rw [a_.2 aG]
theorem aic (l:List Int):(rY l).Pairwise (·≤·):=by
 have:=(Ov Sort.swo_ltInt l).2;refine this.imp fun h=>?_;simp only [Sort.ltInt,decide_eq_false_iff_not] at h;omega
theorem adb (l:List Int):(qS (rY l) (rY l).length).length<l.length↔¬ l.Nodup:=by
 have ad:=Wa (aic l) (rY l).length (sc _);have af:=RD (rY l) (rY l).length;have aG:=Qg l;rw [tC,(Yi l).nodup_iff] at ad;rw [←ad];omega
theorem ac4 {n:Nat} (ai:Vc n) (aN:n≤1000) {b:p3} {rows:List Row} (ag:b.2.length≤1000) (aj:rows.length≤1000) (C3:∀ r∈rows,r.length≤1000) (ax:(∀ r∈rows,(qV b r).2.2=0)→rows.flatten.length≤n) :
  qp 25 [(.agg [(hP b.1),(.ay (b.2.flatMap pY) b.2.length .shared)]),(.ay (rows.map (qB pY)) rows.length .shared)] (.tuple [(hP (HB b rows).1),(hP (HB b rows).2)]):=by
 refine qN dH afy rfl (Ih (pZ rfl (pZ rfl rfl))) fun Q bl=>?_;have jw:∀ T H,H5 [.tmp 4,.tmp 5] (.tuple [(hP (HB b rows).1),(hP (HB b rows).2)]) .ret T H→Q .ret T H:=fun T H bI=>bl _ T H bI;clear bl;have Lt:∀ (x y:Int) T H,HB b rows=(x,y)→H5 [.tmp 4,.tmp 5] (.tuple [hP x,hP y]) .ret T H→Q .ret T H:=fun x y T H e h=>by
  rw [e] at jw;exact jw T H h
 unfold XW;obtain ⟨ald,Wz⟩:∃ c,T4=c:=⟨_,rfl⟩;rw [Wz];conv=>whnf
 subst Wz;unfold T4;obtain ⟨a',cb⟩:∃ c,T2=c:=⟨_,rfl⟩;obtain ⟨acH,NB⟩:∃ c,T3=c:=⟨_,rfl⟩;rw [cb,NB];conv=>whnf
 refine ⟨qc.pl,_,ZJ (Qv b ag),?_⟩;conv=>whnf
 subst cb;unfold T2;conv=>whnf
 by_cases aS:qK b≠0
 ·rw [decide_eq_true aS];conv=>whnf
  exact Lt 0 (qK b) _ _ (if_pos aS) (Ke rfl rfl)
 rw [decide_eq_false aS];have aS:=vb.1 aS;conv=>whnf
 subst NB;unfold T3;obtain ⟨mZ,HQ⟩:∃ c,T_=c:=⟨_,rfl⟩;obtain ⟨BH,Js⟩:∃ c,P8=c:=⟨_,rfl⟩;obtain ⟨acG,Mq⟩:∃ c,P7=c:=⟨_,rfl⟩;rw [HQ,Js,Mq];conv=>whnf
 have PF:∀ k,(rows.take k).flatten.length≤1000*rows.length:=fun k=>by
  refine sH (RI fun r aj=>C3 r (uj aj)) ?_;rw [sY];exact Nat.mul_le_mul_left _ (Nat.min_le_right _ _)
 have aly:1000*rows.length≤1000000:=by omega
 refine .intro (fun m T H=>∃ (k:Nat) (Y:List au),k≤rows.length∧(∀ r∈rows.take k,(qV b r).2.2=0)∧m=rows.length-k∧T=GG 73 [(1,(.ay (rows.map (qB pY)) rows.length .shared)),(2,.ptr 0 0),(7,.ay (((rows.take k).flatten.map (·.1)).map hP) ((rows.take k).flatten.map (·.1)).length (.uniq 1)),(20,(.ay (rows.map (qB pY)) rows.length .shared)),(21,hP rows.length),(22,hP (k:Int))]∧H=au.cells [(hP b.1),(.ay (b.2.flatMap pY) b.2.length .shared)]::Y) _ ⟨0,[],by omega,by simp,rfl,rfl,rfl⟩ ?_;rintro m T H ⟨k,Y,av,aO,rfl,rfl,rfl⟩;conv=>whnf
 refine It (fun h=>?_) (fun h=>?_)
 ·have I':k<rows.length:=by omega
  subst HQ;unfold T_;obtain ⟨fO,Hf⟩:∃ c,T9=c:=⟨_,rfl⟩;rw [Hf];conv=>whnf
  refine ⟨⟨by omega,h⟩,?_⟩;rw [rJ (qB pY) rows (k:Int) ⟨by omega,h⟩,qW I'];conv=>whnf
  subst Hf;unfold T9;obtain ⟨bk,b8⟩:∃ c,T5=c:=⟨_,rfl⟩;obtain ⟨dW,B1⟩:∃ c,T8=c:=⟨_,rfl⟩;rw [b8,B1];conv=>whnf
  refine ⟨qc.pl,_,LW (Qu b rows[k] ag (C3 _ (sD I'))),?_⟩;conv=>whnf
  subst b8;unfold T5;conv=>whnf
  by_cases he:(qV b rows[k]).2.2≠0
  ·rw [decide_eq_true he];(conv=>whnf);exact Lt 0 _ _ _ (ahZ aS I' aO he) (Ke rfl rfl)
  rw [decide_eq_false he];have he:=vb.1 he;conv=>whnf
  subst B1;unfold T8;obtain ⟨b7,hn⟩:∃ c,T7=c:=⟨_,rfl⟩;rw [hn];conv=>whnf
  have alE:=C3 _ (sD I');have yE:=PF k;refine .intro (fun m T H=>∃ (j:Nat) (Y:List au),j≤rows[k].length∧m=rows[k].length-j∧T=GG 73 [(1,(.ay (rows.map (qB pY)) rows.length .shared)),(2,.ptr 0 0),(7,.ay ((((rows.take k).flatten++rows[k].take j).map (·.1)).map hP) (((rows.take k).flatten++rows[k].take j).map (·.1)).length (.uniq 1)),(20,(.ay (rows.map (qB pY)) rows.length .shared)),(21,hP rows.length),(22,hP (k:Int)),(36,(.ay (rows[k].flatMap pY) rows[k].length .shared)),(37,hP rows[k].length),(38,hP (j:Int))]∧H=au.cells [(hP b.1),(.ay (b.2.flatMap pY) b.2.length .shared)]::Y) _ ⟨0,Y,by omega,rfl,by rw [tq,sU];rfl,rfl⟩ ?_;rintro m T H ⟨j,q6,aw,rfl,rfl,rfl⟩;conv=>whnf
  refine It (fun af=>?_) (fun af=>?_)
  ·(have lV:j<rows[k].length:=by omega);subst hn;unfold T7;obtain ⟨bq,dY⟩:∃ c,T6=c:=⟨_,rfl⟩;rw [dY];(conv=>whnf);refine ⟨⟨by omega,af⟩,?_⟩;rw [qU pY 2 ql rows[k] (j:Int) ⟨by omega,af⟩,qW lV];(conv=>whnf);refine DW (x:=au.cells [(hP (0:Int)),(hP (0:Int))]) (by first | exact qh.h | rfl | (simp [sb,I.settle];done)) ?_
   (conv=>whnf);obtain ⟨A,aK⟩:∃ A,A=((rows.take k).flatten++rows[k].take j).map (·.1):=⟨_,rfl⟩;have RY:A.length≤1002000:=by
    rw [aK,sV,su,sY];omega
   have oV:A++[rows[k][j].1]=((rows.take k).flatten++rows[k].take (j+1)).map (·.1):=by
    rw [tN lV,←sA,sZ,←aK];rfl
   rw [←aK];subst dY;unfold T6;(conv=>whnf);have U':(A.length:Int)=(A.length:Int)∧0≤(A.length:Int)∧(A.length:Int)≤(A.length:Int):=⟨rfl,by omega,by omega⟩;refine ⟨U',?_⟩;erw [Yf hP A (A.length:Int) U'.2];rw [te,tC];(conv=>whnf);refine DW (x:=au.cells [hP rows[k][j].1,hP rows[k][j].2]) (by first | exact qh.h | rfl | (simp [sb,I.settle];done)) ?_
   (conv=>whnf);refine ⟨rfl,by omega,by omega,by omega,by simp,?_⟩;erw [Lj hP A rows[k][j].1];rw [oV];(conv=>whnf);exact ⟨rows[k].length-(j+1),by omega,j+1,q6++[au.cells [hP rows[k][j].1,hP rows[k][j].2]],by omega,rfl,by rw [←GY j (by omega)];rfl,by rw [q5];rfl⟩
  ·(have fk:j=rows[k].length:=by omega);(have e:(rows.take k).flatten++rows[k].take j=(rows.take (k+1)).flatten:=by rw [fk,tC,tN I',uS];simp);rw [e];(conv=>whnf);refine ⟨rows.length-(k+1),by omega,k+1,q6,by omega,fun r aj=>?_,rfl,by rw [←GY k (by omega)];rfl,rfl⟩;rw [tN I'] at aj;rcases sN.1 aj with aj | aj
   ·exact aO r aj
   ·rw [sK.1 aj];exact he
 ·obtain rfl:k=rows.length:=by omega
  rw [tC] at aO ⊢;have Hj:=ah0 aS aO;have hlen:=ax aO;obtain ⟨A,aK⟩:∃ A,A=rows.flatten.map (·.1):=⟨_,rfl⟩;have RY:A.length=rows.flatten.length:=by rw [aK,sV]
  rw [←aK] at Hj ⊢;obtain ⟨id,aE⟩:∃ id,id=(au.cells [(hP b.1),(.ay (b.2.flatMap pY) b.2.length .shared)]::Y).length:=⟨_,rfl⟩;by_cases Pv:A=[]
  ·subst Pv;(conv=>whnf);refine .inr ⟨rfl,?_⟩;(conv=>whnf);refine ⟨_,_,G9 aib,?_⟩;(conv=>whnf);subst Js;unfold P8;obtain ⟨m0,GR⟩:∃ c,On=c:=⟨_,rfl⟩;rw [GR];(conv=>whnf);refine ⟨_,_,Pd rfl ac9,?_⟩;(conv=>whnf);refine ⟨_,_,G9 adf,?_⟩;(conv=>whnf);subst GR;unfold On;(conv=>whnf);rw [if_pos (by simp)] at Hj;(have alk:rows.flatten.length=0:=by rw [←RY];rfl);by_cases iE:(0:Int)<(b.2.length:Int)
   ·rw [show decide (((([]:List Int).length:Nat):Int)<(b.2.length:Int))=true from decide_eq_true iE];(conv=>whnf);exact Lt 0 15 _ _ (by rw [Hj,if_pos (by omega)]) (Ke rfl rfl)
   ·rw [show decide (((([]:List Int).length:Nat):Int)<(b.2.length:Int))=false from decide_eq_false iE];(conv=>whnf);subst Mq;unfold P7;(conv=>whnf);exact Lt _ 0 _ _ (by rw [Hj,if_neg (by omega)]) (Ke rfl rfl)
  ·have b':A.length≠0:=fun h=>Pv (tu.1 h);(conv=>whnf);refine .inl ⟨b',?_⟩;(conv=>whnf);rw [←aE];obtain ⟨N,ae1⟩:=ai A (by omega) ((au.cells [(hP b.1),(.ay (b.2.flatMap pY) b.2.length .shared)]::Y)++[au.cells (A.map hP)]) id 0 (sq _) (by rw [aE];exact Iv _ _);refine ⟨_,_,G9 ae1,?_⟩;rw [aE,q5,←aE];(conv=>whnf);subst Js;unfold P8;obtain ⟨m0,GR⟩:∃ c,On=c:=⟨_,rfl⟩;rw [GR];(conv=>whnf);obtain ⟨S,cm⟩:∃ S,S=rY A:=⟨_,rfl⟩;(have R5:S.length=A.length:=by rw [cm,Qg]);have PE:=adb A;rw [←cm] at PE ⊢;rw [←R5];rw [←R5] at PE;refine ⟨_,_,Pd (rK (fun _=>rfl) _ _ _) (ac_ S [] (by omega) (by omega) (by rw [sU,aE];exact (sB (by simp)).trans (Iv _ _))),?_⟩;(conv=>whnf);refine ⟨_,_,G9 (adg S (by omega) (by omega) (sq _)),?_⟩;(conv=>whnf);by_cases aZ:((qS S S.length).length:Int)<(S.length:Int)
   ·rw [decide_eq_true aZ];(conv=>whnf);exact Lt 0 11 _ _ (by rw [Hj,if_neg (PE.1 (by omega))]) (Ke rfl rfl)
   rw [decide_eq_false aZ];(conv=>whnf);subst GR;unfold On;(conv=>whnf);have jG:A.Nodup:=vb.1 fun h=>aZ (by have:=PE.2 h;omega);rw [if_pos jG] at Hj;have hle:rows.flatten.length≤b.2.length:=by
    rw [←RY];refine LH jG fun x al=>?_;rw [aK] at al;obtain ⟨p,aC,rfl⟩:=sm.1 al;obtain ⟨r,CX,aC⟩:=ui.1 aC;have:=LO.1 ((ac0 (aO r CX)).2.2.1 p aC);exact ⟨this.1,this.2.1⟩
   by_cases iE:(S.length:Int)<(b.2.length:Int)
   ·rw [decide_eq_true iE];(conv=>whnf);exact Lt 0 15 _ _ (by rw [Hj,if_pos (by omega)]) (Ke rfl rfl)
   ·rw [decide_eq_false iE];(conv=>whnf);subst Mq;unfold P7;(conv=>whnf);exact Lt _ 0 _ _ (by rw [Hj,if_neg (by omega)]) (Ke rfl rfl)
def UQ (b:p3) (rows:List Row):Option (Int×Int):=p5 (b.2.length≤1000∧rows.length≤1000∧rows.flatten.length≤12) (some (HB b rows))
theorem agp {α:Type} {R:List (List α)} {r:List α} (h:r∈R):r.length≤R.flatten.length:=by
 obtain ⟨s,t,rfl⟩:=uT h;simp;omega
theorem akd {b:p3} {rows:List Row} {v:Int×Int} (h:UQ b rows=some v):qp 25 [(.agg [(hP b.1),(.ay (b.2.flatMap pY) b.2.length .shared)]),(.ay (rows.map (qB pY)) rows.length .shared)] (.tuple [(hP v.1),(hP v.2)]):=by
 obtain ⟨⟨ad,af,aG⟩,h⟩:=qn h;obtain rfl:=Option.some.inj h;exact ac4 aie (by decide) ad af (fun r aj=>by have:=agp aj;omega) fun _=>aG
theorem akc {b:p3} {rows:List Row} (ad:b.2.length≤1000) (af:rows.length≤1000) (aG:rows.flatten.length≤12):UQ b rows=some (HB b rows):=p' ⟨ad,af,aG⟩

noncomputable def aaN:ey :=
 Gz [gL 1 [.hG 0] .box,Gm 2 0,gL 3 [.iA (.bool false)] .iQ] (Gz [gL 11 [.sl 1] (.pT (.str 2)),gL 12 [.iA (.func 35 [] []),.sl 11] (.call 3),Gp 10 12,GJ 13 10 0,gL 14 [.hJ 10] (.ext 1),Gp 4 13,Gp 5 14] (Gz [gL 16 [.sl 1] (.pT (.str 2)),gL 17 [.iA (.func 41 [] []),.sl 16] (.call 3),Gp 15 17,GJ 18 15 0,gL 19 [.hJ 15] (.ext 1),Gp 6 18,Gp 7 19] (.seq (Gz [Gp 20 5,F0 21 20 0 .neq,Gp 22 21,cP 23 [.hG 7] 22 false .iQ,cP 24 [.hJ 23,.iA (.int .i64 0)] 22 false (.bin .neq),gL 25 [.hJ 22,.iA (.bool true),.hJ 24] .pick,Gp 26 25,cP 27 [.sl 6] 26 false .iQ,⟨some 28,[.iA (.func 24 [] []),.sl 27],some (26,false),none,.call 3⟩,gL 29 [.hJ 26,.iA (.bool true),.hJ 28] .pick] (.cond (.sl 29) (Gz [Gp 30 4,Gp 2 30,gL 3 [.iA (.bool false)] .iQ] .ret) .skip)) (Gz [gL 32 [.sl 1] (.pT (.str 2)),Gn 33 6,gL 34 [.iA (.func 25 [] []),.sl 32,.sl 33] (.call 3),Gp 31 34,GJ 35 31 0,gL 36 [.hJ 31] (.ext 1),Gp 8 35,Gp 5 36] (Gz [gL 38 [.hJ 1] (.pT (.str 2)),Gp 39 6,gL 40 [.iA (.func 26 [] []),.sl 38,.sl 39] (.call 3),Gp 37 40,GJ 41 37 0,gL 42 [.hJ 37] (.ext 1),Gp 9 41,Gp 7 42] (Gz [Gn 43 4,Gp 44 5,F0 45 44 0 .eql,Gp 46 45,cP 47 [.hG 7] 46 true .iQ,cP 48 [.hJ 47,.iA (.int .i64 0)] 46 true (.bin .eql),gL 49 [.hJ 46,.hJ 48,.iA (.bool false)] .pick,Gp 50 49,cP 51 [.hG 8] 50 true .iQ,cP 52 [.sl 4] 50 true .iQ,cP 53 [.hJ 51,.hJ 52] 50 true (.bin .eql),gL 54 [.hJ 50,.hJ 53,.iA (.bool false)] .pick,Gp 55 54,cP 56 [.hG 9] 55 true .iQ,cP 57 [.hG 4] 55 true .iQ,cP 58 [.hJ 56,.hJ 57] 55 true (.bin .eql),gL 59 [.hJ 55,.hJ 58,.iA (.bool false)] .pick,Gp 2 43,Gp 3 59] .ret))))))
theorem afW:zf Tryz.prog VE 48=some (aaN,60,[.tmp 2,.tmp 3]):=by kernel_rfl
def K7 (b:qb):Option (Int×Bool) :=
 (OI b).bind fun r1 =>
 (OJ b).bind fun r2 =>
 if (decide (r1.2≠(0:Int)))=true then
  some (r1.1,false)
 else
  if (decide (r2.2≠(0:Int)))=true then
   some (r1.1,false)
  else
   (M4 r2.1).bind fun r3 =>
   if r3=true then
    some (r1.1,false)
   else
    (UQ b r2.1).bind fun r4 =>
    (OD b r2.1).bind fun q8 =>
    if (decide (r4.2=(0:Int)))=true then
     if (decide (q8.2=(0:Int)))=true then
      if (decide (r4.1=r1.1))=true then
       some (r1.1,(decide (q8.1=r1.1)))
      else
       some (r1.1,false)
     else
      some (r1.1,false)
    else
     some (r1.1,false)
theorem Qz {b:qb} {v:(Int×Bool)} (h:K7 b=some v):qp 48 [(.agg [(hP b.1),(.ay (b.2.flatMap pY) b.2.length .shared)])] (.tuple [(hP v.1),(B v.2)]):=by
 refine qN dH afW rfl (Ih (pZ rfl (pZ rfl rfl))) fun Q bl=>?_;have jw:qv [.tmp 2,.tmp 3] Q (fun v=>(.tuple [(hP v.1),(B v.2)])) v:=fun T H bI=>bl _ T H bI;unfold K7 at h;unfold aaN;conv=>whnf
 obtain ⟨r1,eT,h⟩:=qa h;refine ⟨qc.pl,_,akq eT,?_⟩;conv=>whnf
 obtain ⟨r2,fj,h⟩:=qa h;refine ⟨qc.pl,_,aks fj,?_⟩;conv=>whnf
 refine bs h (fun qk h=>?_) fun qk h=>?_
 ·rw [qk];conv=>whnf
  exact p7 h jw rfl rfl
 ·rw [qk];conv=>whnf
  refine bs h (fun qw h=>?_) fun qw h=>?_
  ·rw [qw];(conv=>whnf);exact p7 h jw rfl rfl
  ·rw [qw];(conv=>whnf);obtain ⟨r3,qC,h⟩:=qa h;refine ⟨qc.pl,_,akb qC,?_⟩;(conv=>whnf);cases r3
   ·(conv=>whnf);replace h:=GV rfl h;obtain ⟨r4,rk,h⟩:=qa h;refine ⟨qc.pl,_,akd rk,?_⟩;(conv=>whnf);obtain ⟨q8,qM,h⟩:=qa h;refine ⟨qc.pl,_,akh qM,?_⟩;(conv=>whnf);refine bs h (fun qP h=>?_) fun qP h=>?_
    ·rw [qP];(conv=>whnf);refine bs h (fun q3 h=>?_) fun q3 h=>?_
     ·rw [q3];(conv=>whnf);refine bs h (fun qG h=>?_) fun qG h=>?_
      ·rw [qG];(conv=>whnf);exact p7 h jw rfl rfl
      ·rw [qG];(conv=>whnf);exact p7 h jw rfl rfl
     ·rw [q3];(conv=>whnf);exact p7 h jw rfl rfl
    ·rw [qP];(conv=>whnf);exact p7 h jw rfl rfl
   ·(conv=>whnf);replace h:=GX rfl h;exact p7 h jw rfl rfl

end Go.Proofs.YtfakoboiahbhaaaGreat.Ab


namespace Go.Proofs.YtfakoboiahbhaaaGreat.Ab
open Go
section
variable {b:p3}
theorem Mn.adF {R:List Row} (h:Mn b R):R.flatten.length=b.2.length:=by
 have:=h.all.length_eq
 rwa [sV,GN] at this
theorem ZU (p1:qu b):K7 b=some ((Lo b:Int),true):=by
 have dy:=p1.len;obtain ⟨ad,qQ⟩:=X6 p1;have ai:=qQ.short p1;have ao:=ac3 p1 qQ.toRowsOf qQ.ne;rw [K7,akp (by omega),r_,akr (by omega),r_,Wl p1,if_pos (G8.2 p1)];rw [if_neg (by simp),if_neg (by simp),aka (by simp;omega) (fun r aj=>by have:=ai.2 r aj;omega),r_,if_neg (by decide),akc (by omega) (show (Kd b).length≤1000 by omega) (show (Kd b).flatten.length≤12 by have:=qQ.adF;omega),r_,ake (by omega) (show (Kd b).length≤20 by omega) (fun r aj=>by have:=ai.2 r aj;omega),r_,ao];simp [qQ.len]
end
end Go.Proofs.YtfakoboiahbhaaaGreat.Ab


namespace Go.Proofs.YtfakoboiahbhaaaGreat.Ab
open Go
set_option maxRecDepth 20000
set_option maxHeartbeats 4000000

end Go.Proofs.YtfakoboiahbhaaaGreat.Ab


namespace Go.Proofs.YtfakoboiahbhaaaGreat.Ab
open Go
section
variable {b:p3}
end
end Go.Proofs.YtfakoboiahbhaaaGreat.Ab
