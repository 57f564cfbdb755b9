
import Derived.Test.YtfakoboiahbhaaaGreatJr9
import Derived.Test.YtfakoboiahbhaaaGreatJr4
import Derived.Test.YtfakoboiahbhaaaGreatJr8
import Derived.KernelRfl
import Derived.Test.YtfakoboiahbhaaaGreatProg
import Derived.Test.YtfakoboiahbhaaaGreatJr5
set_option linter.unusedSimpArgs false
set_option linter.unusedVariables false
set_option linter.unusedSectionVars false

open Bool renaming and_eq_true→sx,and_true→tS,false_eq_true→tM,or_eq_true→tH
open Int renaming toNat_natCast→th
open List renaming all_cons→tr,all_nil→tY,any_eq_false→uz,any_eq_true→uU,append_assoc→sj,append_nil→sN,append_of_mem→uW,drop_eq_getElem_cons→sT,drop_eq_nil_of_le→tb,drop_left'→wq,drop_zero→sO,ext_getElem→vE,filter_append→t_,filter_cons→tc,filter_eq_self→uq,filter_nil→vi,flatten_append→uV,flatten_cons→tI,getElem?_append→sc,getElem?_append_left→sA,getElem?_append_right→sL,getElem?_drop→sX,getElem?_eq_getElem→sq,getElem?_eq_some_iff→sa,getElem?_map→su,getElem?_replicate→vB,getElem?_set_ne→si,getElem?_set_self→sg,getElem_mem→sE,length_append→sm,length_cons→sH,length_eq_zero_iff→s_,length_filter_le→tJ,length_map→sZ,length_pos_iff→ug,length_singleton→tn,length_take→sR,map_append→sY,map_cons→se,map_drop→uE,map_map→ud,map_nil→tt,map_take→uo,mem_append→sS,mem_cons→sk,mem_cons_of_mem→tX,mem_cons_self→ur,mem_filter→sM,mem_flatMap→vb,mem_flatten→tT,mem_map→ss,mem_map_of_mem→uw,mem_singleton→sB,nil_append→tW,nodup_append→ua,not_mem_nil→tN,pairwise_cons→tg,perm_ext_iff_of_nodup→uL,replicate_zero→wx,set_append_right→v7,set_getElem_self→uI,set_set→sQ,sum_cons→tj,take_append_drop→uX,take_left'→vj,take_length→tz,take_succ_cons→vd,take_succ_eq_append_getElem→tx,take_zero→tf
open Nat renaming add_assoc→tK,ble_eq_true_of_le→ue,le_refl→sb,le_trans→sI,lt_succ_self→sv,min_eq_left→tq,mul_one→tD,pos_of_ne_zero→vr,sub_self→tL,zero_add→sP,zero_le→sr
open Option renaming bind_some→r_,map_some→sd
namespace Go.Proofs.YtfakoboiahbhaaaGreat.Ab
open Go
def LA (l:Row):Row:=(l.map fun p=>(p.1,1-p.2)).reverse
section
variable {b:p3} {S:List Int}
theorem aiF {p:Int×Int} (h:0≤p.2∧p.2≤1):qp b (p.1,1-p.2)=fin b p∧fin b (p.1,1-p.2)=qp b p:=by
 unfold qp fin;rcases show p.2=0∨p.2=1 by omega with e | e
 ·simp [e]
 ·simp [e]
theorem XT:∀ (l:Row) (a c:Int),(∀ p∈l,0≤p.2∧p.2≤1)→qv b a l=some c→qv b c (LA l)=some a
 | [],a,c,_,h=>by
   have:a=c:=by simpa [qv] using h
   subst this;rfl
 | p::l,a,c,ad,h=>by
   obtain ⟨cb,b8⟩:=H9.1 h;have a_:=XT l _ c (fun q a3=>ad q (by simp [a3])) b8;have ax:=aiF (b:=b) (ad p (by simp));unfold LA at a_ ⊢;rw [se,List.reverse_cons,IL,a_,r_];exact Js.2 ⟨ax.1,by rw [ax.2];exact cb⟩
theorem acp (l:Row):((LA l).map (·.1)).Perm (l.map (·.1)):=by
 unfold LA;rw [List.map_reverse,ud];exact List.reverse_perm _
theorem TE:∀ (l:Row) (a c:Int),qv b a l=some c→∀ p∈l,rf b (l.map (·.1)) a (qp b p)∧rf b (l.map (·.1)) a (fin b p)
 | [],_,_,_,p,aC=>by simp at aC
 | q::l,a,c,h,p,aC=>by
   obtain ⟨cb,b8⟩:=H9.1 h;have a3:rf b ((q::l).map (·.1)) a (fin b q):=.one (i:=q.1) (by simp) ((Im q a).2 (.inl cb)) ((Im q _).2 (.inr rfl));rcases sk.1 aC with rfl | aC
   ·exact ⟨by rw [cb];exact .refl,a3⟩
   ·have a_:=TE l _ c b8 p aC;(have hm:∀ x∈l.map (·.1),x∈(q::l).map (·.1):=fun x al=>by simp only [se,sk];exact .inr al);exact ⟨a3.trans (a_.1.mono hm),a3.trans (a_.2.mono hm)⟩
theorem XV {l:Row} {a c:Int} (h:qv b a l=some c):Kz b (l.map (·.1)):=by
 intro x al y a0 f g aQ aO;obtain ⟨p,aC,rfl⟩:=ss.1 al;obtain ⟨q,a3,rfl⟩:=ss.1 a0;have ao:∀ p∈l,∀ f,qI b p.1 f→rf b (l.map (·.1)) a f:=fun p aC f aQ=>by
  rcases (Im p f).1 aQ with rfl | rfl
  ·exact (TE l a c h p aC).1
  ·exact (TE l a c h p aC).2
 exact (ao p aC f aQ).symm.trans (ao q a3 g aO)
theorem Kz.perm {S S':List Int} (h:Kz b S) (aC:S.Perm S'):Kz b S':=fun x al y a0 f g aQ aO=>(h x (aC.mem_iff.2 al) y (aC.mem_iff.2 a0) f g aQ aO).mono fun z bm=>aC.mem_iff.1 bm
def JC (b:p3) (S:List Int) (f:Int):Prop:=S=[]∨(Kz b S∧(∃ i∈S,qI b i f)∧(qU b S=[]∨((qU b S).length=2∧f∈qU b S)))
structure HB (b:p3) (S:List Int) (a c:Int) (l:Row):Prop where
 ok:∀ p∈l,Hp b p
 go:qv b a l=some c
 all:(l.map (·.1)).Perm S
theorem N9 (p2:qu b) {p:Int×Int} (aC:Hp b p):(0≤qp b p∧qp b p<b.1)∧0≤fin b p∧fin b p<b.1:=by
 have hm:=Hf.2 ⟨aC.1,aC.2.1⟩;exact ⟨Ob p2 hm ((Im p _).2 (.inl rfl)),Ob p2 hm ((Im p _).2 (.inr rfl))⟩
theorem XU:∀ (l:Row) (a c:Int),l≠[]→qv b a l=some c→∃ p∈l,fin b p=c
 | [],_,_,h,_=>absurd rfl h
 | [p],a,c,_,h=>⟨p,by simp,(Js.1 h).2⟩
 | p::q::l,a,c,_,h=>by
   obtain ⟨r,aj,e⟩:=XU (q::l) _ c (by simp) (H9.1 h).2;exact ⟨r,tX _ aj,e⟩
theorem HB.ends (p2:qu b) {a c:Int} {l:Row} (h:HB b S a c l) (aS:l≠[]):(0≤a∧a<b.1)∧(0≤c∧c<b.1)∧(∃ i∈S,qI b i a)∧∃ i∈S,qI b i c:=by
 obtain ⟨p,aC,e⟩:=XU l a c aS h.go
 match l,aS,h with
 | q::l,_,h =>
   have ck:=(H9.1 h.go).1;have ad:=N9 p2 (h.ok q (by simp));have af:=N9 p2 (h.ok p aC);rw [ck] at ad;rw [e] at af;exact ⟨ad.1,af.2,⟨q.1,h.all.mem_iff.1 (by simp),(Im q _).2 (.inl ck)⟩,⟨p.1,h.all.mem_iff.1 (uw aC),(Im p _).2 (.inr e)⟩⟩
theorem HB.OT (p2:qu b) {a c:Int} {l:Row} (h:HB b S a c l) (aS:l≠[]):(a=c→qU b S=[])∧(a≠c→(qU b S).Perm [a,c]):=by
 have Wt:=fun v=>NC l a c v h.go;have bV:=p2.f6;obtain ⟨cd,ao,_,_⟩:=h.ends p2 aS;have aZ:∀ v,qz b (l.map (·.1)) v=qz b S v:=fun v=>MQ h.all v;constructor
 ·rintro rfl;refine List.eq_nil_iff_forall_not_mem.2 fun v ae=>?_;have ad:=(Ka.1 ae).2;have af:=Wt v;rw [aZ] at af;split at af <;> omega
 ·intro bM;refine (uL ((OV S).imp fun h e=>by omega) (by simp [bM])).2 fun v=>?_;have af:=Wt v;rw [aZ] at af;rw [Ka];simp only [sk,tN,or_false];constructor
  ·rintro ⟨_,ad⟩;by_cases e1:a=v
   ·exact .inl e1.symm
   ·by_cases ck:c=v
    ·exact .inr ck.symm
    ·rw [if_neg e1,if_neg ck] at af;omega
  ·rintro (rfl | rfl)
   ·rw [if_pos rfl,if_neg (Ne.symm bM)] at af;exact ⟨⟨cd.1,by omega⟩,by omega⟩
   ·rw [if_pos rfl,if_neg bM] at af;exact ⟨⟨ao.1,by omega⟩,by omega⟩
theorem HB.back {a c:Int} {l:Row} (h:HB b S a c l):HB b S c a (LA l):=by
 refine ⟨fun p aC=>?_,XT l a c (fun p aC=>(h.ok p aC).2.2) h.go,(acp l).trans h.all⟩;unfold LA at aC;obtain ⟨q,a3,rfl⟩:=ss.1 (List.mem_reverse.1 aC);have:=h.ok q a3;exact ⟨this.1,this.2.1,by simp only;have:=this.2.2;omega,by simp only;have:=this.2.2;omega⟩
theorem HB.ahD {a f:Int} {l:Row} (h:HB b S a a l) (aQ:∃ i∈S,qI b i f):∃ l',HB b S f f l':=by
 obtain ⟨i,hi,ks⟩:=aQ;obtain ⟨p,aC,rfl⟩:=ss.1 (h.all.mem_iff.2 hi);obtain ⟨dL,kK,rfl⟩:=uW aC;have G7:=h.go;rw [IL] at G7;obtain ⟨c,cb,b8⟩:=p' G7;obtain ⟨d_,hp⟩:=H9.1 b8;have mk:∀ {x y:Row} {f:Int},x++y=dL++p::kK→qv b a x=some f→qv b f y=some a→HB b S f f (y++x):=fun {x y f} e ad af=>by
  have It:(y++x).Perm (dL++p::kK):=by rw [←e];exact List.perm_append_comm
  exact ⟨fun q a3=>h.ok q (It.mem_iff.1 a3),by rw [IL,af];exact ad,(It.map _).trans h.all⟩
 rcases (Im p f).1 ks with rfl | rfl
 ·exact ⟨_,mk (x:=dL) (y:=p::kK) rfl (by rw [d_];exact cb) (by rw [d_];exact b8)⟩
 ·exact ⟨_,mk (x:=dL++[p]) (y:=kK) (by simp) (by rw [IL,cb];exact Js.2 ⟨d_,rfl⟩) hp⟩
theorem adK (p2:qu b) (cm:ri b S) (ak:S.length≤990) (aS:S≠[]) (bI:Kz b S):∃ R,Un b S R:=by
 obtain ⟨l,a,ad,af,aG⟩:=round_part p2 cm ak aS bI;exact ⟨_,Xi p2 cm aS af aG⟩
theorem RowsOf.single {R:List Row} (h:RowsOf b S R) (ad:R.length=1):∃ l a c,R=[l]∧HB b S a c l:=by
 obtain ⟨l,rfl⟩:=List.length_eq_one_iff.1 ad;obtain ⟨a,c,aO⟩:=h.go l (by simp);exact ⟨l,a,c,rfl,h.ok l (by simp),aO,by simpa using h.all⟩
theorem Re (p2:qu b) (cm:ri b S) (ak:S.length≤990) {f:Int}:JC b S f↔∃ l c,HB b S f c l:=by
 constructor
 ·rintro (rfl | ⟨bI,aQ,aq⟩)
  ·exact ⟨[],f,fun p aC=>absurd aC (by simp),rfl,by simp⟩
  ·(have aS:S≠[]:=fun e=>by obtain ⟨i,hi,_⟩:=aQ;rw [e] at hi;simp at hi);obtain ⟨R,jy⟩:=adK p2 cm ak aS bI;have hlen:=jy.len;have ad:R.length=1:=by
    rw [hlen];rcases aq with aq | aq
    ·rw [aq];rfl
    ·rw [aq.1];rfl
   obtain ⟨l,a,c,adC,bX⟩:=jy.toRowsOf.single ad;have jG:l≠[]:=jy.ne l (by rw [adC];simp);have Hw:=bX.OT p2 jG;rcases aq with aq | ⟨af,ad6⟩
   ·have:a=c:=Classical.byContradiction fun bM=>by
     have:=(Hw.2 bM).length_eq;rw [aq] at this;simp at this
    subst this;obtain ⟨l',lN⟩:=bX.ahD aQ;exact ⟨l',f,lN⟩
   ·(have bM:a≠c:=fun e=>by have:=Hw.1 e;rw [this] at af;simp at af);have:=(Hw.2 bM).mem_iff.1 ad6;simp only [sk,tN,or_false] at this;rcases this with rfl | rfl
    ·exact ⟨l,c,bX⟩
    ·exact ⟨_,_,bX.back⟩
 ·rintro ⟨l,c,bX⟩;by_cases aS:l=[]
  ·subst aS;left;have:=bX.all.length_eq;simp at this;exact s_.1 this.symm
  ·right;refine ⟨(XV bX.go).perm bX.all,(bX.ends p2 aS).2.2.1,?_⟩;have Hw:=bX.OT p2 aS;by_cases e:f=c
   ·exact .inl (Hw.1 e)
   ·exact .inr ⟨(Hw.2 e).length_eq,(Hw.2 e).mem_iff.2 (by simp)⟩
theorem Zu {s:List Int} {v:Int} (ai:s.length≤1000):∀ (m i:Nat) (z:Int),z=i→i≤s.length→s.length-i<m→K6 s v (fun _=>some (-1:Int)) m z=some (posOf (fun x=>decide (v=x)) (s.drop i) i)
 | 0,i,_,_,_,h=>absurd h (by omega)
 | m+1,i,_,rfl,hi,hm=>by
   rw [K6];by_cases h:i<s.length
   ·rw [IJ h,Hh h,qW h,sT h,posOf];by_cases aC:v=s[i]
    ·rw [if_pos (decide_eq_true aC),if_pos (decide_eq_true aC)]
    ·rw [if_neg (by simpa using aC),if_neg (by simpa using aC),rH i (by omega),Zu ai m (i+1) _ rfl (by omega) (by omega)]
   ·rw [II h,tb (by omega)];rfl
theorem ajv {s:List Int} {v:Int} (ai:s.length≤1000):NK s v=some (decide (v∈s)):=by
 have:=Zu (v:=v) ai p8 0 0 rfl (sr _) (rC (by omega));rw [sO] at this;rw [NK,Pz,this,r_,Nj];congr 1;rw [Bool.eq_iff_iff];simp
def KN (b:p3) (f i:Int):Bool:=decide ((ix b.2 i).1=f) || decide ((ix b.2 i).2=f)
theorem ad5 {f i:Int}:KN b f i=true↔qI b i f:=by unfold KN qI;simp
theorem ajl (p2:qu b) (cm:ri b S) (aN:S.Nodup) (f:Int):∃ r:Bool,K3 b S f=some r∧(r=true↔JC b S f):=by
 have ak:S.length≤b.2.length:=JN aN cm;have dA:=p2.len;have ala:(qU b S).length≤6:=sI (tJ _ _) (by rw [rN];omega);have lT:=Nd p2 cm;obtain ⟨out,ad,af,_⟩:=Z6 (b:=b) (S:=S) p2.len aN cm;rw [K3,T' p2 cm (by omega),r_];by_cases aS:S=[]
 ·rw [if_pos (by simp [aS])];exact ⟨true,rfl,by simp [JC,aS]⟩
 ·rw [if_neg (by simpa using aS)];have eo:=af.one aS
  have Wo:JW S (fun qx=>Mm qx b f)=some (S.any (KN b f)):=Uf (fun x al=>by
   have nz:=cm x al;rw [Mm,qe nz,qe nz];unfold KN
   split <;> simp [*]) (by omega)
  have Ov:S.any (KN b f)=true↔∃ i∈S,qI b i f:=by
   rw [uU];simp only [ad5]
  by_cases aG:2<(qU b S).length
  ·rw [if_pos (by simp;omega)];refine ⟨false,rfl,?_⟩;simp only [tM,false_iff];rintro (h | ⟨_,_,h | h⟩)
   ·exact aS h
   ·rw [h] at aG;simp at aG
   ·omega
  ·rw [if_neg (by simp;omega)];by_cases a6:(qU b S).length=2
   ·rw [if_pos (by simp [a6]),ajv (by omega),r_];by_cases bL:f∈qU b S
    ·rw [if_pos (decide_eq_true bL),Wo,r_];by_cases bV:S.any (KN b f)=true
     ·rw [if_pos bV,ad,r_];refine ⟨_,rfl,?_⟩;rw [decide_eq_true_eq,show ((out.length:Int)=1↔out.length=1) by omega,eo];exact ⟨fun h=>.inr ⟨h,Ov.1 bV,.inr ⟨a6,bL⟩⟩,fun h=>h.elim (fun h=>absurd h aS) fun h=>h.1⟩
     ·rw [if_neg bV];exact ⟨false,rfl,by simp only [tM,false_iff];exact fun h=>h.elim aS fun h=>bV (Ov.2 h.2.1)⟩
    ·rw [if_neg (by simpa using bL)];refine ⟨false,rfl,?_⟩;simp only [tM,false_iff];rintro (h | ⟨_,_,h | h⟩)
     ·exact aS h
     ·rw [h] at a6;simp at a6
     ·exact bL h.2
   ·have cN:qU b S=[]:=s_.1 (by omega);rw [if_neg (by simp;omega),Wo,r_];by_cases bV:S.any (KN b f)=true
    ·rw [if_pos bV,ad,r_];refine ⟨_,rfl,?_⟩;rw [decide_eq_true_eq,show ((out.length:Int)=1↔out.length=1) by omega,eo];exact ⟨fun h=>.inr ⟨h,Ov.1 bV,.inl cN⟩,fun h=>h.elim (fun h=>absurd h aS) fun h=>h.1⟩
    ·rw [if_neg bV];exact ⟨false,rfl,by simp only [tM,false_iff];exact fun h=>h.elim aS fun h=>bV (Ov.2 h.2.1)⟩
end
end Go.Proofs.YtfakoboiahbhaaaGreat.Ab


namespace Go.Proofs.YtfakoboiahbhaaaGreat.Ab
open Go
set_option maxRecDepth 20000
set_option maxHeartbeats 4000000

end Go.Proofs.YtfakoboiahbhaaaGreat.Ab


namespace Go.Proofs.YtfakoboiahbhaaaGreat.Ab
open Go
set_option maxRecDepth 20000
set_option maxHeartbeats 4000000
end Go.Proofs.YtfakoboiahbhaaaGreat.Ab


namespace Go.Proofs.YtfakoboiahbhaaaGreat.Ab
open Go
def rO (S:List Int) (i:Int):List Int:=S.filter fun x=>decide (x≠i)
def J6 (b:p3) (S:List Int) (f:Int):Bool:=(K3 b S f).getD false
def GQ (b:p3) (S:List Int) (at_:Int) (p:Int×Int):Bool:=(decide (at_<0) || decide (qp b p=at_)) && J6 b (rO S p.1) (fin b p)
def HK (b:p3) (S:List Int) (at_ i:Int):Row:=[(i,0),(i,1)].filter (GQ b S at_)
def He (b:p3) (S:List Int) (at_:Int):Row:=S.flatMap (HK b S at_)
def Ke (b:p3):Nat→List Int→Row→Int→Row
 | 0,_,out,_=>out
 | m+1,S,out,at_=>match He b S at_ with
   | []=>out
   | p::_=>Ke b m (rO S p.1) (out++[p]) (fin b p)
def G0 (b:p3):Row:=Ke b (b.2.length+1) (upto b.2.length) [] (-1)
section
variable {b:p3} {S:List Int}
theorem Rd (p2:qu b) (cm:ri b S) (aN:S.Nodup) (f:Int):K3 b S f=some (J6 b S f)∧(J6 b S f=true↔JC b S f):=by
 obtain ⟨r,ad,af⟩:=ajl p2 cm aN f
 have:J6 b S f=r:=by unfold J6;rw [ad];rfl
 rw [this];exact ⟨ad,af⟩
theorem Mj (cm:ri b S) (i:Int):ri b (rO S i):=fun x al=>cm x (sM.1 al).1
theorem NH (aN:S.Nodup) (i:Int):(rO S i).Nodup:=aN.filter _
theorem Pw (aN:S.Nodup) {i:Int} (hi:i∈S):S.Perm (i::rO S i):=by
 refine (uL aN ?_).2 fun x=>?_
 ·rw [List.nodup_cons];refine ⟨fun h=>?_,NH aN i⟩;have:=(sM.1 h).2;simp at this
 ·rw [sk,rO,sM];constructor
  ·intro h;by_cases e:x=i
   ·exact .inl e
   ·exact .inr ⟨h,by simpa using e⟩
  ·rintro (rfl | h)
   ·exact hi
   ·exact h.1
theorem OP {at_:Int} {p:Int×Int}:p∈He b S at_↔p.1∈S∧(p.2=0∨p.2=1)∧GQ b S at_ p=true:=by
 unfold He HK;rw [vb];constructor
 ·rintro ⟨i,hi,h⟩;rw [sM] at h;obtain ⟨ad,af⟩:=h;simp only [sk,tN,or_false] at ad;rcases ad with rfl | rfl
  ·exact ⟨hi,.inl rfl,af⟩
  ·exact ⟨hi,.inr rfl,af⟩
 ·rintro ⟨ad,af,aG⟩;refine ⟨p.1,ad,sM.2 ⟨?_,aG⟩⟩;obtain ⟨bR,b4⟩:=p;rcases af with af | af
  ·simp only at af;subst af;simp
  ·simp only at af;subst af;simp
def Qr (b:p3) (S:List Int) (at_:Int):Prop:=(at_<0∧∃ f,JC b S f)∨(0≤at_∧JC b S at_)
theorem Qr.next (p2:qu b) (cm:ri b S) (aN:S.Nodup) {at_:Int} (h:Qr b S at_) (aS:S≠[]):He b S at_≠[]:=by
 have ak:S.length≤990:=sI (JN aN cm) (by have:=p2.len;omega);obtain ⟨f,aQ,aO⟩:∃ f,(at_<0∨f=at_)∧JC b S f:=by
  rcases h with ⟨ad,f,af⟩ | ⟨_,af⟩
  ·exact ⟨f,.inl ad,af⟩
  ·exact ⟨_,.inr rfl,af⟩
 obtain ⟨l,c,bX⟩:=(Re p2 cm ak).1 aO
 match l,bX with
 | [],bX =>
   have:=bX.all.length_eq;simp at this;exact absurd (s_.1 this.symm) aS
 | p::l,bX =>
   obtain ⟨cb,b8⟩:=H9.1 bX.go;have aC:=bX.ok p (by simp);have OE:p.1∈S:=bX.all.mem_iff.1 (by simp);have It:(l.map (·.1)).Perm (rO S p.1):=by
    have:=bX.all.trans (Pw aN OE);rw [se] at this;exact this.cons_inv
   have G7:JC b (rO S p.1) (fin b p):=(Re p2 (Mj cm _) (sI (tJ _ _) ak)).2 ⟨l,c,fun q a3=>bX.ok q (by simp [a3]),b8,It⟩
   have hm:p∈He b S at_:=OP.2 ⟨OE,by have:=aC.2.2;omega,by
    unfold GQ;rw [(Rd p2 (Mj cm _) (NH aN _) _).2.2 G7];rcases aQ with aQ | rfl
    ·simp [aQ]
    ·simp [cb]⟩
   intro e;rw [e] at hm;simp at hm
theorem Xb (p2:qu b):∀ (m:Nat) (S:List Int) (out:Row) (at_:Int),S.length<m→ri b S→S.Nodup→Qr b S at_→∃ l f c,Ke b m S out at_=out++l∧HB b S f c l∧(0≤at_→f=at_)
 | 0,_,_,_,h,_,_,_=>absurd h (by omega)
 | m+1,S,out,at_,hm,cm,aN,aO=>by
   rw [Ke];by_cases aS:S=[]
   ·subst aS;refine ⟨[],at_,at_,by simp [He],⟨fun p aC=>absurd aC (by simp),rfl,by simp⟩,fun _=>rfl⟩
   ·have bM:=aO.next p2 cm aN aS
    match he:He b S at_,bM with
    | p::r,_ =>
      have aC:=OP.1 (show p∈He b S at_ by rw [he];simp);obtain ⟨ad,af,aG⟩:=aC;unfold GQ at aG;rw [sx,tH,decide_eq_true_eq,decide_eq_true_eq] at aG;have G7:=(Rd p2 (Mj cm p.1) (NH aN p.1) (fin b p)).2.1 aG.2;have bO:Hp b p:=⟨(cm _ ad).1,(cm _ ad).2,by omega,by omega⟩;have aU:=(Pw aN ad).length_eq;rw [sH] at aU;obtain ⟨l,f,c,e1,ck,dG⟩:=Xb p2 m (rO S p.1) (out++[p]) (fin b p) (by omega) (Mj cm _) (NH aN _) (.inr ⟨(N9 p2 bO).2.1,G7⟩);have dG:=dG (N9 p2 bO).2.1;subst dG;refine ⟨p::l,qp b p,c,by simp only;rw [e1];simp,⟨fun q a3=>?_,H9.2 ⟨rfl,ck.go⟩,?_⟩,fun h=>?_⟩
      ·rcases sk.1 a3 with rfl | a3
       ·exact bO
       ·exact ck.ok q a3
      ·rw [se];exact (ck.all.cons _).trans (Pw aN ad).symm
      ·rcases aG.1 with aG | aG
       ·omega
       ·exact aG
theorem agf (p2:qu b) (aS:0<b.2.length) (ad:G3 b≤1):∃ f,JC b (upto b.2.length) f:=by
 obtain ⟨R,jy,qM⟩:=PK p2;have hlen:=qM.len;have OG:0<R.length:=by
  refine vr fun e=>?_;have:=qM.all.length_eq;rw [s_.1 e,rN] at this;simp at this;omega
 obtain ⟨l,a,c,_,bX⟩:=qM.toRowsOf.single (by omega);have dA:=p2.len;exact ⟨a,(Re p2 IP (by rw [rN];omega)).2 ⟨l,c,bX⟩⟩
theorem Xe (p2:qu b) (aS:0<b.2.length) (ad:G3 b≤1):∃ f c,HB b (upto b.2.length) f c (G0 b):=by
 obtain ⟨l,f,c,e,bX,_⟩:=Xb p2 (b.2.length+1) (upto b.2.length) [] (-1) (by rw [rN];omega) IP (Iy _) (.inl ⟨by omega,agf p2 aS ad⟩);refine ⟨f,c,?_⟩;unfold G0;rw [e,tW];exact bX
def GV (b:p3):Int:=if qL b≠0 then qL b else if b.2.length=0 then 5 else if 1<G3 b then 27 else 0
def Hy (b:p3):Row×Int:=if GV b≠0 then ([],GV b) else (G0 b,0)
theorem R':GV b=0↔qu b∧0<b.2.length∧G3 b≤1:=by
 rw [←G_];unfold GV;split
 ·rename_i h;exact ⟨fun e=>absurd e h,fun e=>absurd e.1 h⟩
 ·rename_i h;have h:qL b=0:=by omega
  split
  ·constructor
   ·intro h;omega
   ·rintro ⟨_,h,_⟩;omega
  ·split
   ·constructor
    ·intro h;omega
    ·rintro ⟨_,_,h⟩;omega
   ·exact ⟨fun _=>⟨h,by omega,by omega⟩,fun _=>rfl⟩
end
end Go.Proofs.YtfakoboiahbhaaaGreat.Ab


namespace Go.Proofs.YtfakoboiahbhaaaGreat.Ab
open Go
section
variable {b:p3} {S:List Int}
def HQ (r:List Int):Row→Bool
 | []=>false
 | p::_=>decide (p.1∈r)
theorem RowsOf.WD {P:List (List Int)} {R:List Row} (B8:q2 b (upto b.2.length) P) {q:Row} {a c:Int} (bO:∀ p∈q,Hp b p) (aO:qv b a q=some c) {r:List Int} (aj:r∈P) {p Jn:Int×Int} (aC:p∈q) (OD:Jn∈q) (h:p.1∈r):Jn.1∈r:=by
 have Iu:∀ x∈q.map (·.1),x∈upto b.2.length:=fun x al=>by
  obtain ⟨p,aC,rfl⟩:=ss.1 al;exact Hf.2 ⟨(bO p aC).1,(bO p aC).2.1⟩
 have ao:=(XV aO) p.1 (uw aC) Jn.1 (uw OD) (qp b p) (qp b Jn) ((Im p _).2 (.inl rfl)) ((Im Jn _).2 (.inl rfl));exact B8.closed aj h ((Im p _).2 (.inl rfl)) (ao.mono Iu) Jn.1 (Iu _ (uw OD)) ((Im Jn _).2 (.inl rfl))
theorem adi {R:List Row} {q:Row→Bool}:(((R.filter q).flatten).map (·.1)).Sublist (R.flatten.map (·.1)):=by
 refine List.Sublist.map _ ?_
 induction R with
 | nil=>simp
 | cons r R a_ =>
   rw [tc];split
   ·rw [tI,tI];exact List.Sublist.append (List.Sublist.refl _) a_
   ·rw [tI];exact a_.trans (List.sublist_append_right _ _)
theorem agn {P:List (List Int)} {R:List Row} (B8:q2 b (upto b.2.length) P) (jy:RowsOf b (upto b.2.length) R) {r:List Int} (aj:r∈P):RowsOf b r (R.filter (HQ r)):=by
 refine ⟨fun q a3=>jy.ok q (sM.1 a3).1,fun q a3=>jy.go q (sM.1 a3).1,?_⟩;have jI:(R.flatten.map (·.1)).Nodup:=jy.all.nodup_iff.2 (Iy _);refine (uL (adi.nodup jI) ((B8.so r aj).imp fun h e=>by omega)).2 fun x=>?_;constructor
 ·intro al;obtain ⟨p,aC,rfl⟩:=ss.1 al;obtain ⟨q,a3,J'⟩:=tT.1 aC;obtain ⟨Jk,bI⟩:=sM.1 a3;obtain ⟨a,c,aO⟩:=jy.go q Jk
  match q,J',bI,Jk,aO with
  | Kf::fO,J',bI,Jk,aO =>
    have bI:Kf.1∈r:=of_decide_eq_true bI;exact RowsOf.WD (R:=R) B8 (jy.ok _ Jk) aO aj (by simp) J' bI
 ·intro al;have KR:=(B8.mem x).2 ⟨r,aj,al⟩;obtain ⟨p,aC,rfl⟩:=ss.1 (jy.all.mem_iff.2 KR);obtain ⟨q,Jk,J'⟩:=tT.1 aC;refine uw (tT.2 ⟨q,sM.2 ⟨Jk,?_⟩,J'⟩);obtain ⟨a,c,aO⟩:=jy.go q Jk
  match q,J',Jk,aO with
  | Kf::fO,J',Jk,aO=>exact decide_eq_true (RowsOf.WD (R:=R) B8 (jy.ok _ Jk) aO aj J' (by simp) al)
theorem ad4 {P:List (List Int)} (aZ:P.Pairwise fun r q=>∀ x∈r,x ∉ q) (q:Row):(P.map fun r=>if HQ r q=true then 1 else 0).sum≤1:=by
 induction P with
 | nil=>simp
 | cons r P a_ =>
   obtain ⟨ad,af⟩:=tg.1 aZ;rw [se,tj];by_cases h:HQ r q=true
   ·rw [if_pos h]
    have:(P.map fun r=>if HQ r q=true then 1 else 0).sum=0:=by
     have:∀ r'∈P,HQ r' q=false:=fun r' yR=>by
      match q,h with
      | p::fO,h =>
        have h:p.1∈r:=of_decide_eq_true h;exact decide_eq_false (ad r' yR _ h)
     clear a_ aZ ad af
     induction P with
     | nil=>rfl
     | cons r' P a_ =>
       rw [se,tj,this r' (by simp),a_ fun agG aev=>this agG (by simp [aev])];rfl
    omega
   ·rw [if_neg h];have:=a_ af;omega
theorem X2 {P:List (List Int)} (aZ:P.Pairwise fun r q=>∀ x∈r,x ∉ q):∀ R:List Row,(P.map fun r=>(R.filter (HQ r)).length).sum≤R.length
 | []=>by
   have:∀ P:List (List Int),(P.map fun r=>(([]:List Row).filter (HQ r)).length).sum=0:=fun P=>by
    induction P with
    | nil=>rfl
    | cons r P a_=>rw [se,tj,a_];rfl
   rw [this];exact sr _
 | q::R=>by
   have a_:=X2 aZ R;have ad:=ad4 aZ q;have add:∀ P:List (List Int),(P.map fun r=>((q::R).filter (HQ r)).length).sum=(P.map fun r=>if HQ r q=true then 1 else 0).sum+(P.map fun r=>(R.filter (HQ r)).length).sum:=fun P=>by
    induction P with
    | nil=>rfl
    | cons r P a_ =>
      rw [se,tj,a_,se,tj,se,tj,tc];by_cases h:HQ r q=true
      ·rw [if_pos h,if_pos h,sH];omega
      ·rw [if_neg h,if_neg h];omega
   rw [add,sH];omega
theorem Pt {α:Type} (f g:α→Nat):∀ l:List α,(∀ x∈l,f x≤g x)→(l.map f).sum≤(l.map g).sum
 | [],_=>sb _
 | x::l,h=>by
   rw [se,se,tj,tj];have ad:=h x (by simp);have af:=Pt f g l fun y a0=>h y (by simp [a0]);omega
theorem VT (p2:qu b) {R:List Row} (jy:RowsOf b (upto b.2.length) R):G3 b≤R.length:=by
 have B8:=(Ln p2).2.1;refine sI (Pt _ (fun r=>(R.filter (HQ r)).length) _ fun r aj=>?_) (X2 B8.rb R);have ai:=agn B8 jy aj;have ad:=ai.few;have af:((R.filter (HQ r)).filter fun r:Row=>!r.isEmpty).length≤(R.filter (HQ r)).length:=tJ _ _;have aG:0<(R.filter (HQ r)).length:=by
  refine vr fun e=>B8.ne r aj ?_;have:=ai.all.length_eq;rw [s_.1 e] at this;simp at this;exact s_.1 this.symm
 unfold IK;omega
theorem Q1:∀ (r pre:Row),((pre++r).map (·.1)).Nodup→Hb pre r=false
 | [],_,_=>rfl
 | p::r,pre,h=>by
   rw [Hb,if_neg]
   ·exact Q1 r (pre++[p]) (by simpa using h)
   ·intro al;obtain ⟨q,a3,e⟩:=uU.1 al;have e:=of_decide_eq_true e;rw [sY,ua] at h;exact h.2.2 q.1 (uw a3) p.1 (by simp) e
theorem Vz (p2:qu b) {r:Row} {a c:Int} (aS:r≠[]) (bO:∀ p∈r,Hp b p) (aN:(r.map (·.1)).Nodup) (aO:qv b a r=some c):re b r=(a,c,0):=by
 unfold re;rw [if_neg (by rw [G_.2 p2];simp)]
 match r,aS,bO,aN,aO with
 | p::r,_,bO,aN,aO =>
   have ad:((p::r).any (GX b))=false:=by
    rw [uz];intro q a3;rw [Bool.not_eq_true];exact Mc.2 (bO q a3)
   have af:Hb [] (p::r)=false:=Q1 _ _ (by simpa using aN);have aG:=(H9.1 aO).1;dsimp only;rw [if_neg (by rw [ad];simp),if_neg (by rw [af];simp),aG,aO]
def HL (b:p3) (rows:List Row):Int×Int:=if qL b≠0 then (0,qL b) else match rows.find? fun r=>decide ((re b r).2.2≠0) with
 | some r=>(0,(re b r).2.2)
 | none=>if ((rows.flatten).map (·.1)).Nodup then (if (rows.flatten).length≠b.2.length then (0,15) else (rows.length,0)) else (0,11)
theorem VB (p2:qu b) {R:List Row} (jy:RowsOf b (upto b.2.length) R) (bM:∀ r∈R,r≠[]):HL b R=((R.length:Int),0):=by
 have jI:((R.flatten).map (·.1)).Nodup:=jy.all.nodup_iff.2 (Iy _);have ak:=jy.all.length_eq;rw [sZ,rN] at ak;unfold HL;have aQ:(R.find? fun r=>decide ((re b r).2.2≠0))=none:=List.find?_eq_none.2 fun r aj=>by
  obtain ⟨a,c,aO⟩:=jy.go r aj;have yW:(r.map (·.1)).Sublist ((R.flatten).map (·.1)):=by
   refine List.Sublist.map _ ?_;obtain ⟨s,t,rfl⟩:=uW aj;simp
  rw [Vz p2 (bM r aj) (jy.ok r aj) (yW.nodup jI) aO];simp
 rw [if_neg (by rw [G_.2 p2];simp),aQ];simp only;rw [if_pos jI,if_neg (by omega)]
end
end Go.Proofs.YtfakoboiahbhaaaGreat.Ab


namespace Go.Proofs.YtfakoboiahbhaaaGreat.Ab
open Go
set_option maxRecDepth 20000
set_option maxHeartbeats 4000000
noncomputable def P6:eA :=
 .loop (some (Ex false [1,2,3,2,57])) (.seq (Gx [Gl 17 7,Gl 18 1,Gi 19 18,FZ 20 17 19 .lss] (.cond (.sl 20) .skip (.exit 0))) (.seq (.block 1 (.seq (Gr [gO 24 [.sl 2] (.pV (.str 2)),Gl 25 1,Gl 26 7,Gf 27 25 26 1,Gj 28 27,gO 29 [.iC (.func 19 [] []),.sl 24,.sl 28] (.call 3),Gm 23 29,GH 30 23 0,GH 31 23 1,GH 32 23 2,Gm 8 30,Gm 9 31,Gm 10 32]) (.seq (Gx [Gl 33 10,FY 34 33 0 .neq] (.cond (.sl 34) (Gx [Gm 35 10,Gk 4 0,Gm 5 35] .ret) .skip)) (Gq [Gm 36 6,Gl 37 1,Gl 38 7,Gf 39 37 38 1,Gj 40 39,gO 41 [.hI 36,.hI 40] (.app 2 16),Gm 6 41])))) (Gq [Gm 21 7,FX 22 21 1,Gm 7 22])))
noncomputable def P7:eA :=
 .loop (some (Ex false [1,2,3,1,4,1,53])) (.seq (Gx [Gl 42 11,Gl 43 6,Gi 44 43,FZ 45 42 44 .lss] (.cond (.sl 45) .skip (.exit 2))) (.seq (.block 3 (.seq (Gr [Gl 48 6,Gl 49 11,gO 50 [.hI 48,.hI 49] (.AW 2 false true false),Gl 51 6,Gl 52 11,Gf 53 51 52 2,F4 54 53 0,Gj 55 54,gO 56 [.iC (.func 69 [] []),.sl 50,.sl 55] (.call 3)]) (.cond (.sl 56) (Gx [Gk 4 0,Gk 5 11] .ret) .skip))) (Gq [Gm 46 11,FX 47 46 1,Gm 11 47])))
noncomputable def aaG:eA :=
 Gx [gO 2 [.hI 0] .box,Gk 4 0,Gk 5 0] (.seq (Gx [gO 12 [.sl 2] (.pV (.str 2)),gO 13 [.iC (.func 21 [] []),.sl 12] (.call 3),FY 14 13 0 .neq] (.cond (.sl 14) (Gx [gO 15 [.hL 2] (.pV (.str 2)),gO 16 [.iC (.func 21 [] []),.sl 15] (.call 3),Gk 4 0,Gm 5 16] .ret) .skip)) (Gx [gO 6 [.iC (.ay [] 0 .full)] (.nil 2)] (.seq (Gx [Gk 7 0] (.block 0 P6)) (.seq (Gx [Gk 11 0] (.block 2 P7)) (.seq (Gx [Gm 57 6,Gi 58 57,F4 59 2 1,Gj 60 59,Gi 61 60,FZ 62 58 61 .neq] (.cond (.sl 62) (Gx [Gk 4 0,Gk 5 15] .ret) .skip)) (Gx [Gm 63 1,Gi 64 63,Gm 4 64,Gk 5 0] .ret))))))
theorem afr:ze Tryz.prog N6 26=some (aaG,65,[.tmp 4,.tmp 5]):=by kernel_rfl
def Lg (b:qb) (rows:qt) (p9:qc→Option (Int×Int)):Nat→qc→Int→Option (Int×Int)
 | 0,_,_=>none
 | m+1,s1,s2 =>
   if (decide (s2<(rows.length:Int)))=true then
    p6 (0≤s2∧s2<(rows.length:Int)) <|
    (K_ b (ix rows s2)).bind fun eF =>
    if (decide (eF.2.2≠(0:Int)))=true then
     some ((0:Int),eF.2.2)
    else
     p6 (0≤s2∧s2<(rows.length:Int)) <|
     p6 ((s1.length+(ix rows s2).length)*16≤140737488355328) <|
     Lg b rows p9 m (s1++(ix rows s2)) (w (s2+(1:Int)))
   else
    p9 s1
def Lh (xY:qc) (qH:Unit→Option (Int×Int)):Nat→Int→Option (Int×Int)
 | 0,_=>none
 | m+1,dg =>
   if (decide (dg<(xY.length:Int)))=true then
    p6 (0≤dg∧dg≤(xY.length:Int)) <|
    p6 (0≤dg∧dg<(xY.length:Int)) <|
    (Mx (xY.take dg.toNat) ((ix xY dg).1)).bind fun qh =>
    if qh=true then
     some ((0:Int),(11:Int))
    else
     Lh xY qH m (w (dg+(1:Int)))
   else
    qH ()
def Mq (b:qb) (rows:qt):Option (Int×Int) :=
 (Ju b).bind fun r1 =>
 if (decide (r1≠(0:Int)))=true then
  (Ju b).bind fun r2 =>
  some ((0:Int),r2)
 else
  Lg b rows (fun xY =>
    Lh xY (fun _ =>
      if (decide ((xY.length:Int)≠(b.2.length:Int)))=true then
       some ((0:Int),(15:Int))
      else
       some ((rows.length:Int),(0:Int))) p8 (0:Int)) p8 ([]:List (Int×Int)) (0:Int)
theorem ajP {b:qb} {rows:qt} {p9:qc→Option (Int×Int)} {s1:qc} {s2:Int} {v:(Int×Int)} {Q:rp}   (jy:qn [.tmp 4,.tmp 5] Q (fun v=>(.tuple [(hR v.1),(hR v.2)])) v) (rm:∀ (xY:qc) (p5:List I),p9 xY=some v→q7 65 [(1,(.ay (rows.map (qy p0)) rows.length .shared)),(2,(.ptr 0 0)),(6,(p7 xY (.uniq 2)))] p5→Q (.exit 0) p5 [G' b]) {T:List I} (bX:eT (Ex false [1,2,3,2,57]) T=GD 65 [(1,(.ay (rows.map (qy p0)) rows.length .shared)),(2,(.ptr 0 0)),(6,(p7 s1 (.uniq 2))),(7,(hR s2))]) (h:Lg b rows p9 p8 s1 s2=some v) :
  dD Tryz.prog N6 26 0 none P6 T [G' b] Q:=by
 unfold P6;refine wp_loop bX ?_;refine .intro (fun m T H=>∃ (s1:qc) (s2:Int),T=GD 65 [(1,(.ay (rows.map (qy p0)) rows.length .shared)),(2,(.ptr 0 0)),(6,(p7 s1 (.uniq 2))),(7,(hR s2))]∧H=[G' b]∧Lg b rows p9 m s1 s2=some v) p8 ⟨s1,s2,rfl,rfl,h⟩ ?_;clear h bX;rintro m T H ⟨s1,s2,rfl,rfl,h⟩;cases m
 ·exact q9 h
 rename_i m;rw [Lg.eq_2] at h;conv=>whnf
 refine bs h (fun qq h=>?_) fun qq h=>?_
 ·rw [qq];conv=>whnf
  refine qm h id fun qP h=>?_;rw [rP (qy p0) rows s2 qP];conv=>whnf
  obtain ⟨eF,q_,h⟩:=p' h;refine ⟨qf.pl,_,ZB q_,IE,?_⟩;conv=>whnf
  refine bs h (fun qO h=>?_) fun qO h=>?_
  ·rw [qO];(conv=>whnf);exact p4 h jy rfl rfl
  ·rw [qO];(conv=>whnf);refine qm h id fun qR h=>?_;rw [rP (qy p0) rows s2 qR];(conv=>whnf);obtain ⟨ry,h⟩:=qJ h;refine ⟨by first | rfl | (simp;done) | exact H0 p0 _ qw _,by have:=ry;omega,rfl,ry,?_⟩
   erw [QN p0 s1 (ix rows s2)];(conv=>whnf);exact ⟨m,sv m,(s1++(ix rows s2)),(w (s2+(1:Int))),rfl,rfl,h⟩
 ·rw [qq];conv=>whnf
  exact rm _ _ h ⟨rfl,rfl⟩
theorem ajQ {xY:qc} {qH:Unit→Option (Int×Int)} {dg:Int} {b:qb} {rows:qt} {v:(Int×Int)} {Q:rp}   {J3:iq} (jy:qn [.tmp 4,.tmp 5] Q (fun v=>(.tuple [(hR v.1),(hR v.2)])) v) (H4:∀ (p5:List I),qH ()=some v→q7 65 [(1,(.ay (rows.map (qy p0)) rows.length .shared)),(2,(.ptr 0 0)),(6,(p7 xY (.own 2)))] p5→Q (.exit 2) p5 [G' b]) (RH:(J3=(.uniq 2)∨J3=(.own 2))) {T:List I} (bX:eT (Ex false [1,2,3,1,4,1,53]) T=GD 65 [(1,(.ay (rows.map (qy p0)) rows.length .shared)),(2,(.ptr 0 0)),(6,(.ay (xY.flatMap p0) xY.length J3)),(11,(hR dg))]) (h:Lh xY qH p8 dg=some v) :
  dD Tryz.prog N6 26 0 none P7 T [G' b] Q:=by
 unfold P7;refine wp_loop bX ?_;refine .intro (fun m T H=>∃ (dg:Int) (J3:iq),(J3=(.uniq 2)∨J3=(.own 2))∧T=GD 65 [(1,(.ay (rows.map (qy p0)) rows.length .shared)),(2,(.ptr 0 0)),(6,(.ay (xY.flatMap p0) xY.length J3)),(11,(hR dg))]∧H=[G' b]∧Lh xY qH m dg=some v) p8 ⟨dg,_,RH,rfl,rfl,h⟩ ?_;clear h bX;rintro m T H ⟨dg,J3,RH,rfl,rfl,h⟩;cases m
 ·exact q9 h
 rename_i m;rw [Lh.eq_2] at h;rcases RH with rfl | rfl
 ·conv=>whnf
  refine bs h (fun q4 h=>?_) fun q4 h=>?_
  ·rw [q4];(conv=>whnf);refine qm h id fun rV h=>?_;erw [Mb p0 2 qw xY dg rV];(conv=>whnf);refine qm h id fun rE h=>?_;rw [q3 p0 2 qw xY dg rE];(conv=>whnf);obtain ⟨qh,rz,h⟩:=p' h;refine ⟨qf.pl,_,T_ rz,IE,?_⟩;(conv=>whnf);cases qh
   ·(conv=>whnf);replace h:=GK rfl h;exact ⟨m,sv m,(w (dg+(1:Int))),_,(.inr rfl),rfl,rfl,h⟩
   ·(conv=>whnf);replace h:=GL rfl h;exact p4 h jy rfl rfl
  ·rw [q4];(conv=>whnf);exact H4  _ h ⟨rfl,rfl⟩
 ·conv=>whnf
  refine bs h (fun q4 h=>?_) fun q4 h=>?_
  ·rw [q4];(conv=>whnf);refine qm h id fun rV h=>?_;erw [Mb p0 2 qw xY dg rV];(conv=>whnf);refine qm h id fun rE h=>?_;rw [q3 p0 2 qw xY dg rE];(conv=>whnf);obtain ⟨qh,rz,h⟩:=p' h;refine ⟨qf.pl,_,T_ rz,IE,?_⟩;(conv=>whnf);cases qh
   ·(conv=>whnf);replace h:=GK rfl h;exact ⟨m,sv m,(w (dg+(1:Int))),_,(.inr rfl),rfl,rfl,h⟩
   ·(conv=>whnf);replace h:=GL rfl h;exact p4 h jy rfl rfl
  ·rw [q4];(conv=>whnf);exact H4  _ h ⟨rfl,rfl⟩
theorem ZK {b:qb} {rows:qt} {v:(Int×Int)} (h:Mq b rows=some v):qg 26 [(.agg [(hR b.1),(.ay (b.2.flatMap p0) b.2.length .shared)]),(.ay (rows.map (qy p0)) rows.length .shared)] (.tuple [(hR v.1),(hR v.2)]):=by
 refine qB dJ afr rfl (H5 (pY rfl (pY rfl rfl))) fun Q bl=>?_;have jy:qn [.tmp 4,.tmp 5] Q (fun v=>(.tuple [(hR v.1),(hR v.2)])) v:=fun T H bI=>bl _ T H bI;unfold Mq at h;unfold aaG;obtain ⟨Hn,qC⟩:∃ c,P6=c:=⟨_,rfl⟩;rw [qC];obtain ⟨KD,rU⟩:∃ c,P7=c:=⟨_,rfl⟩;rw [rU];conv=>whnf
 obtain ⟨r1,eW,h⟩:=p' h;refine ⟨qf.pl,_,NN eW,?_⟩;conv=>whnf
 refine bs h (fun fm h=>?_) fun fm h=>?_
 ·rw [fm];conv=>whnf
  obtain ⟨r2,qd,h⟩:=p' h;refine ⟨qf.pl,_,NN qd,?_⟩;conv=>whnf
  exact p4 h jy rfl rfl
 ·rw [fm];conv=>whnf
  subst qC;refine ajP ?_ ?_ (by exact rfl) h
  ·exact fun T H bI=>jy T H bI
  ·intro xY p5 h qi;obtain ⟨qZ,rfl⟩:=qi.ex;(conv=>whnf);subst rU;refine ajQ ?_ ?_ (.inl rfl) (by exact rfl) h
   ·exact fun T H bI=>jy T H bI
   ·intro  p5 h qi;obtain ⟨qZ,rfl⟩:=qi.ex;(conv=>whnf);refine bs h (fun rS h=>?_) fun rS h=>?_
    ·rw [rS];(conv=>whnf);exact p4 h jy rfl rfl
    ·rw [rS];(conv=>whnf);exact p4 h jy rfl rfl

noncomputable def P5:eA :=
 .loop (some (Ex false [0,1,2,2,17])) (.seq (Gx [Gl 7 4,Gl 8 0,Gi 9 8,FZ 10 7 9 .lss] (.cond (.sl 10) .skip (.exit 0))) (.seq (.block 1 (Gq [Gm 13 3,Gl 14 0,Gl 15 4,Gf 16 14 15 1,Gj 17 16,Gi 18 17,gO 19 [.hI 13,.hI 18] .max,Gm 3 19])) (Gq [Gm 11 4,FX 12 11 1,Gm 4 12])))
noncomputable def aaF:eA :=
 Gx [gO 2 [.iC (.bool false)] .iS] (Gx [Gl 5 0,Gi 6 5,Gm 3 6] (.seq (Gx [Gk 4 0] (.block 0 P5)) (Gx [Gm 20 3,FY 21 20 14 .gtr,Gm 2 21] .ret)))
theorem afq:ze Tryz.prog QF 24=some (aaF,22,[.tmp 2]):=by kernel_rfl
def Lf (l:qt) (p9:Int→Option Bool):Nat→Int→Int→Option Bool
 | 0,_,_=>none
 | m+1,s1,s2 =>
   if (decide (s2<(l.length:Int)))=true then
    p6 (0≤s2∧s2<(l.length:Int)) <|
    Lf l p9 m (max s1 ((ix l s2).length:Int)) (w (s2+(1:Int)))
   else
    p9 s1
def Mp (l:qt):Option Bool :=
 Lf l (fun xY =>
   some (decide ((14:Int)<xY))) p8 (l.length:Int) (0:Int)
theorem ajK {l:qt} {p9:Int→Option Bool} {s1:Int} {s2:Int} {v:Bool} {Q:rp}   (rm:∀ (xY:Int) (p5:List I),p9 xY=some v→q7 22 [(3,(hR xY))] p5→Q (.exit 0) p5 []) {T:List I} (bX:eT (Ex false [0,1,2,2,17]) T=GD 22 [(0,(.ay (l.map (qy p0)) l.length .shared)),(3,(hR s1)),(4,(hR s2))]) (h:Lf l p9 p8 s1 s2=some v) :
  dD Tryz.prog QF 24 0 none P5 T [] Q:=by
 unfold P5;refine wp_loop bX ?_;refine .intro (fun m T H=>∃ (s1 s2:Int),T=GD 22 [(0,(.ay (l.map (qy p0)) l.length .shared)),(3,(hR s1)),(4,(hR s2))]∧H=[]∧Lf l p9 m s1 s2=some v) p8 ⟨s1,s2,rfl,rfl,h⟩ ?_;clear h bX;rintro m T H ⟨s1,s2,rfl,rfl,h⟩;cases m
 ·exact q9 h
 rename_i m;rw [Lf.eq_2] at h;conv=>whnf
 refine bs h (fun eW h=>?_) fun eW h=>?_
 ·rw [eW];conv=>whnf
  refine qm h id fun fm h=>?_;rw [rP (qy p0) l s2 fm];conv=>whnf
  exact ⟨m,sv m,(max s1 ((ix l s2).length:Int)),(w (s2+(1:Int))),rfl,rfl,h⟩
 ·rw [eW];conv=>whnf
  exact rm _ _ h ⟨rfl,rfl⟩
theorem ajM {l:qt} {v:Bool} (h:Mp l=some v):qg 24 [(.ay (l.map (qy p0)) l.length .shared)] (B v):=by
 refine qB dJ afq rfl rfl fun Q bl=>?_;have jy:qn [.tmp 2] Q (fun v=>(B v)) v:=fun T H bI=>bl _ T H bI;unfold Mp at h;unfold aaF;obtain ⟨Hn,qC⟩:∃ c,P5=c:=⟨_,rfl⟩;rw [qC];conv=>whnf
 subst qC;refine ajK ?_ (by exact rfl) h;intro xY p5 h qi;obtain ⟨qZ,rfl⟩:=qi.ex;conv=>whnf
 exact p4 h jy rfl rfl

end Go.Proofs.YtfakoboiahbhaaaGreat.Ab


namespace Go.Proofs.YtfakoboiahbhaaaGreat.Ab
open Go
set_option maxRecDepth 20000
set_option maxHeartbeats 4000000
end Go.Proofs.YtfakoboiahbhaaaGreat.Ab


namespace Go.Proofs.YtfakoboiahbhaaaGreat.Ab
open Go
section
variable {b:p3}
theorem ZJ {xY:Row} (bm:xY.length≤100000) (ai:∀ i:Nat,i<xY.length→(xY.take i).length≤1000) {k:Unit→Option (Int×Int)}:∀ (m i:Nat) (z:Int),z=i→i≤xY.length→xY.length-i<m→Lh xY k m z=if Hb (xY.take i) (xY.drop i)=true then some (0,11) else k ()
 | 0,_,_,_,_,h=>absurd h (by omega)
 | m+1,i,_,rfl,hi,hm=>by
   rw [Lh];by_cases h:(i:Int)<(xY.length:Int)
   ·(have qT:i<xY.length:=by omega);rw [if_pos (decide_eq_true h),qe ⟨by omega,by omega⟩,qe ⟨by omega,h⟩,qW qT,th,Z0 _ _ (ai i qT),r_,sT qT,Hb];by_cases aZ:((xY.take i).any fun q=>decide (q.1=xY[i].1))=true
    ·rw [if_pos aZ,if_pos aZ,if_pos rfl]
    ·rw [if_neg aZ,if_neg aZ,rH i (by omega),ZJ bm ai m (i+1) _ rfl (by omega) (by omega),Kj qT]
   ·rw [if_neg (by simpa using h),tb (by omega),Hb,if_neg (by simp)]
theorem ZI (ag:b.2.length≤1000) {rows:List Row} (aj:rows.length≤1000) (C1:∀ r∈rows,r.length≤1000) {k:Row→Option (Int×Int)}:∀ (m i:Nat) (z:Int) (acc:Row),z=i→i≤rows.length→rows.length-i<m→acc.length≤1000*i →
  Lg b rows k m acc z=match (rows.drop i).find? fun r=>decide ((re b r).2.2≠0) with | some r=>some (0,(re b r).2.2) | none=>k (acc++(rows.drop i).flatten)
 | 0,_,_,_,_,_,h,_=>absurd h (by omega)
 | m+1,i,_,acc,rfl,hi,hm,cd=>by
   rw [Lg];by_cases h:(i:Int)<(rows.length:Int)
   ·(have qT:i<rows.length:=by omega);have ak:=C1 _ (sE qT);rw [if_pos (decide_eq_true h),qe ⟨by omega,h⟩,qW qT,Zx b _ ag ak,r_,sT qT,List.find?_cons];by_cases ao:(re b rows[i]).2.2≠0
    ·rw [if_pos (decide_eq_true ao),decide_eq_true ao]
    ·rw [if_neg (by simpa using ao),decide_eq_false ao,qe ⟨by omega,h⟩,qe (by omega),rH i (by omega),ZI ag aj C1 m (i+1) _ _ rfl (by omega) (by omega) (by rw [sm];omega),tI,sj]
   ·rw [if_neg (by simpa using h),tb (by omega)];simp
theorem Q6:∀ {rows:List Row} {n:Nat},(∀ r∈rows,r.length≤n)→rows.flatten.length≤n*rows.length
 | [],_,_=>by simp
 | r::rows,n,h=>by
   have ad:=h r (by simp);have af:=Q6 fun q a3=>h q (tX _ a3);rw [tI,sm,sH,Nat.mul_add];omega
theorem ZH (ag:b.2.length≤1000) {rows:List Row} (aj:rows.length≤20) (C1:∀ r∈rows,r.length≤20):Mq b rows=some (HL b rows):=by
 rw [Mq,T6 b ag,r_];unfold HL;by_cases h:qL b=0
 ·have pc:=Q6 C1;rw [if_neg (by simp [h]),if_neg (by simp [h]),ZI ag (by omega) (fun r aj=>sI (C1 r aj) (by omega)) p8 0 0 [] rfl (by omega) (rC (by omega)) (by simp),sO];cases (rows.find? fun r=>decide ((re b r).2.2≠0)) with
  | some r=>rfl
  | none =>
    simp only [tW];rw [ZJ (by omega) (fun i _=>by rw [sR];omega) p8 0 0 rfl (by omega) (rC (by omega)),tf,sO];by_cases aN:(rows.flatten.map (·.1)).Nodup
    ·rw [if_pos aN,Q1 _ _ (by simpa using aN),if_neg (by simp)];by_cases ak:rows.flatten.length≠b.2.length
     ·rw [if_pos ak,if_pos (show decide ((rows.flatten.length:Int)≠(b.2.length:Int))=true by simp only [decide_eq_true_eq];omega)]
     ·rw [if_neg ak,if_neg (show ¬ decide ((rows.flatten.length:Int)≠(b.2.length:Int))=true by simp only [decide_eq_true_eq];omega)]
    ·rw [if_neg aN]
     have:Hb [] rows.flatten=true:=by
      cases aZ:Hb [] rows.flatten with
      | true=>rfl
      | false=>exact absurd (by simpa using QZ _ _ aZ (by simp)) aN
     rw [this,if_pos rfl]
 ·rw [if_pos (by simpa using h),if_pos h,r_]
theorem ZG {l:List Row} (ak:l.length≤100000) {k:Int→Option Bool}:∀ (m i:Nat) (z a:Int),z=i→i≤l.length→l.length-i<m →
  ∃ aM,Lf l k m a z=k aM∧(14<aM↔14<a∨∃ r∈l.drop i,14<r.length)
 | 0,_,_,_,_,_,h=>absurd h (by omega)
 | m+1,i,_,a,rfl,hi,hm=>by
   rw [Lf];by_cases h:(i:Int)<(l.length:Int)
   ·(have qT:i<l.length:=by omega);rw [if_pos (decide_eq_true h),qe ⟨by omega,h⟩,qW qT,rH i (by omega)];obtain ⟨aM,ad,af⟩:=ZG ak (k:=k) m (i+1) _ (max a (l[i].length:Int)) rfl (by omega) (by omega);refine ⟨aM,ad,?_⟩;rw [af,sT qT];constructor
    ·rintro (h | ⟨r,aj,h⟩)
     ·by_cases ao:14<a
      ·exact .inl ao
      ·exact .inr ⟨_,ur,by omega⟩
     ·exact .inr ⟨r,tX _ aj,h⟩
    ·rintro (h | ⟨r,aj,h⟩)
     ·exact .inl (by omega)
     ·rcases sk.1 aj with rfl | aj
      ·exact .inl (by omega)
      ·exact .inr ⟨r,aj,h⟩
   ·rw [if_neg (by simpa using h),tb (by omega)];exact ⟨a,rfl,by simp⟩
theorem ajJ {l:List Row} (ak:l.length≤100000):∃ r:Bool,Mp l=some r∧(r=true↔14<l.length∨∃ q∈l,14<q.length):=by
 rw [Mp];obtain ⟨aM,ad,af⟩:=ZG ak (k:=fun xY=>some (decide ((14:Int)<xY))) p8 0 0 (l.length:Int) rfl (by omega) (rC (by omega));refine ⟨_,ad,?_⟩;rw [decide_eq_true_eq,af,sO];constructor
 ·rintro (h | h)
  ·exact .inl (by omega)
  ·exact .inr h
 ·rintro (h | h)
  ·exact .inl (by omega)
  ·exact .inr h
theorem ajL {l:List Row} (ak:l.length≤14) (h:∀ r∈l,r.length≤14):Mp l=some false:=by
 obtain ⟨r,ad,af⟩:=ajJ (l:=l) (by omega);rw [ad];cases r with
 | false=>rfl
 | true =>
   rcases af.1 rfl with aG | ⟨q,a3,aG⟩
   ·omega
   ·have:=h q a3;omega
end
end Go.Proofs.YtfakoboiahbhaaaGreat.Ab


namespace Go.Proofs.YtfakoboiahbhaaaGreat.Ab
open Go
def QK:c8:={ ops:=[[],[],[{},{},{ takes:=[true],mode:=1 }],[],[{},{ takes:=[true] },{ takes:=[true] }],[],[],[],[{},{ takes:=[true] },{},{ takes:=[false,true] }],[{},{},{},{ takes:=[false,true,true],mode:=1 },{ takes:=[true],mode:=2 }],[],[],[{},{ takes:=[true] }],[{},{ takes:=[true] },{ takes:=[true,true] },{},{ takes:=[false,true] }],[{},{},{ mode:=3 },{ takes:=[true] },{},{ takes:=[true] },{ takes:=[true] },{ takes:=[true] }],[{},{ takes:=[true] },{ takes:=[true] },{ takes:=[true] },{},{ takes:=[true,true] },{ takes:=[true,false,true] },{ takes:=[true] },{},{},{ takes:=[true] },{ mode:=3 },{ takes:=[true,true] }],[{ takes:=[true] },{ takes:=[true] },{ takes:=[true] },{ takes:=[true,true] },{ takes:=[true] }],[{ takes:=[true] },{ takes:=[true] }],[{ takes:=[true] },{ takes:=[true] }],[{},{ takes:=[true] },{ takes:=[true] }],[{ takes:=[true] },{ takes:=[true] }],[{ takes:=[true] },{ mode:=3 },{},{ takes:=[false,true] }],[{ takes:=[true] },{},{ takes:=[true] },{ takes:=[true,true] },{ takes:=[true] }],[{ takes:=[true] },{},{ takes:=[false,true,true],mode:=1 },{ takes:=[true] }],[{},{ takes:=[true] },{ mode:=3 },{ takes:=[true] },{},{ takes:=[true] },{ takes:=[true] }],[{ takes:=[true] },{ takes:=[true] }]],h9:=[(0,(Ex false [0,1,2,3,75])),(2,(Ex false [0,1,2,4,13,3,58])),(4,(Ex false [0,1,2,4,1,2,10,3,7,1,50]))] }
noncomputable def Tc:eA :=
 Gx [gO 5 [] (.x_ 0 1 [.int .i64 0] []),Gm 6 0,gO 7 [.hI 5,.hI 6] (.app 1 8),Gm 2 7] .ret
noncomputable def Tb:eA :=
 Gx [gO 2 [.iC (.ay [] 0 .full)] (.nil 1)] (.seq (Gx [Gl 3 0, gO 4 [.hL 3, .iC (.ay [] 0 .full)] (.other (Oper.mk (some 4) (Op.binOp .eql 38 (Operand.tmp 3) (Operand.const (Value.slice none 0 0)) 38) 4 "slices.go:357" (Array.mk [Edge.mk 0 Ground.data]) none) 0)] (.cond (.sl 4) (Gx [gO 2 [.iC (.ay [] 0 .full)] (.nil 1)] .ret) .skip)) Tc)
theorem WY:ze Go.Proofs.Tryz.prog Vd 75=some (Tb,8,[.tmp 2]):=by kernel_rfl
noncomputable def Pc:eA :=
 .j2 false [Gm 55 6,gO 56 [.hL 11] (.pV (.str 2)),gO 57 [.hL 56] (.x_ 1 2 [.int .i64 0,.int .i64 0] [0]),gO 58 [.hI 55,.hI 57] (.app 2 16),Gm 6 58]
noncomputable def Tr:eA :=
 Gx [Gl 42 5,FY 43 42 0 .lss,Gm 44 43,cP 45 [.hI 12] 44 false .iS,cP 46 [.sl 5] 44 false .iS,cP 47 [.hL 45,.hL 46] 44 false (.bin .eql),gO 48 [.hL 44,.iC (.bool true),.hL 47] .pick,Gm 49 48,cP 50 [.sl 0] 49 true .iS,cP 51 [.sl 9] 49 true .iS,cP 52 [.hI 13] 49 true .iS,⟨some 53,[.iC (.func 109 [] []),.sl 50,.sl 51,.sl 52],some (49,true),none,.call 3⟩,gO 54 [.hL 49,.hL 53,.iC (.bool false)] .pick] (.cond (.sl 54) Pc .skip)
noncomputable def Ts:eA :=
 Gx [Gl 37 0,gO 38 [.sl 11] (.pV (.str 2)),gO 39 [.iC (.func 68 [] []),.sl 37,.sl 38] (.call 3),Gm 36 39,GH 40 36 0,gO 41 [.hL 36] (.ext 1),Gm 12 40,Gm 13 41] Tr
noncomputable def Tt:eA :=
 Gx [gO 33 [.sl 8] (.pV .one),Gm 34 10,gO 35 [.hL 33,.hL 34] (.build [.int .i64 0,.int .i64 0] [(0,1),(1,1)]),gO 11 [] (.alloc [.int .i64 0,.int .i64 0]),⟨none,[.sl 11,.hI 35],none,none,.st 2⟩] Ts
noncomputable def Tu:eA :=
 .block 5 (Gx [Gl 32 30,Gm 10 32] Tt)
noncomputable def Pe:eA :=
 Gx [Gk 30 0] (.block 4 (.loop (some (Ex false [0,1,2,4,1,2,10,3,7,1,50])) (Gx [gO 31 [.sl 30,.iC (.int .i64 2)] (.bin .lss)] (.seq (.cond (.sl 31) .skip (.exit 4)) (.seq Tu (Gq [FX 59 30 1,Gm 30 59]))))))
noncomputable def Tv:eA :=
 Gx [Gl 26 4, gO 27 [.iC (.func 75 [] []), .sl 26] (.call 0), gO 28 [.sl 8] (.zu 108 0 1), gO 29 [.iC (.func 107 [] []), .hI 27, .hI 28] (.call 1), ⟨some 9, [.hI 29], none, some 29, .other (Oper.mk (some 9) (Op.assign (Operand.tmp 29)) 38 "table.go:204" (Array.mk [Edge.mk 3 Ground.data, Edge.mk 3 Ground.chain, Edge.mk 0 Ground.phase, Edge.mk 1 Ground.phase, Edge.mk 2 Ground.phase, Edge.mk 3 Ground.phase]) none) 2⟩] Pe
noncomputable def Tw:eA :=
 .block 3 (Gx [gO 24 [.sl 20,.sl 22] (.pO 1),Gj 25 24,gO 8 [] (.alloc [.int .i64 0]),⟨none,[.sl 8,.hI 25],none,none,.st 1⟩] Tv)
noncomputable def Tx:eA :=
 .j2 false [Gl 75 0,gO 76 [.hL 14] (.pV (.str 2)),gO 77 [.iC (.func 68 [] []),.sl 75,.sl 76] (.call 3),Gm 74 77,GH 78 74 0,gO 79 [.hL 74] (.ext 1),Gm 5 79]
noncomputable def Tk:eA :=
 Gx [Gm 71 4,gO 72 [.sl 14] (.zu 112 0 1),gO 73 [.iC (.func 107 [] []),.hI 71,.hI 72] (.call 1),Gm 4 73] Tx
noncomputable def Tl:eA :=
 Gx [Gm 67 3,gO 68 [.sl 14] (.pV (.str 2)),gO 69 [.hL 68] (.x_ 1 2 [.int .i64 0,.int .i64 0] [0]),gO 70 [.hI 67,.hI 69] (.app 2 16),Gm 3 70] Tk
noncomputable def Tm:eA :=
 Gx [Gm 65 6,gO 66 [.iC (.func 110 [] []),.sl 65,.iC (.func 111 [] [])] (.call 3),gO 14 [] (.alloc [.int .i64 0,.int .i64 0]),⟨none,[.sl 14,.hI 66],none,none,.st 2⟩] Tl
noncomputable def Tn:eA :=
 .seq (Gx [Gl 61 6,Gi 62 61,FY 63 62 0 .eql] (.cond (.sl 63) (Gx [Gm 64 3,Gm 2 64] .ret) .skip)) Tm
noncomputable def Pd:eA :=
 .seq (Gx [Gl 20 4,gO 21 [.sl 20] .w8,Gk 22 0] (.block 2 (.loop (some (Ex false [0,1,2,4,13,3,58])) (Gx [gO 23 [.sl 22,.sl 21] (.bin .lss)] (.seq (.cond (.sl 23) .skip (.exit 2)) (.seq Tw (Gq [FX 60 22 1,Gm 22 60]))))))) Tn
noncomputable def Tp:eA :=
 .seq (Gx [Gl 17 4,Gi 18 17,FY 19 18 0 .gtr] (.cond (.sl 19) .skip (.exit 0))) (.block 1 (Gx [gO 6 [.iC (.ay [] 0 .full)] (.nil 2)] Pd))
noncomputable def XJ:eA :=
 .block 0 (.loop (some (Ex false [0,1,2,3,75])) Tp)
noncomputable def Tq:eA :=
 Gx [Gl 15 0,gO 16 [.iC (.func 77 [] []),.sl 15] (.call 0),⟨some 4,[.hI 16],none,some 16,.A5⟩] (Gx [Gk 5 (-1)] (.seq XJ (Gx [Gm 80 3,Gm 2 80] .ret)))
noncomputable def XI:eA :=
 Gx [gO 2 [.iC (.ay [] 0 .full)] (.nil 2)] (Gx [gO 3 [.iC (.ay [] 0 .full)] (.nil 2)] Tq)
theorem ae4:ze Go.Proofs.Tryz.prog QK 85=some (XI,81,[.tmp 2]):=by kernel_rfl
noncomputable def SW:eA :=
 Gx [Gl 17 6,FY 18 17 0 .neq] (.cond (.sl 18) (Gx [Gm 19 6,Gk 4 0,Gm 5 19] .ret) .skip)
noncomputable def SZ:eA :=
 Gx [Gl 33 12,FY 34 33 0 .neq] (.cond (.sl 34) (Gx [Gm 35 12,Gk 4 0,Gm 5 35] .ret) .skip)
noncomputable def S1:eA :=
 .j2 true [Gl 42 7,Gl 43 7,Gi 44 43,Gl 45 7,Gi 46 45,gO 47 [.hI 42,.hI 44,.hI 46] (.AW 1 false true true),F4 48 14 0,Gj 49 48,gO 50 [.hL 49] (.x_ 1 1 [.int .i64 0] [0]),gO 51 [.hI 47,.hI 50] (.app 1 8),Gm 7 51]
noncomputable def S2:eA :=
 .block 3 (Gx [gO 40 [.sl 36,.sl 38] (.pO 2),gO 41 [.hL 40] (.pV (.str 2)),gO 14 [] (.alloc [.int .i64 0,.int .i64 0]),⟨none,[.sl 14,.hI 41],none,none,.st 2⟩] S1)
noncomputable def S3:eA :=
 Gx [Gm 36 9,gO 37 [.sl 36] .w8,Gk 38 0] (.block 2 (.loop (some (Ex false [1,2,4,1,12,3,13,3,34])) (Gx [gO 39 [.sl 38,.sl 37] (.bin .lss)] (.seq (.cond (.sl 39) .skip (.exit 2)) (.seq S2 (Gq [FX 52 38 1,Gm 38 52]))))))
noncomputable def S4:eA :=
 .seq (Gx [gO 27 [.sl 2] (.pV (.str 2)),Gl 28 9,gO 29 [.iC (.func 18 [] []),.sl 27,.sl 28] (.call 3),Gm 26 29,GH 30 26 0,GH 31 26 1,gO 32 [.hL 26] (.ext 2),Gm 10 30,Gm 11 31,Gm 12 32] SZ) S3
noncomputable def S5:eA :=
 .block 1 (Gx [gO 24 [.sl 20,.sl 22] (.pO 1),Gj 25 24,Gm 9 25] S4)
noncomputable def Nx:eA :=
 Gx [Gm 65 7,Gi 66 65,F4 67 2 1,Gj 68 67,Gi 69 68,FZ 70 66 69 .lss,Gm 64 70] (.cond (.sl 64) (Gx [Gk 4 0,Gk 5 15] .ret) .skip)
noncomputable def O_:eA :=
 .block 4 (Gx [Gl 57 7,gO 58 [.iC (.func 75 [] []),.sl 57] (.call 0),gO 59 [.iC (.func 74 [] []),.hI 58] (.call 1),Gi 60 59,Gl 61 7,Gi 62 61,FZ 63 60 62 .lss,Gm 56 63] (.cond (.sl 56) (Gx [Gk 4 0,Gk 5 11] .ret) Nx))
noncomputable def O9:eA :=
 Gx [Gm 71 1,Gi 72 71,Gm 4 72,Gk 5 0] .ret
noncomputable def SX:eA :=
 .seq (Gx [Gl 20 1,gO 21 [.sl 20] .w8,Gk 22 0] (.block 0 (.loop (some (Ex false [1,2,4,1,12,3,50])) (Gx [gO 23 [.sl 22,.sl 21] (.bin .lss)] (.seq (.cond (.sl 23) .skip (.exit 0)) (.seq S5 (Gq [FX 53 22 1,Gm 22 53]))))))) (Gx [⟨some 54,[.hI 7],none,some 7,.A5⟩,gO 55 [.iC (.func 73 [] []),.hI 54] (.call 1)] (.seq O_ O9))
noncomputable def SY:eA :=
 .seq (Gx [gO 15 [.sl 2] (.pV (.str 2)),gO 16 [.iC (.func 20 [] []),.sl 15] (.call 3),Gm 6 16] SW) (Gx [gO 7 [.iC (.ay [] 0 .full)] (.nil 1)] SX)
noncomputable def XD:eA :=
 Gx [gO 2 [.hI 0] .box,Gk 4 0,Gk 5 0] SY
theorem ae2:ze Go.Proofs.Tryz.prog UU 25=some (XD,73,[.tmp 4,.tmp 5]):=by kernel_rfl
end Go.Proofs.YtfakoboiahbhaaaGreat.Ab


namespace Go.Proofs.YtfakoboiahbhaaaGreat.Ab
open Go
set_option maxRecDepth 20000
set_option maxHeartbeats 4000000
theorem XK (z:I):∀ n:Nat,e0 n [z]=List.replicate n z
 | 0=>rfl
 | n+1=>by simp [e0,XK z n,List.replicate_succ]
theorem XP {H:List au} {id:Nat} (l r:List Int) (h:H[id]?=some (.cells ((l++r).map hR))):rowOf H (.ref id 0 l.length none 1)=some (l.map hR):=by
 simp only [rowOf,h,sP,tD,sZ,sm,Nat.le_add_right,if_true,sO];rw [sY,vj (by simp),ud];rfl
theorem QV (lo id off len:Nat) (H:List au) (l:List I) (bD:lo≤id) (ah:H[id]?=some (.cells l)) (h:off+len≤l.length) :
  kT Go.Proofs.Tryz.prog lo #[38] H [.ref id off len none 1]=some (.tuple [],H.set id (.cells (l.take off++List.replicate len (hR 0)++l.drop (off+len)))):=by
 have e1:((#[38]:Array TypeId)[0]?).bind Go.Proofs.Tryz.prog.underlying=some (.slice 3):=by kernel_rfl
 have ck:bS Go.Proofs.Tryz.prog 3=some 1:=by kernel_rfl
 have dG:zeroCells Go.Proofs.Tryz.prog 3=some [.int .i64 0]:=by kernel_rfl
 have oJ:setCells off (e0 len [I.int .i64 0]) l=l.take off++List.replicate len (hR 0)++l.drop (off+len):=by
  apply List.ext_getElem?;intro j;rw [n9 _ _ _ _ (by rw [ih];simp;omega),ih,XK];simp only [tn,tD];by_cases aw:j<off
  ·rw [if_neg (by omega),sj,sA (by simp;omega),List.getElem?_take_of_lt aw]
  ·by_cases fo:j<off+len
   ·rw [if_pos ⟨by omega,fo⟩,sA (by simp;omega),sL (by simp;omega),vB,vB,sR,if_pos (by omega),if_pos (by omega)]
   ·rw [if_neg (by omega),sL (by simp;omega),sX];congr 1;simp;omega
 unfold kT;simp only [e1,ck,dG,g9,ah,sd,if_pos bD];rw [if_pos ⟨trivial,rfl,by decide⟩,if_pos (by omega),oJ];rfl
theorem Vo (A cur rest:List Int) (x:Nat) (h:A.length≤x) (al:x<cur.length):((A++cur.drop A.length++rest).map hR)[x]?=some (hR (cur.getD x 0)):=by
 rw [su,sA (by simp;omega),sL h,sX,show A.length+(x-A.length)=x by omega,sq al];simp [al]
theorem XZ (cur rest A:List Int) (v:Int) (h:A.length<cur.length):((A++cur.drop A.length++rest).map hR).set A.length (hR v)=((A++[v])++cur.drop (A++[v]).length++rest).map hR:=by
 rw [sj,sY,v7 _ _ (by simp),sZ,tL,sT h,List.cons_append,se,List.set_cons_zero];simp
theorem Pk {X:List au} {id:Nat} (l r:List Int) (h:X[id]?=some (.cells ((l++r).map hR))):il X (.ref id 0 l.length none 1)=jj l:=by
 simp only [il,hH,j8,XP l r h];rfl
theorem Pj {X:List au} {GY:FuncId} {rI cs:List I} (h:rI.map (hH X)=cs):il X (.func GY [] rI)=.func GY [] cs:=by
 simp only [il,tt];rw [←h]
theorem Zs (s:List Int) (p:Int→Bool) (ai:s.length≤1000):Ml s (fun x=>some (p x))=some (posOf p s 0):=by
 have:=T1 (s:=s) (f:=fun x=>some (p x)) (p:=p) (fun _ _=>rfl) (by omega) p8 0 0 rfl (sr _) (rC (by omega));rw [sO] at this;rw [Ml];exact this
theorem Sg (p:Int→Bool):∀ (l:List Int) (i:Nat),(posOf p l i=-1∧∀ x∈l,p x=false)∨∃ k,∃ (h:k<l.length),posOf p l i=((i+k:Nat):Int)∧p l[k]=true∧∀ x∈l.take k,p x=false
 | [],i=>.inl ⟨rfl,by simp⟩
 | x::l,i=>by
   by_cases al:p x=true
   ·exact .inr ⟨0,by simp,by simp [posOf,al],al,by simp⟩
   ·rcases Sg p l (i+1) with ⟨ad,af⟩ | ⟨k,h,ad,af,aG⟩
    ·exact .inl ⟨by rw [posOf,if_neg al];exact ad,fun y a0=>(sk.1 a0).elim (fun e=>by rw [e];simpa using al) (af y)⟩
    ·refine .inr ⟨k+1,by simp;omega,by rw [posOf,if_neg al,ad];omega,by simpa using af,?_⟩;intro y a0;rw [vd] at a0;rcases sk.1 a0 with rfl | a0
     ·simpa using al
     ·exact aG y a0
section
variable {id lo:Nat} {H:List au} {GY:FuncId} {rI cs:List I} {p:Int→Bool} {cur rest:List Int}
theorem acV (bD:lo≤id) (aQ:∀ c:au,rI.map (il (H.set id c))=cs) (Cl:rI.map (hH H)=cs) (JK:rL cs) (ao:cur.length≤1000) (av:∀ x,qg GY (hR x::cs) (B (p x))) (ah:H[id]?=some (.cells ((cur++rest).map hR))) :
  Sem Go.Proofs.Tryz.prog (.fn 107) [.ref id 0 cur.length none 1,.func GY [] rI] H lo (.ref id 0 (cur.filter fun x=>!p x).length none 1) (H.set id (.cells ((cur.filter (fun x=>!p x)++List.replicate (cur.length-(cur.filter fun x=>!p x).length) 0++rest).map hR))):=by
 have aE:=(sa.1 ah).1;have gs:∀ c:au,(H.set id c)[id]?=some c:=fun c=>by rw [sg aE]
 have same:H.set id (.cells ((cur++rest).map hR))=H:=by
  obtain ⟨ad,af⟩:=sa.1 ah;rw [←af,uI]
 refine G4 dJ WR rfl ⟨by simp,fun j ad af=>by rw [si (by omega)]⟩ fun Q bl=>?_;unfold SE SG;obtain ⟨m1,G5⟩:∃ c,Nu=c:=⟨_,rfl⟩;rw [G5];conv=>whnf
 refine ⟨_,_,call6 (bs:=jj cur::[.func GY [] cs]) ?_ ?_ (T2 JK (f:=fun x=>some (p x)) (fun y r aj=>by obtain rfl:=Option.some.inj aj;exact av y) (Zs cur p (by omega))) rfl,?_⟩
 ·simp only [se,tt,Pk cur rest ah,Pj Cl];show [I.cr (jj cur),I.cr (.func GY [] cs)]=_;rfl
 ·simp only [se,tt,Pk cur rest ah,Pj Cl,tr,tY,JK.Ni,tS];exact ra (fun _=>rfl) _ _ _
 conv=>whnf
 subst G5;unfold Nu;obtain ⟨b7,hp⟩:∃ c,Nr=c:=⟨_,rfl⟩;obtain ⟨fR,rQ⟩:∃ c,Nt=c:=⟨_,rfl⟩;rw [hp,rQ];rcases Sg p cur 0 with ⟨q1,aW⟩ | ⟨i,hi,q1,aW,cz⟩
 ·rw [q1];conv=>whnf
  have e:cur.filter (fun x=>!p x)=cur:=uq.2 fun x al=>by rw [aW x al];rfl
  rw [e,tL,wx,sN,same] at bl;exact bl _ _ _ ⟨.inr rfl,⟨rfl,fun j o aw=>.inr aw⟩,rfl⟩
 ·rw [q1,sP];conv=>whnf
  have fT:(cur.take i).filter (fun x=>!p x)=cur.take i:=uq.2 fun x al=>by rw [cz x al];rfl
  have e1:(cur.take (i+1)).filter (fun x=>!p x)=cur.take i:=by
   rw [tx hi,t_,fT];simp [aW]
  rw [q5 i (by omega)];refine .intro (fun m T H'=>∃ j,i+1≤j∧j≤cur.length∧m=cur.length-j∧((cur.take j).filter (fun x=>!p x)).length+1≤j∧T=GD 42 [(0,.ref id 0 cur.length none 1),(1,.func GY [] rI),(5,hR ((cur.take j).filter (fun x=>!p x)).length),(6,hR (j:Nat))]∧H'=H.set id (.cells (((cur.take j).filter (fun x=>!p x)++cur.drop ((cur.take j).filter (fun x=>!p x)).length++rest).map hR))) _ ⟨i+1,sb _,hi,rfl,?_,?_,?_⟩ ?_
  ·rw [e1,sR];omega
  ·rw [e1,sR,tq (by omega)];rfl
  ·rw [e1,sR,tq (by omega),uX];exact same.symm
  rintro m T H' ⟨j,h0,fo,rfl,hw,rfl,rfl⟩;subst hp;unfold Nr SF;obtain ⟨bk,b8⟩:∃ c,Nq=c:=⟨_,rfl⟩;rw [b8];conv=>whnf
  refine Hs (fun h=>?_) (fun h=>?_)
  ·(have h1:j<cur.length:=by omega);(conv=>whnf);refine ⟨by omega,?_⟩;(conv=>whnf);refine DU (gs _) ?_;(conv=>whnf);refine DU (x:=hR (cur.getD j 0)) (by rw [show 0+(j:Int).toNat*1=j by simp];exact Vo _ cur rest j (by omega) h1) ?_;(conv=>whnf);subst b8;refine HU fun mV Jd=>?_;unfold Nq;obtain ⟨a',cb⟩:∃ c,Np=c:=⟨_,rfl⟩;rw [cb];(conv=>whnf);refine ⟨_,_,call6 (bs:=hR (cur.getD j 0)::cs) ?_ ?_ (av (cur.getD j 0)) rfl,?_⟩
   ·show (_::rI.map (il _)).map I.cr=_;rw [aQ,se,JK.cr];rfl
   ·show (_::rI.map (il _)).all (cq 8)=true;rw [aQ];exact pY rfl JK.Lw
   (conv=>whnf);(have Q2:cur.getD j 0=cur[j]:=by simp [h1]);have ck:(cur.take (j+1)).filter (fun x=>!p x)=(cur.take j).filter (fun x=>!p x)++if (!p (cur.getD j 0))=true then [cur.getD j 0] else []:=by
    rw [tx h1,t_,Q2];simp only [tc,vi]
   cases ag:p (cur.getD j 0) with
   | false =>
     rw [ag,if_pos (show (!false)=true from rfl)] at ck;(conv=>whnf);subst cb;unfold Np;(conv=>whnf);refine ⟨by omega,?_⟩;(conv=>whnf);rw [show Nat.ble lo id=true from ue bD];(conv=>whnf);refine DU (gs _) ?_;(conv=>whnf);refine FI (by simp;omega) ?_;(conv=>whnf);refine Jd _ _ _ ?_;(conv=>whnf);refine ⟨cur.length-(j+1),by omega,j+1,by omega,by omega,rfl,by rw [ck,sm,tn];omega,?_,?_⟩
     ·rw [ck,sm,tn,←q5 j (by omega),←q5 ((cur.take j).filter (fun x=>!p x)).length (by omega)];rfl
     ·rw [sQ,ck,show 0+(((cur.take j).filter (fun x=>!p x)).length:Int).toNat*1=((cur.take j).filter (fun x=>!p x)).length by simp,XZ cur rest ((cur.take j).filter (fun x=>!p x)) _ (by omega)]
   | true =>
     rw [ag,if_neg (by decide),sN] at ck;(conv=>whnf);refine Jd _ _ _ ?_;(conv=>whnf);refine ⟨cur.length-(j+1),by omega,j+1,by omega,by omega,rfl,by rw [ck];omega,?_,by rw [ck]⟩;rw [ck,←q5 j (by omega)];rfl
  ·(obtain rfl:j=cur.length:=by omega);rw [tz] at hw ⊢;(conv=>whnf);subst rQ;unfold Nt;obtain ⟨dY,BZ⟩:∃ c,Ns=c:=⟨_,rfl⟩;rw [BZ];(conv=>whnf);refine ⟨rfl,⟨by omega,by omega⟩,fun _=>?_,fun h=>absurd h (by omega)⟩;(conv=>whnf);refine ⟨_,_,fun C=>(Nf rfl).trans (QV lo id _ _ _ _ bD (gs _) (by simp <;> omega)),?_⟩;(conv=>whnf);subst BZ;unfold Ns;(conv=>whnf);refine ⟨rfl,⟨by omega,by omega⟩,?_⟩;(conv=>whnf);refine bl _ _ _ ⟨.inr rfl,?_,rfl⟩;rw [sQ];generalize cur.filter (fun x=>!p x)=A at hw bl ⊢;have e:(List.take (0+(A.length:Int).toNat*1) ((A++cur.drop A.length++rest).map hR)++List.replicate (cur.length-(A.length:Int).toNat) (hR 0)++List.drop (0+(A.length:Int).toNat*1+(cur.length-(A.length:Int).toNat)) ((A++cur.drop A.length++rest).map hR))=(A++List.replicate (cur.length-A.length) 0++rest).map hR:=by
    rw [show 0+(A.length:Int).toNat*1=A.length by simp,show (A.length:Int).toNat=A.length by simp];rw [←uo,←uE,sj A,vj rfl,show A.length+(cur.length-A.length)=cur.length by omega,←sj,wq (by simp;omega)];simp
   rw [e];exact ⟨rfl,fun j o aw=>.inr aw⟩
theorem acY {JZ:List au} (Hc:H=JZ++[.cells (cur.map hR)]) (ph:id=JZ.length) (aj:rest=[]) (aS:cur.length≠0) (bD:lo≤id) (aQ:∀ c:au,rI.map (il (H.set id c))=cs) (Cl:rI.map (hH H)=cs) (JK:rL cs) (ao:cur.length≤1000) (av:∀ x,qg GY (hR x::cs) (B (p x))) :
  Sem Go.Proofs.Tryz.prog (.fn 107) [.ay (cur.map hR) cur.length (.uniq 1),.func GY [] rI] JZ lo (.ref id 0 (cur.filter fun x=>!p x).length none 1) (H.set id (.cells ((cur.filter (fun x=>!p x)++List.replicate (cur.length-(cur.filter fun x=>!p x).length) 0++rest).map hR))):=by
 have ah:H[id]?=some (.cells ((cur++rest).map hR)):=by rw [Hc,ph,aj,sN];simp
 have aE:=(sa.1 ah).1;have gs:∀ c:au,(H.set id c)[id]?=some c:=fun c=>by rw [sg aE]
 have same:H.set id (.cells ((cur++rest).map hR))=H:=by
  obtain ⟨ad,af⟩:=sa.1 ah;rw [←af,uI]
 refine G4 dJ WR rfl ⟨by rw [Hc];simp,fun j ad af=>by rw [si (by omega),Hc,sA (by omega)]⟩ fun Q bl=>?_;unfold SE SG;obtain ⟨m1,G5⟩:∃ c,Nu=c:=⟨_,rfl⟩;rw [G5];conv=>whnf
 refine .inl ⟨aS,?_⟩;rw [←Hc,←ph];conv=>whnf
 refine ⟨_,_,call6 (bs:=jj cur::[.func GY [] cs]) ?_ ?_ (T2 JK (f:=fun x=>some (p x)) (fun y r aj=>by obtain rfl:=Option.some.inj aj;exact av y) (Zs cur p (by omega))) rfl,?_⟩
 ·simp only [se,tt,Pk cur rest ah,Pj Cl];show [I.cr (jj cur),I.cr (.func GY [] cs)]=_;rfl
 ·simp only [se,tt,Pk cur rest ah,Pj Cl,tr,tY,JK.Ni,tS];exact ra (fun _=>rfl) _ _ _
 conv=>whnf
 subst G5;unfold Nu;obtain ⟨b7,hp⟩:∃ c,Nr=c:=⟨_,rfl⟩;obtain ⟨fR,rQ⟩:∃ c,Nt=c:=⟨_,rfl⟩;rw [hp,rQ];rcases Sg p cur 0 with ⟨q1,aW⟩ | ⟨i,hi,q1,aW,cz⟩
 ·rw [q1];conv=>whnf
  have e:cur.filter (fun x=>!p x)=cur:=uq.2 fun x al=>by rw [aW x al];rfl
  rw [e,tL,wx,sN,same] at bl;exact bl _ _ _ ⟨.inr rfl,⟨rfl,fun j o aw=>.inr aw⟩,rfl⟩
 ·rw [q1,sP];conv=>whnf
  have fT:(cur.take i).filter (fun x=>!p x)=cur.take i:=uq.2 fun x al=>by rw [cz x al];rfl
  have e1:(cur.take (i+1)).filter (fun x=>!p x)=cur.take i:=by
   rw [tx hi,t_,fT];simp [aW]
  rw [q5 i (by omega)];refine .intro (fun m T H'=>∃ j,i+1≤j∧j≤cur.length∧m=cur.length-j∧((cur.take j).filter (fun x=>!p x)).length+1≤j∧T=GD 42 [(0,.ref id 0 cur.length none 1),(1,.func GY [] rI),(5,hR ((cur.take j).filter (fun x=>!p x)).length),(6,hR (j:Nat))]∧H'=H.set id (.cells (((cur.take j).filter (fun x=>!p x)++cur.drop ((cur.take j).filter (fun x=>!p x)).length++rest).map hR))) _ ⟨i+1,sb _,hi,rfl,?_,?_,?_⟩ ?_
  ·rw [e1,sR];omega
  ·rw [e1,sR,tq (by omega)];rfl
  ·rw [e1,sR,tq (by omega),uX];exact same.symm
  rintro m T H' ⟨j,h0,fo,rfl,hw,rfl,rfl⟩;subst hp;unfold Nr SF;obtain ⟨bk,b8⟩:∃ c,Nq=c:=⟨_,rfl⟩;rw [b8];conv=>whnf
  refine Hs (fun h=>?_) (fun h=>?_)
  ·(have h1:j<cur.length:=by omega);(conv=>whnf);refine ⟨by omega,?_⟩;(conv=>whnf);refine DU (gs _) ?_;(conv=>whnf);refine DU (x:=hR (cur.getD j 0)) (by rw [show 0+(j:Int).toNat*1=j by simp];exact Vo _ cur rest j (by omega) h1) ?_;(conv=>whnf);subst b8;refine HU fun mV Jd=>?_;unfold Nq;obtain ⟨a',cb⟩:∃ c,Np=c:=⟨_,rfl⟩;rw [cb];(conv=>whnf);refine ⟨_,_,call6 (bs:=hR (cur.getD j 0)::cs) ?_ ?_ (av (cur.getD j 0)) rfl,?_⟩
   ·show (_::rI.map (il _)).map I.cr=_;rw [aQ,se,JK.cr];rfl
   ·show (_::rI.map (il _)).all (cq 8)=true;rw [aQ];exact pY rfl JK.Lw
   (conv=>whnf);(have Q2:cur.getD j 0=cur[j]:=by simp [h1]);have ck:(cur.take (j+1)).filter (fun x=>!p x)=(cur.take j).filter (fun x=>!p x)++if (!p (cur.getD j 0))=true then [cur.getD j 0] else []:=by
    rw [tx h1,t_,Q2];simp only [tc,vi]
   cases ag:p (cur.getD j 0) with
   | false =>
     rw [ag,if_pos (show (!false)=true from rfl)] at ck;(conv=>whnf);subst cb;unfold Np;(conv=>whnf);refine ⟨by omega,?_⟩;(conv=>whnf);rw [show Nat.ble lo id=true from ue bD];(conv=>whnf);refine DU (gs _) ?_;(conv=>whnf);refine FI (by simp;omega) ?_;(conv=>whnf);refine Jd _ _ _ ?_;(conv=>whnf);refine ⟨cur.length-(j+1),by omega,j+1,by omega,by omega,rfl,by rw [ck,sm,tn];omega,?_,?_⟩
     ·rw [ck,sm,tn,←q5 j (by omega),←q5 ((cur.take j).filter (fun x=>!p x)).length (by omega)];rfl
     ·rw [sQ,ck,show 0+(((cur.take j).filter (fun x=>!p x)).length:Int).toNat*1=((cur.take j).filter (fun x=>!p x)).length by simp,XZ cur rest ((cur.take j).filter (fun x=>!p x)) _ (by omega)]
   | true =>
     rw [ag,if_neg (by decide),sN] at ck;(conv=>whnf);refine Jd _ _ _ ?_;(conv=>whnf);refine ⟨cur.length-(j+1),by omega,j+1,by omega,by omega,rfl,by rw [ck];omega,?_,by rw [ck]⟩;rw [ck,←q5 j (by omega)];rfl
  ·(obtain rfl:j=cur.length:=by omega);rw [tz] at hw ⊢;(conv=>whnf);subst rQ;unfold Nt;obtain ⟨dY,BZ⟩:∃ c,Ns=c:=⟨_,rfl⟩;rw [BZ];(conv=>whnf);refine ⟨rfl,⟨by omega,by omega⟩,fun _=>?_,fun h=>absurd h (by omega)⟩;(conv=>whnf);refine ⟨_,_,fun C=>(Nf rfl).trans (QV lo id _ _ _ _ bD (gs _) (by simp <;> omega)),?_⟩;(conv=>whnf);subst BZ;unfold Ns;(conv=>whnf);refine ⟨rfl,⟨by omega,by omega⟩,?_⟩;(conv=>whnf);refine bl _ _ _ ⟨.inr rfl,?_,rfl⟩;rw [sQ];generalize cur.filter (fun x=>!p x)=A at hw bl ⊢;have e:(List.take (0+(A.length:Int).toNat*1) ((A++cur.drop A.length++rest).map hR)++List.replicate (cur.length-(A.length:Int).toNat) (hR 0)++List.drop (0+(A.length:Int).toNat*1+(cur.length-(A.length:Int).toNat)) ((A++cur.drop A.length++rest).map hR))=(A++List.replicate (cur.length-A.length) 0++rest).map hR:=by
    rw [show 0+(A.length:Int).toNat*1=A.length by simp,show (A.length:Int).toNat=A.length by simp];rw [←uo,←uE,sj A,vj rfl,show A.length+(cur.length-A.length)=cur.length by omega,←sj,wq (by simp;omega)];simp
   rw [e];exact ⟨rfl,fun j o aw=>.inr aw⟩
end

section
variable {id lo:Nat} {H:List au}
theorem VE (l r:List Int) (aS:0<l.length) (ak:l.length≤1000) (ah:H[id]?=some (.cells ((l++r).map hR))) :
  Sem Go.Proofs.Tryz.prog (.fn 75) [.ref id 0 l.length none 1] H lo (.ay (l.map hR) l.length (.uniq 1)) H:=by
 refine G4 dJ WY rfl ⟨sb _,fun j _ _=>rfl⟩ fun Q bl=>?_;unfold Tb Tc;conv=>whnf
 refine ⟨.bool false,H,fun C=>by kernel_rfl,?_⟩;conv=>whnf
 refine DU ah ?_;conv=>whnf
 refine ⟨by simp,?_⟩;rw [show List.map I.view (List.take (l.length*1) (List.drop 0 (List.map hR (l++r))))=l.map hR by rw [sO,tD,sY,vj (by simp),ud];rfl];conv=>whnf
 refine ⟨by simp,by omega,rfl,by omega,?_⟩;conv=>whnf
 exact bl _ _ _ ⟨.inr rfl,⟨rfl,fun j o aw=>.inr aw⟩,by rw [sP];rfl⟩
theorem abl {t:p3} (aS:0<t.2.length) (ak:t.2.length≤1000) :
  Sem Go.Proofs.Tryz.prog (.fn 77) [G1 t] H lo (.ay ((upto t.2.length).map hR) t.2.length (.uniq 1)) H:=by
 refine G4 dJ W0 rfl ⟨sb _,fun j _ _=>rfl⟩ fun Q bl=>?_;unfold Uh N0;conv=>whnf
 refine .intro (fun m T H'=>∃ i:Nat,i≤t.2.length∧m=t.2.length-i∧T=GD 20 [(3,(.ay ((upto i).map hR) (upto i).length (.uniq 1))),(10,(hR (t.2.length:Int))),(11,(hR (i:Int)))]∧H'=H) _ ⟨0,by omega,rfl,rfl,rfl⟩ ?_;rintro m T H' ⟨i,hi,rfl,rfl,rfl⟩;conv=>whnf
 refine Hs (fun h=>?_) (fun h=>?_)
 ·conv=>whnf
  refine ⟨rfl,by omega,rfl,?_,?_⟩
  ·rw [rN];omega
  erw [Ly hR (upto i) (i:Int)];conv=>whnf
  refine ⟨t.2.length-(i+1),by omega,i+1,by omega,rfl,?_,rfl⟩;rw [←q5 i (by omega),K1];rfl
 ·obtain rfl:i=t.2.length:=by omega
  conv=>whnf
  exact bl _ _ _ ⟨.inr rfl,⟨rfl,fun j o aw=>.inr aw⟩,by rw [rN];rfl⟩
theorem ads {P:Program} {C:b6} {o:Oper} {x:Operand} {l r:List Int} (aq:o.op=.assign x) (bD:lo≤id) (ah:H[id]?=some (.cells ((l++r).map hR))) :
  a8 P C lo o 2 [.ref id 0 l.length none 1] H=some (.ay (l.map hR) l.length .shared,H.set id .dead):=by
 unfold a8;rw [aq];show eS P lo 2 o.type x H [.ref id 0 l.length none 1]=_;unfold eS;simp only [bD,if_true,XP l r ah,r_,lenOf,sd,gV]
end

noncomputable def PX:eA :=
 .loop (some (Ex false [1,1,2,2,6,3,10])) (Gx [gO 15 [.sl 14,.sl 13] (.bin .lss)] (.seq (.cond (.sl 15) .skip (.exit 0)) (.seq (.block 1 (Gx [gO 16 [.sl 12,.sl 14] (.pO 2),gO 17 [.hL 16] (.pV (.str 2)),gO 7 [] (.alloc [.int .i64 0,.int .i64 0]),⟨none,[.sl 7,.hI 17],none,none,.st 2⟩] (Gx [Gl 18 1,gO 19 [.sl 7] (.pV (.str 2)),gO 20 [.sl 5] (.pV (.str 2)),gO 21 [.sl 18,.sl 19,.sl 20] (.call 6)] (.cond (.sl 21) (Gq [gO 22 [.hL 7] (.pV (.str 2)),⟨none,[.sl 5,.hI 22],none,none,.st 2⟩]) .skip)))) (Gq [FX 23 14 1,Gm 14 23]))))
noncomputable def aar:eA :=
 Gx [gO 4 [] (.alloc [.int .i64 0,.int .i64 0])] (Gx [Gl 8 0,gO 9 [.hL 8,.iC (.int .i64 0)] (.pO 2),gO 10 [.hL 9] (.pV (.str 2)),gO 5 [] (.alloc [.int .i64 0,.int .i64 0]),⟨none,[.sl 5,.hI 10],none,none,.st 2⟩] (.seq (Gx [Gm 11 0,gO 12 [.hI 11,.iC (.int .i64 1)] (.AW 2 true false false),gO 13 [.sl 12] .w8,Gk 14 0] (.block 0 PX)) (Gx [gO 24 [.hL 5] (.pV (.str 2)),⟨none,[.sl 4,.hI 24],none,none,.st 2⟩] .ret)))
theorem afc:ze Tryz.prog QB 110=some (aar,25,[.cell 4 (.str 2)]):=by kernel_rfl
def Km (l:qc) (better:((Int×Int)→(Int×Int)→Option Bool)) (p9:Int→Int→Option (Int×Int)):Nat→Int→Int→Int→Option (Int×Int)
 | 0,_,_,_=>none
 | m+1,s1,s2,dg =>
   if (decide (s1<((l.drop (1:Int).toNat).length:Int)))=true then
    p6 (0≤s1∧s1<((l.drop (1:Int).toNat).length:Int)) <|
    (better (ix (l.drop (1:Int).toNat) s1) (s2,dg)).bind fun r1 =>
    if r1=true then
     Km l better p9 m (w (s1+(1:Int))) ((ix (l.drop (1:Int).toNat) s1).1) ((ix (l.drop (1:Int).toNat) s1).2)
    else
     Km l better p9 m (w (s1+(1:Int))) s2 dg
   else
    p9 s2 dg
def Py (l:qc) (better:((Int×Int)→(Int×Int)→Option Bool)):Option (Int×Int) :=
 p6 (0≤(0:Int)∧(0:Int)<(l.length:Int)) <|
 p6 (0≤(1:Int)∧(1:Int)≤(l.length:Int)) <|
 Km l better (fun xY om =>
   some (xY,om)) p8 (0:Int) ((ix l (0:Int)).1) ((ix l (0:Int)).2)
theorem ajp {l:qc} {better:((Int×Int)→(Int×Int)→Option Bool)} {p9:Int→Int→Option (Int×Int)} {s1:Int} {s2:Int} {dg:Int} {LR:FuncId} {JD:List I} (LJ:rL JD) (RQ:∀ (qx:(Int×Int)) (Be:(Int×Int)) (r:Bool),better qx Be=some r→qg LR ((.agg [(hR qx.1),(hR qx.2)])::(.agg [(hR Be.1),(hR Be.2)])::JD) (B r)) {v:(Int×Int)} {Q:rp}   (rm:∀ (xY om:Int) (rD:List au) (p5:List I),p9 xY om=some v→q7 25 [(4,(.ptr 0 0)),(5,(.ptr 1 0))] p5→Q (.exit 0) p5 (au.cells [(hR (0:Int)),(hR (0:Int))]::au.cells [(hR xY),(hR om)]::rD)) {T:List I} (bX:eT (Ex false [1,1,2,2,6,3,10]) T=GD 25 [(1,(.func LR [] JD)),(4,(.ptr 0 0)),(5,(.ptr 1 0)),(12,(p7 (l.drop (1:Int).toNat) .shared)),(13,(hR ((l.drop (1:Int).toNat).length:Int))),(14,(hR s1))]) (h:Km l better p9 p8 s1 s2 dg=some v) :
  dD Tryz.prog QB 110 0 none PX T [au.cells [(hR (0:Int)),(hR (0:Int))],au.cells [(hR s2),(hR dg)]] Q:=by
 unfold PX;refine wp_loop bX ?_;refine .intro (fun m T H=>∃ (s1 s2 dg:Int) (Us:List au),T=GD 25 [(1,(.func LR [] JD)),(4,(.ptr 0 0)),(5,(.ptr 1 0)),(12,(p7 (l.drop (1:Int).toNat) .shared)),(13,(hR ((l.drop (1:Int).toNat).length:Int))),(14,(hR s1))]∧H=(au.cells [(hR (0:Int)),(hR (0:Int))]::au.cells [(hR s2),(hR dg)]::Us)∧Km l better p9 m s1 s2 dg=some v) p8 ⟨s1,s2,dg,[],rfl,rfl,h⟩ ?_;clear h bX;rintro m T H ⟨s1,s2,dg,Us,rfl,rfl,h⟩;cases m
 ·exact q9 h
 rename_i m;rw [Km.eq_2] at h;conv=>whnf
 refine bs h (fun qd h=>?_) fun qd h=>?_
 ·rw [qd];conv=>whnf
  refine qm h id fun qq h=>?_;rw [q3 p0 2 qw (l.drop (1:Int).toNat) s1 qq];conv=>whnf
  refine DU (x:=au.cells [(hR (0:Int)),(hR (0:Int))]) (by first | exact ql.h | rfl | (simp [sc,I.settle];done)) ?_
  conv=>whnf
  rw [ru];refine DU (x:=au.cells [(hR (ix (l.drop (1:Int).toNat) s1).1),(hR (ix (l.drop (1:Int).toNat) s1).2)]) (by first | exact ql.h | rfl | (simp [sc,I.settle];done)) ?_
  conv=>whnf
  obtain ⟨r1,qP,h⟩:=p' h;refine ⟨_,_,call6 (bs:=((.agg [(hR (ix (l.drop (1:Int).toNat) s1).1),(hR (ix (l.drop (1:Int).toNat) s1).2)])::(.agg [(hR s2),(hR dg)])::JD)) (by simp only [se,LJ.il,LJ.cr];rfl) (by simp only [se,LJ.il];exact (pY (I0 (pY rfl (pY rfl rfl))) (pY (I0 (pY rfl (pY rfl rfl))) LJ.Lw))) (RQ _ _ _ qP) rfl,?_⟩;conv=>whnf
  cases r1
  ·(conv=>whnf);replace h:=GK rfl h;exact ⟨m,sv m,(w (s1+(1:Int))),s2,dg,_,rfl,rfl,h⟩
  ·(conv=>whnf);replace h:=GL rfl h;refine DU (x:=au.cells [(hR (ix (l.drop (1:Int).toNat) s1).1),(hR (ix (l.drop (1:Int).toNat) s1).2)]) (by first | exact ql.h | rfl | (simp [sc,I.settle];done)) ?_
   (conv=>whnf);exact ⟨m,sv m,(w (s1+(1:Int))),(ix (l.drop (1:Int).toNat) s1).1,(ix (l.drop (1:Int).toNat) s1).2,_,rfl,rfl,h⟩
 ·rw [qd];conv=>whnf
  exact rm _ _ _ _ h ⟨rfl,rfl⟩
theorem ajq {l:qc} {better:((Int×Int)→(Int×Int)→Option Bool)} {LR:FuncId} {JD:List I} (LJ:rL JD) (RQ:∀ (qx:(Int×Int)) (Be:(Int×Int)) (r:Bool),better qx Be=some r→qg LR ((.agg [(hR qx.1),(hR qx.2)])::(.agg [(hR Be.1),(hR Be.2)])::JD) (B r)) {v:(Int×Int)} (h:Py l better=some v):qg 110 [(.ay (l.flatMap p0) l.length .shared),(.func LR [] JD)] (.agg [(hR v.1),(hR v.2)]):=by
 refine qB dJ afc rfl (I0 (pY rfl (pY rfl rfl))) fun Q bl=>?_;have jy:qn [.cell 4 (.str 2)] Q (fun v=>(.agg [(hR v.1),(hR v.2)])) v:=fun T H bI=>bl _ T H bI;unfold Py at h;unfold aar;obtain ⟨Hn,qC⟩:∃ c,PX=c:=⟨_,rfl⟩;rw [qC];conv=>whnf
 refine qm h id fun eW h=>?_;rw [q3 p0 2 qw l (0:Int) eW];conv=>whnf
 refine qm h id fun fm h=>?_;erw [Pl p0 2 qw l (1:Int) fm];conv=>whnf
 subst qC;refine ajp LJ RQ ?_ (by exact rfl) h;intro xY om rD p5 h qi;obtain ⟨qZ,rfl⟩:=qi.ex;conv=>whnf
 exact p4 h jy rfl rfl

noncomputable def aap:eA :=
 Gx [gO 3 [.iC (.bool false)] .iS] (Gx [Gm 4 0,Gj 5 1,FZ 6 4 5 .eql,Gm 3 6] .ret)
theorem afa:ze Tryz.prog UC 108=some (aap,7,[.tmp 3]):=by kernel_rfl
def Zo (k c0:Int):Option Bool :=
 some (decide (k=c0))
theorem ajk {k:Int} {c0:Int} {v:Bool} (h:Zo k c0=some v):qg 108 [(hR k),(.bU [(hR c0)])] (B v):=by
 refine qB dJ afa rfl rfl fun Q bl=>?_;have jy:qn [.tmp 3] Q (fun v=>(B v)) v:=fun T H bI=>bl _ T H bI;unfold Zo at h;unfold aap;conv=>whnf
 exact p4 h jy rfl rfl

noncomputable def aas:eA :=
 Gx [gO 2 [.hI 0] .box,gO 3 [.hI 1] .box,gO 4 [.iC (.bool false)] .iS] (Gx [F4 5 2 0,Gj 6 5,F4 7 3 0,Gj 8 7,FZ 9 6 8 .lss,Gm 4 9] .ret)
theorem afd:ze Tryz.prog UE 111=some (aas,10,[.tmp 4]):=by kernel_rfl
def NJ (x:(Int×Int)) (y:(Int×Int)):Option Bool :=
 some (decide (x.1<y.1))
theorem ajr {x:(Int×Int)} {y:(Int×Int)} {v:Bool} (h:NJ x y=some v):qg 111 [(.agg [(hR x.1),(hR x.2)]),(.agg [(hR y.1),(hR y.2)])] (B v):=by
 refine qB dJ afd rfl rfl fun Q bl=>?_;have jy:qn [.tmp 4] Q (fun v=>(B v)) v:=fun T H bI=>bl _ T H bI;unfold NJ at h;unfold aas;conv=>whnf
 exact p4 h jy rfl rfl

noncomputable def aat:eA :=
 Gx [gO 3 [.iC (.bool false)] .iS] (Gx [Gm 4 0,F4 5 1 0,Gj 6 5,FZ 7 4 6 .eql,Gm 3 7] .ret)
theorem afe:ze Tryz.prog UF 112=some (aat,8,[.tmp 3]):=by kernel_rfl
def Zr (k:Int) (c0:(Int×Int)):Option Bool :=
 some (decide (k=c0.1))
theorem ajs {k:Int} {c0:(Int×Int)} {v:Bool} (h:Zr k c0=some v):qg 112 [(hR k),(.bU [(hR c0.1),(hR c0.2)])] (B v):=by
 refine qB dJ afe rfl rfl fun Q bl=>?_;have jy:qn [.tmp 3] Q (fun v=>(B v)) v:=fun T H bI=>bl _ T H bI;unfold Zr at h;unfold aat;conv=>whnf
 exact p4 h jy rfl rfl

theorem O3 (t:p3):cq 8 (G1 t)=true:=by
 show (([hR t.1,.ay (t.2.flatMap p0) t.2.length .shared]:List I).all (cq 7))=true;exact pY rfl (pY (qG (fun _=>(pY rfl (pY rfl rfl))) _ _ _) rfl)
section
variable {t:p3} {S:List Int} {H:List au} {bi k:Nat} {at_ i:Int} {can out:Row} {Pv aiG aiH:I} {K:cB→List I→List au→Prop}
theorem agh (p2:qu t) (cm:ri t S) (aN:S.Nodup) (hi:i∈S) (ao:can.length≤1000) (ag:H[bi]?=some (.cells [hR i]))
 (fE:∀ (Y:List au),K .normal (GD 81 [(0,G1 t),(3,.ay (out.flatMap p0) out.length (.uniq 2)),(4,.ref 0 0 S.length none 1),(5,hR at_),(6,.ay ((can++HK t S at_ i).flatMap p0) (can++HK t S at_ i).length (.uniq 2)),(8,.ptr bi 0),(9,.ay ((rO S i).map hR) (rO S i).length .shared),(20,.ref 0 0 S.length none 1),(21,hR S.length),(22,hR (k:Int)),(30,hR 2),(31,B false)]) (H++Y)) :
  dD Tryz.prog QK 85 0 none Pe (GD 81 [(0,G1 t),(3,.ay (out.flatMap p0) out.length (.uniq 2)),(4,.ref 0 0 S.length none 1),(5,hR at_),(6,.ay (can.flatMap p0) can.length (.uniq 2)),(8,.ptr bi 0),(9,.ay ((rO S i).map hR) (rO S i).length .shared),(20,.ref 0 0 S.length none 1),(21,hR S.length),(22,hR (k:Int)),(23,Pv),(26,aiG),(29,aiH)]) H K:=by
 have gZ:=cm i hi;unfold Pe;obtain ⟨dY,BZ⟩:∃ c,Tu=c:=⟨_,rfl⟩;rw [BZ];conv=>whnf
 refine .intro (fun m T H'=>∃ (e:Nat) (Y:List au),e≤2∧m=2-e∧T=GD 81 [(0,G1 t),(3,.ay (out.flatMap p0) out.length (.uniq 2)),(4,.ref 0 0 S.length none 1),(5,hR at_),(6,.ay ((can++([(i,0),(i,1)].take e).filter (GQ t S at_)).flatMap p0) (can++([(i,0),(i,1)].take e).filter (GQ t S at_)).length (.uniq 2)),(8,.ptr bi 0),(9,.ay ((rO S i).map hR) (rO S i).length .shared),(20,.ref 0 0 S.length none 1),(21,hR S.length),(22,hR (k:Int)),(30,hR (e:Int))]∧H'=H++Y) 2 ⟨0,[],by omega,rfl,?_,by simp⟩ ?_
 ·rw [tf,vi,sN];rfl
 rintro m T H' ⟨e,Y,he,rfl,rfl,rfl⟩;conv=>whnf
 refine Hs (fun h=>?_) (fun h=>?_)
 ·subst BZ;unfold Tu;obtain ⟨b7,hp⟩:∃ c,Tt=c:=⟨_,rfl⟩;rw [hp];conv=>whnf
  subst hp;unfold Tt;obtain ⟨bq,d_⟩:∃ c,Ts=c:=⟨_,rfl⟩;rw [d_];conv=>whnf
  refine DU (qA ag) ?_;conv=>whnf
  refine DU (x:=au.cells [(hR (0:Int)),(hR (0:Int))]) (by first | exact ql.h | rfl | (simp [sc,I.settle];done)) ?_
  conv=>whnf
  rw [ru];subst d_;unfold Ts;obtain ⟨bk,b8⟩:∃ c,Tr=c:=⟨_,rfl⟩;rw [b8];conv=>whnf
  refine DU (x:=au.cells [hR i,hR (e:Int)]) (by first | exact ql.h | rfl | (simp [sc,I.settle];done)) ?_
  conv=>whnf
  refine ⟨pY (O3 t) (pY rfl rfl),_,Jv (I5 (p:=(i,(e:Int))) gZ),?_⟩;conv=>whnf
  subst b8;unfold Tr;obtain ⟨a',cb⟩:∃ c,Pc=c:=⟨_,rfl⟩;rw [cb];conv=>whnf
  have G7:K3 t (rO S i) (fin t (i,(e:Int)))=some (J6 t (rO S i) (fin t (i,(e:Int)))):=(Rd p2 (Mj cm i) (NH aN i) _).1;have C_:∀ q:Bool,GQ t S at_ (i,(e:Int))=q→([(i,0),(i,1)].take (e+1)).filter (GQ t S at_)=([(i,0),(i,1)].take e).filter (GQ t S at_)++if q=true then [(i,(e:Int))] else []:=fun q a3=>by
   subst a3;rcases (show e=0∨e=1 by omega) with rfl | rfl
   ·simp [tc]
   ·simp only [vd,tf,tc,vi];split <;> simp
  have RZ:GQ t S at_ (i,(e:Int))=true→_:=fun a3=>C_ true a3;have fX:GQ t S at_ (i,(e:Int))=false→([(i,0),(i,1)].take (e+1)).filter (GQ t S at_)=([(i,0),(i,1)].take e).filter (GQ t S at_):=fun a3=>by
   have:=C_ false a3;rw [if_neg (by decide),sN] at this;exact this
  rw [if_pos rfl] at RZ;have cC:(can++([(i,0),(i,1)].take e).filter (GQ t S at_)).length≤1002:=by
   have ad:=tJ (GQ t S at_) ([(i,0),(i,1)].take e);rw [sR] at ad;simp only [sm,sH,List.length_nil] at ad ⊢;omega
  rcases Ij (decide (at_<0)) with eW | eW
  ·rw [eW];(conv=>whnf);refine ⟨pY (O3 t) (pY (ra (fun _=>rfl) _ _ _) (pY rfl rfl)),_,Zp G7,?_⟩;(conv=>whnf);rcases Ij (J6 t (rO S i) (fin t (i,(e:Int)))) with fm | fm
   ·rw [fm];(have a3:GQ t S at_ (i,(e:Int))=true:=by unfold GQ;rw [eW,fm];rfl);(conv=>whnf);subst cb;unfold Pc;(conv=>whnf);refine DU (x:=au.cells [hR i,hR (e:Int)]) (by first | exact ql.h | rfl | (simp [sc,I.settle];done)) ?_
    (conv=>whnf);refine ⟨rfl,by omega,rfl,by omega,?_⟩;erw [I' p0 _ (i,(e:Int))];(conv=>whnf);exact ⟨2-(e+1),by omega,e+1,Y++[au.cells [hR i,hR (e:Int)]],by omega,rfl,by rw [RZ a3,←sj,←q5 e (by omega)] <;> rfl,by rw [sj] <;> rfl⟩
   ·rw [fm];(have a3:GQ t S at_ (i,(e:Int))=false:=by unfold GQ;rw [eW,fm];rfl);(conv=>whnf);exact ⟨2-(e+1),by omega,e+1,Y++[au.cells [hR i,hR (e:Int)]],by omega,rfl,by rw [fX a3,←q5 e (by omega)] <;> rfl,by rw [sj] <;> rfl⟩
  ·rw [eW];(conv=>whnf);rcases Ij (decide (qp t (i,(e:Int))=at_)) with qd | qd
   ·rw [qd];(conv=>whnf);refine ⟨pY (O3 t) (pY (ra (fun _=>rfl) _ _ _) (pY rfl rfl)),_,Zp G7,?_⟩;(conv=>whnf);rcases Ij (J6 t (rO S i) (fin t (i,(e:Int)))) with fm | fm
    ·rw [fm];(have a3:GQ t S at_ (i,(e:Int))=true:=by unfold GQ;rw [eW,fm,qd];rfl);(conv=>whnf);subst cb;unfold Pc;(conv=>whnf);refine DU (x:=au.cells [hR i,hR (e:Int)]) (by first | exact ql.h | rfl | (simp [sc,I.settle];done)) ?_
     (conv=>whnf);refine ⟨rfl,by omega,rfl,by omega,?_⟩;erw [I' p0 _ (i,(e:Int))];(conv=>whnf);exact ⟨2-(e+1),by omega,e+1,Y++[au.cells [hR i,hR (e:Int)]],by omega,rfl,by rw [RZ a3,←sj,←q5 e (by omega)] <;> rfl,by rw [sj] <;> rfl⟩
    ·rw [fm];(have a3:GQ t S at_ (i,(e:Int))=false:=by unfold GQ;rw [eW,fm,qd];rfl);(conv=>whnf);exact ⟨2-(e+1),by omega,e+1,Y++[au.cells [hR i,hR (e:Int)]],by omega,rfl,by rw [fX a3,←q5 e (by omega)] <;> rfl,by rw [sj] <;> rfl⟩
   ·rw [qd];(have a3:GQ t S at_ (i,(e:Int))=false:=by unfold GQ;rw [eW,qd];rfl);(conv=>whnf);exact ⟨2-(e+1),by omega,e+1,Y++[au.cells [hR i,hR (e:Int)]],by omega,rfl,by rw [fX a3,←q5 e (by omega)] <;> rfl,by rw [sj] <;> rfl⟩
 ·obtain rfl:e=2:=by omega
  conv=>whnf
  exact fE Y
theorem X3 {G:List au} {bi:Nat} {cs:List I} (h:G[bi]?=some (.cells cs)) (aC:(cs.map I.view).map (j8 G)=cs):[I.ptr bi 0].map (il G)=[.bU cs]:=by
 simp only [se,tt,il,hH,h,sO];rw [aC]
theorem X4 {G:List au} {bi:Nat} {cs:List I} (h:G[bi]?=some (.cells cs)) (aC:(cs.map I.view).map (j8 G)=cs):[I.ptr bi 0].map (hH G)=[.bU cs]:=by
 simp only [se,tt,hH,h,sO];rw [aC]
theorem Vs {cs:List I} (h:cs.all (cq 6)=true):rL [.bU cs]:=⟨by
 simp only [tr,tY,tS];show cs.all (cq 6)=true
 exact h,by simp⟩
theorem Zj (S:List Int) (i:Int):(S.filter fun x=>!decide (x=i))=rO S i:=by
 unfold rO;congr 1;funext x;simp
theorem TG (G:List au) (a c:au):(G++[a]).set G.length c=G++[c]:=ru G a c
theorem QS {b:p3} {S:List Int} {at_:Int}:∀ L:List Int,(L.flatMap (HK b S at_)).length≤2*L.length
 | []=>by simp
 | i::L=>by
   have a_:=QS (b:=b) (S:=S) (at_:=at_) L;have ad:(HK b S at_ i).length≤2:=tJ _ _;rw [List.flatMap_cons,sm,sH];omega
theorem acw {b:p3} {S:List Int} {at_:Int} (ai:S.Pairwise (·<·)):(He b S at_).Pairwise fun p q=>p.1≤q.1:=by
 unfold He;have ad:∀ i,∀ x∈HK b S at_ i,x.1=i:=fun i x al=>by
  have:=(sM.1 al).1;simp only [sk,tN,or_false] at this;rcases this with rfl | rfl <;> rfl
 refine List.pairwise_flatMap.2 ⟨fun i _=>?_,ai.imp fun jA x al y a0=>?_⟩
 ·exact List.Pairwise.sublist List.filter_sublist (by simp)
 ·rw [ad _ x al,ad _ y a0];omega
theorem Vr {l:Row} (ak:l.length≤1000) {p:Int×Int}:∀ (m i:Nat) (z:Int),z=i→i≤(l.drop 1).length→(l.drop 1).length-i<m→(∀ q∈l.drop 1,p.1≤q.1)→Km l NJ (fun xY om=>some (xY,om)) m z p.1 p.2=some p
 | 0,_,_,_,_,h,_=>absurd h (by omega)
 | m+1,i,_,rfl,hi,hm,a3=>by
   rw [Km,show (1:Int).toNat=1 from rfl];by_cases h:(i:Int)<((l.drop 1).length:Int)
   ·(have qT:i<(l.drop 1).length:=by omega);have hle:=a3 _ (sE qT);(have F':(l.drop 1).length≤1000:=by simp;omega);rw [if_pos (decide_eq_true h),qe ⟨by omega,h⟩,qW qT,NJ,r_,if_neg (by simp;simpa using hle),rH i (by omega)];exact Vr ak m (i+1) _ rfl (by omega) (by omega) a3
   ·rw [if_neg (by simpa using h)]
theorem acs {b:p3} {S:List Int} {at_:Int} (ai:S.Pairwise (·<·)) {p:Int×Int} {r:Row} (h:He b S at_=p::r) (ak:(p::r).length≤1000):Py (He b S at_) NJ=some p:=by
 have aj:=acw (b:=b) (at_:=at_) ai;rw [h] at aj ⊢;have jG:0<(p::r).length:=by simp
 have a3:∀ q∈(p::r).drop 1,p.1≤q.1:=(tg.1 aj).1;rw [Py,qe ⟨by omega,by omega⟩,qe ⟨by omega,by omega⟩];have Cj:((p::r).drop 1).length≤(p::r).length:=by simp
 exact Vr ak p8 0 0 rfl (by omega) (rC (by omega)) a3
theorem age (p2:qu t) (cm:ri t S) (ai:S.Pairwise (·<·)) (aS:S≠[]) {Z:List Int} (ah:H[0]?=some (.cells ((S++Z).map hR))) (aq:out.length≤1000)
 (GZ:∀ (a7:List I) (G:List au),He t S at_=[]→(j1 G a7 [.tmp 2]).map hb=some (.ay (out.flatMap p0) out.length (.uniq 2))→K .ret a7 G)
 (Jd:∀ (p:Int×Int) (r:Row) (Qx:List Int) (Qq:List au) (YP YQ YR Pv YS YU YV YW YX:I),He t S at_=p::r→Qq[0]?=some (.cells ((rO S p.1++Qx).map hR))→K .normal (GD 81 [(0,G1 t),(3,.ay ((out++[p]).flatMap p0) (out++[p]).length (.uniq 2)),(4,.ref 0 0 (rO S p.1).length none 1),(5,hR (fin t p)),(20,YP),(21,YQ),(22,YR),(23,Pv),(63,YU),(65,YS),(75,YV),(76,YW),(78,YX)]) Qq) :
  dD Tryz.prog QK 85 0 none Pd (GD 81 [(0,G1 t),(3,.ay (out.flatMap p0) out.length (.uniq 2)),(4,.ref 0 0 S.length none 1),(5,hR at_),(6,.ay [] 0 (.uniq 2))]) H K:=by
 have aN:S.Nodup:=ai.imp fun h e=>by omega
 have Oq:S.length≤10:=sI (JN aN cm) p2.len;unfold Pd;obtain ⟨akK,V9⟩:∃ c,Tn=c:=⟨_,rfl⟩;obtain ⟨m2,rT⟩:∃ c,Tw=c:=⟨_,rfl⟩;rw [V9,rT];conv=>whnf
 refine .intro (fun m T H'=>∃ (k:Nat) (Y:List au),k≤S.length∧m=S.length-k∧T=GD 81 [(0,G1 t),(3,.ay (out.flatMap p0) out.length (.uniq 2)),(4,.ref 0 0 S.length none 1),(5,hR at_),(6,.ay (((S.take k).flatMap (HK t S at_)).flatMap p0) ((S.take k).flatMap (HK t S at_)).length (.uniq 2)),(20,.ref 0 0 S.length none 1),(21,hR S.length),(22,hR (k:Int))]∧H'=H++Y) _ ⟨0,[],by omega,rfl,rfl,by simp⟩ ?_;rintro m T H' ⟨k,Y,av,rfl,rfl,rfl⟩;conv=>whnf
 refine Hs (fun h=>?_) (fun h=>?_)
 ·have HR:k<S.length:=by omega
  subst rT;unfold Tw;obtain ⟨m1,G5⟩:∃ c,Tv=c:=⟨_,rfl⟩;rw [G5];conv=>whnf
  refine ⟨by omega,?_⟩;conv=>whnf
  refine DU (qA ah) ?_;conv=>whnf
  refine DU (x:=hR S[k]) (by rw [show 0+(k:Int).toNat*1=k by simp,sY,sA (by simpa using HR),su,sq HR];rfl) ?_;conv=>whnf
  refine DU (x:=au.cells [(hR (0:Int))]) (by first | exact ql.h | rfl | (simp [sc,I.settle];done)) ?_
  conv=>whnf
  rw [ru];subst G5;unfold Tv;obtain ⟨fR,rQ⟩:∃ c,Pe=c:=⟨_,rfl⟩;rw [rQ];conv=>whnf
  refine ⟨_,_,LB (ra (fun _=>rfl) _ _ _) (VE S Z (by omega) (by omega) (qA (qA ah))),?_⟩;conv=>whnf
  obtain ⟨bi,LI⟩:∃ bi,bi=(H++Y).length:=⟨_,rfl⟩;obtain ⟨G,Hc⟩:∃ G,G=H++Y++[au.cells [I.int .i64 S[k]]]:=⟨_,rfl⟩;have LG:G[bi]?=some (.cells [hR S[k]]):=by rw [Hc,LI];simp
  rw [←Hc,←LI];have aQ:∀ c:au,[I.ptr bi 0].map (il ((G++[au.cells (S.map hR)]).set G.length c))=[.bU [hR S[k]]]:=fun c=>by
   rw [TG];exact X3 (qA LG) rfl
  have Cl:[I.ptr bi 0].map (hH (G++[au.cells (S.map hR)]))=[.bU [hR S[k]]]:=X4 (qA LG) rfl;refine ⟨_,_,Ha (acY (id:=G.length) (rest:=[]) (cur:=S) (p:=fun x=>decide (x=S[k])) rfl rfl rfl (by omega) (sr _) aQ Cl (Vs rfl) (by omega) fun x=>ajk rfl),?_⟩;rw [TG,Zj];conv=>whnf
  refine ⟨_,_,fun C=>ads (l:=rO S S[k]) (r:=List.replicate (S.length-(rO S S[k]).length) 0++[]) (id:=G.length) (H:=G++[au.cells ((rO S S[k]++List.replicate (S.length-(rO S S[k]).length) 0++[]).map hR)]) rfl (sr _) (by simp),?_⟩;rw [TG];conv=>whnf
  subst rQ;refine agh (k:=k) (can:=(S.take k).flatMap (HK t S at_)) (out:=out) (at_:=at_) p2 cm aN (sE HR) ?_ (qA LG) fun q6=>?_
  ·have:=QS (b:=t) (S:=S) (at_:=at_) (S.take k);rw [sR] at this;omega
  conv=>whnf
  have adZ:(S.take (k+1)).flatMap (HK t S at_)=(S.take k).flatMap (HK t S at_)++HK t S at_ S[k]:=by
   rw [tx HR,List.flatMap_append];simp
  refine ⟨S.length-(k+1),by omega,k+1,Y++[au.cells [I.int .i64 S[k]]]++[au.dead]++q6,by omega,rfl,by rw [adZ,←q5 k (by omega)] <;> rfl,by rw [Hc];simp only [sj]⟩
 ·obtain rfl:k=S.length:=by omega
  conv=>whnf
  rw [tz,show S.flatMap (HK t S at_)=He t S at_ from rfl];subst V9;unfold Tn;obtain ⟨acu,MV⟩:∃ c,Tm=c:=⟨_,rfl⟩;rw [MV];conv=>whnf
  rcases Ij (decide (((He t S at_).length:Int)=0)) with eW | eW
  ·rw [eW];(conv=>whnf);exact GZ _ _ (s_.1 (by have:=of_decide_eq_true eW;omega)) rfl
  ·rw [eW];(conv=>whnf);have eW:=of_decide_eq_false eW;obtain ⟨p,r,KP⟩:∃ p r,He t S at_=p::r:=by
    cases e:He t S at_ with
    | nil=>rw [e] at eW;exact absurd rfl eW
    | cons p r=>exact ⟨p,r,rfl⟩
   have aC:=OP.1 (show p∈He t S at_ by rw [KP];simp);have OE:=cm p.1 aC.1;subst MV;unfold Tm;obtain ⟨Vv,J4⟩:∃ c,Tl=c:=⟨_,rfl⟩;rw [J4];(conv=>whnf);refine ⟨pY (qG (fun _=>(pY rfl (pY rfl rfl))) _ _ _) (pY rfl rfl),_,ajq rL.nil (fun qx Be r h=>ajr h) (acs ai KP (by have:=QS (b:=t) (S:=S) (at_:=at_) S;rw [show S.flatMap (HK t S at_)=He t S at_ from rfl,KP] at this;omega)),?_⟩;(conv=>whnf);refine DU (x:=au.cells [(hR (0:Int)),(hR (0:Int))]) (by first | exact ql.h | rfl | (simp [sc,I.settle];done)) ?_
   (conv=>whnf);rw [ru];subst J4;unfold Tl;obtain ⟨Vu,JF⟩:∃ c,Tk=c:=⟨_,rfl⟩;rw [JF];(conv=>whnf);refine DU (x:=au.cells [hR p.1,hR p.2]) (by first | exact ql.h | rfl | (simp [sc,I.settle];done)) ?_
   (conv=>whnf);refine ⟨rfl,by omega,rfl,by omega,?_⟩;erw [I' p0 _ p];(conv=>whnf);subst JF;unfold Tk;obtain ⟨BF,IF⟩:∃ c,Tx=c:=⟨_,rfl⟩;rw [IF];(conv=>whnf);have fD:0<H.length:=(sa.1 ah).1;obtain ⟨bi,LI⟩:∃ bi,bi=(H++Y).length:=⟨_,rfl⟩;(have adX:bi≠0:=by rw [LI,sm];omega);obtain ⟨G,Hc⟩:∃ G,G=H++Y++[au.cells [(hR p.1).gT.settle,(hR p.2).gT.settle]]:=⟨_,rfl⟩;(have LG:G[bi]?=some (.cells [hR p.1,hR p.2]):=by rw [Hc,LI];simp;exact ⟨rfl,rfl⟩);(have JG:G[0]?=some (.cells ((S++Z).map hR)):=by rw [Hc];exact qA (qA ah));(have Wi:∀ c:au,(G.set 0 c)[bi]?=some (.cells [hR p.1,hR p.2]):=fun c=>by rw [si (Ne.symm adX)];exact LG);rw [←Hc,←LI];have aQ:∀ c:au,[I.ptr bi 0].map (il (G.set 0 c))=[.bU [hR p.1,hR p.2]]:=fun c=>X3 (Wi c) rfl;have Cl:[I.ptr bi 0].map (hH G)=[.bU [hR p.1,hR p.2]]:=X4 LG rfl;refine ⟨_,_,Ha (acV (id:=0) (cur:=S) (rest:=Z) (p:=fun x=>decide (x=p.1)) (sr _) aQ Cl (Vs rfl) (by omega) (fun x=>ajs (c0:=p) rfl) JG),?_⟩;rw [Zj];(conv=>whnf);subst IF;unfold Tx;(conv=>whnf);refine DU (Wi _) ?_;(conv=>whnf);refine ⟨pY (O3 t) (pY rfl rfl),_,Jv (I5 (p:=p) OE),?_⟩;(conv=>whnf);exact Jd p r (List.replicate (S.length-(rO S p.1).length) 0++Z) _ _ _ _ _ _ _ _ _ _ KP (by rw [←sj];exact sg (sa.1 JG).1)
def PL (t:p3):Option Row:=if qL t=0∧0<t.2.length then some (G0 t) else none
theorem akl {v:Row} (h:PL t=some v):qg 85 [G1 t] (.ay (v.flatMap p0) v.length .shared):=by
 unfold PL at h;split at h
 ·rename_i ao;obtain rfl:=Option.some.inj h;have p2:=G_.1 ao.1;have dA:=p2.len;clear h;refine qB dJ ae4 rfl (qG (fun _=>(pY rfl (pY rfl rfl))) _ _ _) fun Q bl=>?_;have jy:∀ T H,HW [.tmp 2] (.ay ((G0 t).flatMap p0) (G0 t).length .shared) .ret T H→Q .ret T H:=fun T H bI=>bl _ T H bI;unfold XI;obtain ⟨akN,Wa⟩:∃ c,Tq=c:=⟨_,rfl⟩;rw [Wa];conv=>whnf
  subst Wa;unfold Tq XJ;obtain ⟨akM,V'⟩:∃ c,Tp=c:=⟨_,rfl⟩;rw [V'];conv=>whnf
  refine ⟨_,_,LB (ra (fun _=>rfl) _ _ _) (abl ao.2 (by omega)),?_⟩;conv=>whnf
  refine .inl ⟨by omega,?_⟩;conv=>whnf
  refine .intro (fun m T H'=>∃ (S Z:List Int) (out:Row) (at_:Int),S.length<m∧Ke t m S out at_=G0 t∧ri t S∧S.Pairwise (·<·)∧out.length+S.length≤10∧T=GD 81 [(0,G1 t),(3,.ay (out.flatMap p0) out.length (.uniq 2)),(4,.ref 0 0 S.length none 1),(5,hR at_)]∧H'[0]?=some (.cells ((S++Z).map hR))) (t.2.length+1) ⟨upto t.2.length,[],[],-1,by rw [rN];omega,rfl,IP,YZ _,by rw [rN];simpa using dA,by rw [rN] <;> rfl,by rw [sN];rfl⟩ ?_;rintro m T H' ⟨S,Z,out,at_,hm,ae,cm,ai,aq,rfl,ah⟩;obtain ⟨m,rfl⟩:∃ g6,m=g6+1:=⟨m-1,by omega⟩;subst V';unfold Tp;obtain ⟨akL,V_⟩:∃ c,Pd=c:=⟨_,rfl⟩;rw [V_];conv=>whnf
  rcases Ij (decide ((0:Int)<(S.length:Int))) with eW | eW
  ·rw [eW];(conv=>whnf);subst V_;(have aS:S≠[]:=fun e=>by rw [e] at eW;simp at eW);refine age (at_:=at_) (out:=out) p2 cm ai aS ah (by omega) ?_ ?_
   ·intro a7 G ao aj;(conv=>whnf);(have bc:out=G0 t:=by rw [Ke,ao] at ae;exact ae);rw [bc] at aj;obtain ⟨vs,ad,af⟩:=Option.map_eq_some_iff.1 aj;exact jy _ _ ⟨.inr rfl,vs,ad,_,by rw [af];exact oT (qG (fun _=>(pY rfl (pY rfl rfl))) _ _ _),rfl⟩
   ·intro p r Qx Qq YP YQ YR Pv YS YU YV YW YX KP Hc;(conv=>whnf);have aC:=(OP.1 (show p∈He t S at_ by rw [KP];simp)).1;(have aN:S.Nodup:=ai.imp fun h e=>by omega);have aU:=(Pw aN aC).length_eq;rw [sH] at aU;refine ⟨m,by omega,rO S p.1,Qx,out++[p],fin t p,by omega,?_,Mj cm _,ai.filter _,by simp only [sm,tn];omega,rfl,Hc⟩;rw [Ke,KP] at ae;exact ae
  ·rw [eW];(conv=>whnf);have aS:S=[]:=s_.1 (by have:=of_decide_eq_false eW;omega);(have bc:out=G0 t:=by rw [Ke,aS] at ae;exact ae);rw [bc];exact jy _ _ ⟨.inr rfl,_,rfl,_,oT (qG (fun _=>(pY rfl (pY rfl rfl))) _ _ _),rfl⟩
 ·cases h
end

noncomputable def aaK:eA :=
 Gx [gO 1 [.hI 0] .box,gO 2 [.iC (.ay [] 0 .full)] (.nil 2),Gk 3 0] (Gx [gO 7 [.sl 1] (.pV (.str 2)),gO 8 [.iC (.func 64 [] []),.sl 7] (.call 3),Gm 6 8,GH 9 6 0,gO 10 [.hL 6] (.ext 1),Gm 4 9,Gm 5 10] (.seq (.block 0 (Gx [Gl 12 5,FY 13 12 0 .neq,Gm 11 13] (.cond (.sl 11) (Gx [Gm 14 5,gO 2 [.iC (.ay [] 0 .full)] (.nil 2),Gm 3 14] .ret) (Gx [F4 16 1 1,Gj 17 16,Gi 18 17,FY 19 18 0 .eql,Gm 15 19] (.cond (.sl 15) (Gx [gO 2 [.iC (.ay [] 0 .full)] (.nil 2),Gk 3 5] .ret) (Gx [Gl 21 4,gO 22 [.iC (.func 83 [] []),.sl 21] (.call 3),Gi 23 22,FY 24 23 1 .gtr,Gm 20 24] (.cond (.sl 20) (Gx [gO 2 [.iC (.ay [] 0 .full)] (.nil 2),Gk 3 27] .ret) .skip))))))) (Gx [Gm 25 4,gO 26 [.iC (.func 85 [] []),.sl 25] (.call 3),Gm 2 26,Gk 3 0] .ret)))
theorem afv:ze Tryz.prog UZ 37=some (aaK,27,[.tmp 2,.tmp 3]):=by kernel_rfl
def Mr (b:qb):Option (qc×Int) :=
 (IA b).bind fun r1 =>
 match r1 with
 | (none,q1) =>
   if (decide (q1≠(0:Int)))=true then
    some ([],q1)
   else
    if (decide ((b.2.length:Int)=(0:Int)))=true then
     some ([],(5:Int))
    else
     none
 | (some bR,q1) =>
   if (decide (q1≠(0:Int)))=true then
    some ([],q1)
   else
    if (decide ((b.2.length:Int)=(0:Int)))=true then
     some ([],(5:Int))
    else
     (Jw bR).bind fun r2 =>
     if (decide ((1:Int)<(r2.length:Int)))=true then
      some ([],(27:Int))
     else
      (PL bR).bind fun eF =>
      some (eF,(0:Int))
theorem ZM {b:qb} {v:(qc×Int)} (h:Mr b=some v):qg 37 [(.agg [(hR b.1),(.ay (b.2.flatMap p0) b.2.length .shared)])] (.tuple [(.ay (v.1.flatMap p0) v.1.length .shared),(hR v.2)]):=by
 refine qB dJ afv rfl (H5 (pY (qG (fun _=>(pY rfl (pY rfl rfl))) _ _ _) (pY rfl rfl))) fun Q bl=>?_;have jy:qn [.tmp 2,.tmp 3] Q (fun v=>(.tuple [(p7 v.1 .shared),(hR v.2)])) v:=fun T H bI=>bl _ T H bI;unfold Mr at h;unfold aaK;conv=>whnf
 obtain ⟨r1,eW,h⟩:=p' h;rcases r1 with ⟨_ | bR,q1⟩
 ·refine ⟨qf.pl,_,IQ eW,?_⟩;conv=>whnf
  refine bs h (fun fm h=>?_) fun fm h=>?_
  ·rw [fm];(conv=>whnf);exact p4 h jy rfl rfl
  ·rw [fm];(conv=>whnf);refine bs h (fun qd h=>?_) fun qd h=>?_
   ·rw [qd];(conv=>whnf);exact p4 h jy rfl rfl
   ·rw [qd];(conv=>whnf);exact q9 h
 ·refine ⟨qf.pl,_,IQ eW,?_⟩;conv=>whnf
  refine bs h (fun qq h=>?_) fun qq h=>?_
  ·rw [qq];(conv=>whnf);exact p4 h jy rfl rfl
  ·rw [qq];(conv=>whnf);refine bs h (fun qP h=>?_) fun qP h=>?_
   ·rw [qP];(conv=>whnf);exact p4 h jy rfl rfl
   ·rw [qP];(conv=>whnf);obtain ⟨r2,q_,h⟩:=p' h;refine ⟨qf.pl,_,Ue q_,?_⟩;(conv=>whnf);refine bs h (fun qO h=>?_) fun qO h=>?_
    ·rw [qO];(conv=>whnf);exact p4 h jy rfl rfl
    ·rw [qO];(conv=>whnf);obtain ⟨eF,qR,h⟩:=p' h;refine ⟨qf.pl,_,akl qR,?_⟩;(conv=>whnf);exact p4 h jy rfl rfl

noncomputable def aaM:eA :=
 Gx [gO 1 [.hI 0] .box,gO 2 [.iC (.ay [] 0 .full)] (.nil 2),Gk 3 0] (Gx [gO 7 [.sl 1] (.pV (.str 2)),gO 8 [.iC (.func 37 [] []),.sl 7] (.call 3),Gm 6 8,GH 9 6 0,gO 10 [.hL 6] (.ext 1),Gm 4 9,Gm 5 10] (.seq (Gx [Gl 11 5,FY 12 11 0 .neq] (.cond (.sl 12) (Gx [Gm 13 5,gO 2 [.iC (.ay [] 0 .full)] (.nil 2),Gm 3 13] .ret) .skip)) (.seq (Gx [gO 14 [.hL 1] (.pV (.str 2)),Gl 15 4,gO 16 [.iC (.func 22 [] []),.sl 14,.sl 15] (.call 3),FY 17 16 0 .neq] (.cond (.sl 17) (Gx [gO 2 [.iC (.ay [] 0 .full)] (.nil 2),Gk 3 27] .ret) .skip)) (Gx [Gm 18 4,Gm 2 18,Gk 3 0] .ret))))
theorem afx:ze Tryz.prog U1 42=some (aaM,19,[.tmp 2,.tmp 3]):=by kernel_rfl
def NS (b:qb):Option (qc×Int) :=
 (Mr b).bind fun r1 =>
 if (decide (r1.2≠(0:Int)))=true then
  some ([],r1.2)
 else
  (Le b r1.1).bind fun r2 =>
  if (decide (r2≠(0:Int)))=true then
   some ([],(27:Int))
  else
   some (r1.1,(0:Int))
theorem ajY {b:qb} {v:(qc×Int)} (h:NS b=some v):qg 42 [(.agg [(hR b.1),(.ay (b.2.flatMap p0) b.2.length .shared)])] (.tuple [(.ay (v.1.flatMap p0) v.1.length .shared),(hR v.2)]):=by
 refine qB dJ afx rfl (H5 (pY (qG (fun _=>(pY rfl (pY rfl rfl))) _ _ _) (pY rfl rfl))) fun Q bl=>?_;have jy:qn [.tmp 2,.tmp 3] Q (fun v=>(.tuple [(p7 v.1 .shared),(hR v.2)])) v:=fun T H bI=>bl _ T H bI;unfold NS at h;unfold aaM;conv=>whnf
 obtain ⟨r1,eW,h⟩:=p' h;refine ⟨qf.pl,_,ZM eW,?_⟩;conv=>whnf
 refine bs h (fun fm h=>?_) fun fm h=>?_
 ·rw [fm];conv=>whnf
  exact p4 h jy rfl rfl
 ·rw [fm];conv=>whnf
  obtain ⟨r2,qd,h⟩:=p' h;refine ⟨qf.pl,_,ZF qd,?_⟩;conv=>whnf
  refine bs h (fun qq h=>?_) fun qq h=>?_
  ·rw [qq];(conv=>whnf);exact p4 h jy rfl rfl
  ·rw [qq];(conv=>whnf);exact p4 h jy rfl rfl

end Go.Proofs.YtfakoboiahbhaaaGreat.Ab


namespace Go.Proofs.YtfakoboiahbhaaaGreat.Ab
open Go
set_option maxRecDepth 20000
set_option maxHeartbeats 4000000

end Go.Proofs.YtfakoboiahbhaaaGreat.Ab


namespace Go.Proofs.YtfakoboiahbhaaaGreat.Ab
open Go
set_option maxRecDepth 20000
set_option maxHeartbeats 4000000
noncomputable def aaL:eA :=
 Gx [gO 1 [.hI 0] .box,gO 2 [.iC (.ay [] 0 .full)] (.nil 1),Gk 3 0] (Gx [gO 7 [.hL 1] (.pV (.str 2)),gO 8 [.iC (.func 64 [] []),.sl 7] (.call 3),Gm 6 8,GH 9 6 0,gO 10 [.hL 6] (.ext 1),Gm 4 9,Gm 5 10] (.seq (Gx [Gl 11 5,FY 12 11 0 .neq] (.cond (.sl 12) (Gx [Gm 13 5,gO 2 [.iC (.ay [] 0 .full)] (.nil 1),Gm 3 13] .ret) .skip)) (Gx [Gm 14 4,gO 15 [.iC (.func 83 [] []),.sl 14] (.call 3),Gm 2 15,Gk 3 0] .ret)))
theorem afw:ze Tryz.prog U0 41=some (aaL,16,[.tmp 2,.tmp 3]):=by kernel_rfl
def NR (b:qb):Option (qt×Int) :=
 (IA b).bind fun r1 =>
 match r1 with
 | (none,q1) =>
   if (decide (q1≠(0:Int)))=true then
    some ([],q1)
   else
    none
 | (some bR,q1) =>
   if (decide (q1≠(0:Int)))=true then
    some ([],q1)
   else
    (Jw bR).bind fun r2 =>
    some (r2,(0:Int))
theorem ajW {b:qb} {v:(qt×Int)} (h:NR b=some v):qg 41 [(.agg [(hR b.1),(.ay (b.2.flatMap p0) b.2.length .shared)])] (.tuple [(.ay (v.1.map (qy p0)) v.1.length .shared),(hR v.2)]):=by
 refine qB dJ afw rfl (H5 (pY (ra (fun _=>(qG (fun _=>(pY rfl (pY rfl rfl))) _ _ _)) _ _ _) (pY rfl rfl))) fun Q bl=>?_;have jy:qn [.tmp 2,.tmp 3] Q (fun v=>(.tuple [(.ay (v.1.map (qy p0)) v.1.length .shared),(hR v.2)])) v:=fun T H bI=>bl _ T H bI;unfold NR at h;unfold aaL;conv=>whnf
 obtain ⟨r1,eW,h⟩:=p' h;rcases r1 with ⟨_ | bR,q1⟩
 ·refine ⟨qf.pl,_,IQ eW,?_⟩;conv=>whnf
  refine bs h (fun fm h=>?_) fun fm h=>?_
  ·rw [fm];(conv=>whnf);exact p4 h jy rfl rfl
  ·rw [fm];(conv=>whnf);exact q9 h
 ·refine ⟨qf.pl,_,IQ eW,?_⟩;conv=>whnf
  refine bs h (fun qd h=>?_) fun qd h=>?_
  ·rw [qd];(conv=>whnf);exact p4 h jy rfl rfl
  ·rw [qd];(conv=>whnf);obtain ⟨r2,qq,h⟩:=p' h;refine ⟨qf.pl,_,Ue qq,?_⟩;(conv=>whnf);exact p4 h jy rfl rfl

end Go.Proofs.YtfakoboiahbhaaaGreat.Ab


namespace Go.Proofs.YtfakoboiahbhaaaGreat.Ab
open Go
section
variable {b:p3}
def Iw (b:p3):Int:=if GV b=0 then (if 0<(qN b).length then 27 else 0) else GV b
def I2 (b:p3):Row×Int:=if Iw b=0 then (G0 b,0) else ([],Iw b)
theorem XN (h:Iw b=0):GV b=0∧qN b=[]:=by
 unfold Iw at h;split at h
 ·rename_i ad;split at h
  ·omega
  ·exact ⟨ad,s_.1 (by omega)⟩
 ·rename_i ad;exact absurd h ad
theorem KY (h:GV b=0):(G0 b).length=b.2.length:=by
 obtain ⟨p2,aS,ad⟩:=R'.1 h;obtain ⟨f,c,bX⟩:=Xe p2 aS ad;have:=bX.all.length_eq
 rwa [sZ,rN] at this
theorem Xd (h:GV b=0):∃ f c,HB b (upto b.2.length) f c (G0 b)∧G0 b≠[]∧re b (G0 b)=(f,c,0)∧Jq b (G0 b)=if f=c then 0 else 27:=by
 obtain ⟨p2,aS,ad⟩:=R'.1 h;obtain ⟨f,c,bX⟩:=Xe p2 aS ad;have bM:G0 b≠[]:=fun e=>by
  have:=KY h;rw [e] at this;simp at this;omega
 have ao:=Vz p2 bM bX.ok (bX.all.nodup_iff.2 (Iy _)) bX.go;refine ⟨f,c,bX,bM,ao,?_⟩;unfold Jq;simp only [ao];rw [if_neg (by simp),if_neg (by rw [KY h];omega)];by_cases e:f=c
 ·rw [if_neg (by simp [e]),if_pos e]
 ·rw [if_pos e,if_neg e]
theorem Xc (h:GV b=0):(Jq b (G0 b)=0↔qN b=[])∧(Jq b (G0 b)=0∨Jq b (G0 b)=27):=by
 obtain ⟨p2,aS,ad⟩:=R'.1 h;obtain ⟨f,c,bX,bM,ao,aj⟩:=Xd h;have Hw:=bX.OT p2 bM;rw [aj];by_cases e:f=c
 ·rw [if_pos e];exact ⟨⟨fun _=>Hw.1 e,fun _=>rfl⟩,.inl rfl⟩
 ·rw [if_neg e];refine ⟨⟨fun h=>absurd h (by decide),fun h=>?_⟩,.inr rfl⟩;have:=(Hw.2 e).length_eq;have aX:qU b (upto b.2.length)=[]:=h;rw [aX] at this;simp at this
theorem ZL (ag:b.2.length≤1000):Mr b=some (Hy b):=by
 rw [Mr];unfold Hy GV;by_cases h:qL b=0
 ·have p2:=G_.1 h;obtain ⟨R,ad,af⟩:=PK p2;rw [NV p2,r_];dsimp only;rw [if_neg (show ¬ decide ((0:Int)≠0)=true by decide)];simp only [h,ne_eq,not_true_eq_false,if_false];by_cases aS:b.2.length=0
  ·rw [if_pos (show decide ((b.2.length:Int)=0)=true by simp [aS]),if_pos aS];rfl
  ·rw [if_neg (show ¬ decide ((b.2.length:Int)=0)=true by simp only [decide_eq_true_eq];omega),if_neg aS,ad,r_,af.len];by_cases aG:1<G3 b
   ·rw [if_pos (show decide ((1:Int)<(G3 b:Int))=true by simp only [decide_eq_true_eq];omega),if_pos aG];rfl
   ·rw [if_neg (show ¬ decide ((1:Int)<(G3 b:Int))=true by simp only [decide_eq_true_eq];omega),if_neg aG,PL,if_pos ⟨h,by omega⟩,r_];rfl
 ·rw [NU ag h,r_];dsimp only;simp only [h,ne_eq,not_false_eq_true,if_true,decide_true]
theorem W_ (h:GV b=0):Hy b=(G0 b,0):=by unfold Hy;rw [if_neg (by simp [h])]
theorem agc (h:GV b≠0):Hy b=([],GV b):=by unfold Hy;rw [if_pos h]
theorem ajX (ag:b.2.length≤1000):NS b=some (I2 b):=by
 rw [NS,ZL ag,r_];unfold I2 Iw;by_cases h:GV b=0
 ·rw [W_ h];dsimp only;rw [if_neg (show ¬ decide ((0:Int)≠0)=true by decide),ZE b _ ag (by rw [KY h];exact ag),r_];obtain ⟨ad,af⟩:=Xc h;simp only [h,if_true];by_cases aG:qN b=[]
  ·rw [ad.2 aG,aG];rfl
  ·have a6:0<(qN b).length:=ug.2 aG;have bL:Jq b (G0 b)=27:=af.resolve_left fun e=>aG (ad.1 e);rw [bL];simp [a6]
 ·rw [agc h];dsimp only;rw [if_pos (show decide (GV b≠0)=true by simpa using h)];simp only [h,if_false]
theorem XM:(I2 b).2=Iw b:=by
 unfold I2;split
 ·rename_i h;exact h.symm
 ·rfl
def JS (b:p3):List Row:=(Jw b).getD []
theorem L' (p2:qu b):Jw b=some (JS b)∧Lv b (JS b):=by
 obtain ⟨R,ad,af⟩:=PK p2
 have:JS b=R:=by unfold JS;rw [ad];rfl
 rw [this];exact ⟨ad,af⟩
theorem ajV (ag:b.2.length≤1000):NR b=some (if qL b=0 then (JS b,0) else ([],qL b)):=by
 rw [NR];by_cases h:qL b=0
 ·have p2:=G_.1 h;rw [NV p2,r_,if_pos h];dsimp only;rw [if_neg (show ¬ decide ((0:Int)≠0)=true by decide),(L' p2).1,r_]
 ·rw [NU ag h,r_,if_neg h];dsimp only;rw [if_pos (show decide (qL b≠0)=true by simpa using h)]
theorem RowsOf.each {S:List Int} {R:List Row} (h:RowsOf b S R) (aN:S.Nodup) {r:Row} (aj:r∈R):(r.map (·.1)).Nodup∧r.length≤S.length:=by
 have yW:(r.map (·.1)).Sublist ((R.flatten).map (·.1)):=by
  refine List.Sublist.map _ ?_;obtain ⟨s,t,rfl⟩:=uW aj;simp
 have ad:=yW.length_le;rw [sZ,h.all.length_eq] at ad;exact ⟨yW.nodup (h.all.nodup_iff.2 aN),ad⟩
theorem Lv.short (p2:qu b) {R:List Row} (h:Lv b R):R.length≤10∧∀ r∈R,r.length≤10:=by
 have dA:=p2.len;refine ⟨?_,fun r aj=>?_⟩
 ·have ad:R.length≤R.flatten.length:=by
   have bM:=h.ne
   have:∀ l:List Row,(∀ r∈l,r≠[])→l.length≤l.flatten.length:=fun l=>by
    induction l with
    | nil=>intro _;simp
    | cons r l a_ =>
      intro ak;have ad:=ug.2 (ak r (by simp));have af:=a_ fun q a3=>ak q (by simp [a3]);rw [tI,sm,sH];omega
   exact this R bM
  have af:=h.all.length_eq;rw [sZ,rN] at af;omega
 ·have:=(h.toRowsOf.each (Iy _) aj).2;rw [rN] at this;omega
end
end Go.Proofs.YtfakoboiahbhaaaGreat.Ab


namespace Go.Proofs.YtfakoboiahbhaaaGreat.Ab
open Go
set_option maxRecDepth 20000
set_option maxHeartbeats 4000000
noncomputable def aaN:eA :=
 Gx [gO 1 [.hI 0] .box,gO 2 [.iC (.bool false)] .iS] (Gx [gO 3 [.sl 1] (.pV (.str 2)),gO 4 [.iC (.func 16 [] []),.sl 3] (.call 3),gO 5 [.hL 4] (.un .not),Gm 6 5,cP 7 [.hL 1] 6 true (.pV (.str 2)),⟨some 8,[.iC (.func 21 [] []),.sl 7],some (6,true),none,.call 3⟩,cP 9 [.hL 8,.iC (.int .i64 0)] 6 true (.bin .eql),gO 10 [.hL 6,.hL 9,.iC (.bool false)] .pick,Gm 2 10] .ret)
theorem afy:ze Tryz.prog U2 47=some (aaN,11,[.tmp 2]):=by kernel_rfl
def Ms (b:qb):Option Bool :=
 (NL b).bind fun r1 =>
 if r1=true then
  some false
 else
  (Ju b).bind fun r2 =>
  some (decide (r2=(0:Int)))
theorem ZO {b:qb} {v:Bool} (h:Ms b=some v):qg 47 [(.agg [(hR b.1),(.ay (b.2.flatMap p0) b.2.length .shared)])] (B v):=by
 refine qB dJ afy rfl rfl fun Q bl=>?_;have jy:qn [.tmp 2] Q (fun v=>(B v)) v:=fun T H bI=>bl _ T H bI;unfold Ms at h;unfold aaN;conv=>whnf
 obtain ⟨r1,eW,h⟩:=p' h;refine ⟨qf.pl,_,ajz eW,?_⟩;conv=>whnf
 cases r1
 ·conv=>whnf
  replace h:=GK rfl h;obtain ⟨r2,fm,h⟩:=p' h;refine ⟨qf.pl,_,NN fm,?_⟩;conv=>whnf
  exact p4 h jy rfl rfl
 ·conv=>whnf
  replace h:=GL rfl h;exact p4 h jy rfl rfl

noncomputable def P_:eA :=
 .loop (some (Ex false [0,2,3,1,12])) (.seq (Gx [Gl 6 5,Gl 7 0,Gi 8 7,FZ 9 6 8 .lss] (.cond (.sl 9) .skip (.exit 0))) (.seq (.block 1 (Gx [Gl 12 0,Gl 13 5,Gf 14 12 13 1,Gj 15 14,Gl 16 1,FZ 17 15 16 .eql] (.cond (.sl 17) (Gx [gO 4 [.iC (.bool true)] .iS] .ret) .skip))) (Gq [Gm 10 5,FX 11 10 1,Gm 5 11])))
noncomputable def aaR:eA :=
 Gx [gO 4 [.iC (.bool false)] .iS] (.seq (Gx [Gk 5 0] (.block 0 P_)) (Gx [gO 4 [.iC (.bool false)] .iS] .ret))
theorem afC:ze Tryz.prog QG 53=some (aaR,18,[.tmp 4]):=by kernel_rfl
def Lj (l:qa) (n:Int) (p9:Unit→Option Bool):Nat→Int→Option Bool
 | 0,_=>none
 | m+1,s1 =>
   if (decide (s1<(l.length:Int)))=true then
    p6 (0≤s1∧s1<(l.length:Int)) <|
    if (decide ((ix l s1)=n))=true then
     some true
    else
     Lj l n p9 m (w (s1+(1:Int)))
   else
    p9 ()
def Mt (l:qa) (n:Int):Option Bool :=
 Lj l n (fun _ =>
   some false) p8 (0:Int)
theorem aj5 {l:qa} {n:Int} {p9:Unit→Option Bool} {s1:Int} {v:Bool} {Q:rp}   (jy:qn [.tmp 4] Q (fun v=>(B v)) v) (rm:∀ (p5:List I),p9 ()=some v→q7 18 [] p5→Q (.exit 0) p5 []) {T:List I} (bX:eT (Ex false [0,2,3,1,12]) T=GD 18 [(0,(qj l .shared)),(1,(hR n)),(5,(hR s1))]) (h:Lj l n p9 p8 s1=some v) :
  dD Tryz.prog QG 53 0 none P_ T [] Q:=by
 unfold P_;refine wp_loop bX ?_;refine .intro (fun m T H=>∃ (s1:Int),T=GD 18 [(0,(qj l .shared)),(1,(hR n)),(5,(hR s1))]∧H=[]∧Lj l n p9 m s1=some v) p8 ⟨s1,rfl,rfl,h⟩ ?_;clear h bX;rintro m T H ⟨s1,rfl,rfl,h⟩;cases m
 ·exact q9 h
 rename_i m;rw [Lj.eq_2] at h;conv=>whnf
 refine bs h (fun eW h=>?_) fun eW h=>?_
 ·rw [eW];conv=>whnf
  refine qm h id fun fm h=>?_;rw [rP hR l s1 fm];conv=>whnf
  refine bs h (fun qd h=>?_) fun qd h=>?_
  ·rw [qd];(conv=>whnf);exact p4 h jy rfl rfl
  ·rw [qd];(conv=>whnf);exact ⟨m,sv m,(w (s1+(1:Int))),rfl,rfl,h⟩
 ·rw [eW];conv=>whnf
  exact rm  _ h ⟨rfl,rfl⟩
theorem ZV {l:qa} {n:Int} {v:Bool} (h:Mt l n=some v):qg 53 [(.ay (l.map hR) l.length .shared),(hR n)] (B v):=by
 refine qB dJ afC rfl rfl fun Q bl=>?_;have jy:qn [.tmp 4] Q (fun v=>(B v)) v:=fun T H bI=>bl _ T H bI;unfold Mt at h;unfold aaR;obtain ⟨Hn,qC⟩:∃ c,P_=c:=⟨_,rfl⟩;rw [qC];conv=>whnf
 subst qC;refine aj5 ?_ ?_ (by exact rfl) h
 ·exact fun T H bI=>jy T H bI
 ·intro  p5 h qi;obtain ⟨qZ,rfl⟩:=qi.ex;conv=>whnf
  exact p4 h jy rfl rfl

end Go.Proofs.YtfakoboiahbhaaaGreat.Ab


namespace Go.Proofs.YtfakoboiahbhaaaGreat.Ab
open Go
structure akx (b:p3) (D:List Int) (n:Nat) (f t:Int) (r:Row):Prop where
 len:r.length=n
 run:qv b f r=some t
 ok:∀ p∈r,GX b p=false∧ix D (qp b p)≤(n:Int)∧1≤ix D (qp b p)∧ix D (fin b p)=ix D (qp b p)-1
 down:r.Pairwise fun p q=>ix D (qp b q)<ix D (qp b p)
 first:∀ p l,r=p::l→qp b p=f
theorem ZU {l:List Int} {n:Int} (ak:l.length≤1000):∀ (m i:Nat) (z:Int),z=i→i≤l.length→l.length-i<m→Lj l n (fun _=>some false) m z=some ((l.drop i).any fun x=>decide (x=n))
 | 0,i,_,_,_,h=>absurd h (by omega)
 | m+1,i,_,rfl,hi,hm=>by
   rw [Lj];by_cases h:i<l.length
   ·rw [IJ h,Hh h,qW h,sT h,List.any_cons];by_cases ad:l[i]=n
    ·rw [if_pos (decide_eq_true ad),decide_eq_true ad,Bool.true_or]
    ·rw [if_neg (by simpa using ad),decide_eq_false ad,Bool.false_or,rH i (by omega),ZU ak m (i+1) _ rfl (by omega) (by omega)]
   ·rw [II h,tb (by omega)];rfl
theorem ZT (l:List Int) (n:Int) (ak:l.length≤1000):Mt l n=some (l.any fun x=>decide (x=n)):=by
 rw [Mt,ZU ak p8 0 0 rfl (sr _) (rC (by omega)),sO]
theorem ZN (b:p3):Ms b=some (decide (b.2.length≤14) && decide (qL b=0)):=by
 rw [Ms,NL,r_];by_cases h:(14:Int)<(b.2.length:Int)
 ·rw [if_pos (decide_eq_true h),decide_eq_false (by omega)];rfl
 ·rw [if_neg (by simpa using h),T6 b (by omega),r_,decide_eq_true (show b.2.length≤14 by omega)];rfl
theorem Ko:Iz=some true:=rfl
theorem W4 {x n:Int} (al:0≤x) (aN:1≤n):0≤x.tmod n∧x.tmod n<n:=⟨Int.tmod_nonneg _ al,Int.tmod_lt_of_pos _ (by omega)⟩
end Go.Proofs.YtfakoboiahbhaaaGreat.Ab


namespace Go.Proofs.YtfakoboiahbhaaaGreat.Ab
open Go
set_option maxRecDepth 20000
set_option maxHeartbeats 4000000
noncomputable def aaH:eA :=
 Gx [gO 1 [.hI 0] .box, gO 2 [.iC (.ay [] 0 .full)] (.nil 1), Gk 3 0] (Gx [gO 9 [.hL 1] (.pV (.str 2)), gO 10 [.iC (.func 64 [] []), .sl 9] (.call 3), Gm 8 10, GH 11 8 0, gO 12 [.hL 8] (.ext 1), Gm 4 11, Gm 5 12] (.seq (Gx [Gl 13 5, FY 14 13 0 .neq] (.cond (.sl 14) (Gx [Gm 15 5, gO 2 [.iC (.ay [] 0 .full)] (.nil 1), Gm 3 15] .ret) .skip)) (Gx [Gl 16 4, Gm 17 4, gO 18 [.iC (.func 77 [] []), .sl 17] (.call 3), gO 19 [.iC (.func 76 [] []), .sl 16, .sl 18] (.call 3), Gm 6 19] (Gx [Gl 20 6, Gi 21 20, gO 22 [.sl 21, .hL 21] (.zx [.int .i64 0] 1 8), Gm 7 22] (Gx [Gl 23 7, Gm 24 6, gO 25 [.hI 23, .hI 24] (.other (Oper.mk (some 25) (Op.call (Call.mk (Callee.builtin Builtin.copy) (Array.mk [Operand.tmp 23, Operand.tmp 24]) (Array.mk [38, 38]))) 3 "match.go:115" (Array.mk [Edge.mk 0 Ground.data, Edge.mk 1 Ground.data]) none) 0)] (Gx [Gm 26 7, Gm 2 26, Gk 3 0] .ret))))))
theorem afs:ze Tryz.prog UW 27=some (aaH,27,[.tmp 2,.tmp 3]):=by kernel_rfl
def JT (b:qb):Option (qa×Int) :=
 (IA b).bind fun r1 =>
 match r1 with
 | (none,q1) =>
   if (decide (q1≠(0:Int)))=true then
    some ([],q1)
   else
    none
 | (some bR,q1) =>
   if (decide (q1≠(0:Int)))=true then
    some ([],q1)
   else
    (Mz bR).bind fun r2 =>
    (Kt bR r2).bind fun eF =>
    p6 (0≤(eF.length:Int)∧(eF.length:Int)≤(eF.length:Int)∧(eF.length:Int).toNat*8≤140737488355328) <|
    p6 ((eF.length:Int).toNat=(List.replicate (eF.length:Int).toNat (0:Int)).length∧eF.length=(eF.length:Int).toNat) <|
    p6 ((eF.length:Int).toNat=eF.length) <|
    some (eF,(0:Int))
theorem T9 {b:qb} {v:(qa×Int)} (h:JT b=some v):qg 27 [(.agg [(hR b.1),(.ay (b.2.flatMap p0) b.2.length .shared)])] (.tuple [(.ay (v.1.map hR) v.1.length .shared),(hR v.2)]):=by
 refine qB dJ afs rfl (H5 (pY (ra (fun _=>rfl) _ _ _) (pY rfl rfl))) fun Q bl=>?_;have jy:qn [.tmp 2,.tmp 3] Q (fun v=>(.tuple [(qj v.1 .shared),(hR v.2)])) v:=fun T H bI=>bl _ T H bI;unfold JT at h;unfold aaH;conv=>whnf
 obtain ⟨r1,eW,h⟩:=p' h;rcases r1 with ⟨_ | bR,q1⟩
 ·refine ⟨qf.pl,_,IQ eW,?_⟩;conv=>whnf
  refine bs h (fun fm h=>?_) fun fm h=>?_
  ·rw [fm];(conv=>whnf);exact p4 h jy rfl rfl
  ·rw [fm];(conv=>whnf);exact q9 h
 ·refine ⟨qf.pl,_,IQ eW,?_⟩;conv=>whnf
  refine bs h (fun qd h=>?_) fun qd h=>?_
  ·rw [qd];(conv=>whnf);exact p4 h jy rfl rfl
  ·rw [qd];(conv=>whnf);obtain ⟨r2,qq,h⟩:=p' h;refine ⟨qf.pl,_,Uc qq,?_⟩;(conv=>whnf);obtain ⟨eF,qP,h⟩:=p' h;refine ⟨qf.pl,_,PF qP,?_⟩;(conv=>whnf);obtain ⟨q_,h⟩:=qJ h;refine ⟨q_.1,q_.2.1,q_.2.2,?_⟩;rw [TA hR (0:Int)];(conv=>whnf);obtain ⟨qO,h⟩:=qJ h;refine ⟨_,_,fun C=>(agj rfl).trans (acT (e:=3) (f:=hR) (l:=(List.replicate (eF.length:Int).toNat (0:Int))) (m:=eF) (by kernel_rfl) (by kernel_rfl) (sr _) (by first | exact ql.h | rfl | (simp [sc,I.settle];done)) qO.1 qO.2),?_⟩
   (conv=>whnf);obtain ⟨qR,h⟩:=qJ h;obtain rfl:=Option.some.inj h;exact jy _ _ ⟨.inr rfl,_,rfl,_,(adu (OO (adt (f:=hR) (l:=eF) (by first | exact ql.h | rfl | (simp [sc,I.settle];done)) qR (fun _=>rfl) (fun _=>rfl)) (OO (oT rfl) R7))),by simp only [I.settle,I.view,I.cr,se,tt,ac6];exact congrArg (fun n=>I.tuple [I.ay _ n .shared,_]) qR⟩

end Go.Proofs.YtfakoboiahbhaaaGreat.Ab


namespace Go.Proofs.YtfakoboiahbhaaaGreat.Ab
open Go
set_option maxRecDepth 20000
set_option maxHeartbeats 4000000

end Go.Proofs.YtfakoboiahbhaaaGreat.Ab


namespace Go.Proofs.YtfakoboiahbhaaaGreat.Ab
open Go
set_option maxRecDepth 20000
set_option maxHeartbeats 4000000
end Go.Proofs.YtfakoboiahbhaaaGreat.Ab


namespace Go.Proofs.YtfakoboiahbhaaaGreat.Ab
open Go
section
variable {b:p3}
theorem af8 (S:List Int):(qU b S).length≤6:=by
 have:=tJ (fun f=>decide (qz b S f % 2=1)) (upto 6);rw [rN] at this;exact this
theorem OW:(qN b).length≤6:=af8 _
def Nc (b:p3):List Int×Int:=if qL b=0 then (qN b,0) else ([],qL b)
theorem OU (p2:qu b):Nc b=(qN b,0):=by unfold Nc;rw [if_pos (G_.2 p2)]
theorem af7 (h:qL b≠0):Nc b=([],qL b):=by unfold Nc;rw [if_neg h]
theorem T8 (ag:b.2.length≤1000):JT b=some (Nc b):=by
 rw [JT];by_cases h:qL b=0
 ·have p2:=G_.1 h;have ak:=OW (b:=b);rw [NV p2,r_,OU p2];dsimp only;rw [if_neg (by simp),Ub ag,r_,T' p2 IP (by rw [rN];exact ag),r_];show p6 _ (p6 _ (p6 _ (some (qN b,(0:Int)))))=_;rw [qe ⟨by omega,by show ((qN b).length:Int)≤_;exact Int.le_refl _,by show ((qN b).length:Int).toNat*8≤_;omega⟩,qe ⟨by simp,by show (qN b).length=((qN b).length:Int).toNat;omega⟩,qe (by show ((qN b).length:Int).toNat=(qN b).length;omega)]
 ·rw [NU ag h,r_,af7 h];dsimp only;rw [if_pos (by simpa using h)]
def Nh (b:p3):List (List Int)×Int:=if qL b=0 then (parts b,0) else ([],qL b)
theorem Xk (p2:qu b):Nh b=(parts b,0):=by unfold Nh;rw [if_pos (G_.2 p2)]
theorem ago (h:qL b≠0):Nh b=([],qL b):=by unfold Nh;rw [if_neg h]
theorem ajR (ag:b.2.length≤1000):NP b=some (Nh b):=by
 rw [NP];by_cases h:qL b=0
 ·have p2:=G_.1 h;rw [NV p2,r_,Xk p2];dsimp only;rw [if_neg (by simp),Ub ag,r_,(Ln p2).1,r_]
 ·rw [NU ag h,r_,ago h];dsimp only;rw [if_pos (by simpa using h)]
end
end Go.Proofs.YtfakoboiahbhaaaGreat.Ab


namespace Go.Proofs.YtfakoboiahbhaaaGreat.Ab
open Go
set_option maxRecDepth 20000
set_option maxHeartbeats 4000000
noncomputable def P8:eA :=
 .loop (some (Ex false [4,1,1,4,73])) (.seq (Gx [Gl 36 9,Gl 37 4,Gl 38 8,Gf 39 37 38 1,Gj 40 39,Gi 41 40,FZ 42 36 41 .lss] (.cond (.sl 42) .skip (.exit 2))) (.seq (.block 3 (Gx [Gl 45 4,Gl 46 8,Gf 47 45 46 1,Gj 48 47,Gl 49 9,Gf 50 48 49 1,Gj 51 50,Gm 10 51] (.seq (Gx [Gl 52 10,FY 53 52 0 .lss,Gm 54 53,cP 55 [.sl 10] 54 false .iS,cP 56 [.sl 6] 54 false .iS,cP 57 [.hI 56] 54 false .w8,cP 58 [.hL 55,.hL 57] 54 false (.bin .geq),gO 59 [.hL 54,.iC (.bool true),.hL 58] .pick,Gm 60 59,cP 61 [.sl 6] 60 false .iS,cP 62 [.sl 10] 60 false .iS,cP 63 [.hL 61,.hL 62] 60 false (.pO 1),cP 64 [.hL 63] 60 false (.pV .one),cP 65 [.hL 64,.iC (.int .i64 0)] 60 false (.bin .gtr),gO 66 [.hL 60,.iC (.bool true),.hL 65] .pick] (.cond (.sl 66) (Gx [gO 2 [.iC (.ay [] 0 .full)] (.nil 1),gO 3 [.iC (.bool false)] .iS] .ret) .skip)) (Gx [Gl 67 6,Gm 68 10,Gf 69 67 68 1,⟨none,[.hI 69,.iC (.int .i64 1)],none,none,.st 1⟩] (Gq [Gm 70 7,FX 71 70 1,Gm 7 71]))))) (Gq [Gm 43 9,FX 44 43 1,Gm 9 44])))
noncomputable def P9:eA :=
 .loop (some (Ex false [4,1,1,3,74])) (.seq (Gx [Gl 30 8,Gl 31 4,Gi 32 31,FZ 33 30 32 .lss] (.cond (.sl 33) .skip (.exit 0))) (.seq (.block 1 (.seq (Gx [Gk 9 0] (.block 2 P8)) (Gx [Gl 72 4,Gl 73 8,Gf 74 72 73 1,Gj 75 74,Gi 76 75,FY 77 76 0 .eql] (.cond (.sl 77) (Gx [gO 2 [.iC (.ay [] 0 .full)] (.nil 1),gO 3 [.iC (.bool false)] .iS] .ret) .skip)))) (Gq [Gm 34 8,FX 35 34 1,Gm 8 35])))
noncomputable def aaP:eA :=
 Gx [gO 1 [.hI 0] .box,gO 2 [.iC (.ay [] 0 .full)] (.nil 1),gO 3 [.iC (.bool false)] .iS] (Gx [gO 12 [.sl 1] (.pV (.str 2)),gO 13 [.iC (.func 29 [] []),.sl 12] (.call 3),Gm 11 13,GH 14 11 0,gO 15 [.hL 11] (.ext 1),Gm 4 14,Gm 5 15] (.seq (Gx [Gm 16 5,FY 17 16 0 .neq,Gm 18 17,cP 19 [.sl 4] 18 false .iS,cP 20 [.hI 19] 18 false .w8,cP 21 [.sl 1] 18 false (.oR 1),cP 22 [.hL 21] 18 false (.pV .one),cP 23 [.hI 22] 18 false .w8,cP 24 [.hL 20,.hL 23] 18 false (.bin .gtr),gO 25 [.hL 18,.iC (.bool true),.hL 24] .pick] (.cond (.sl 25) (Gx [gO 2 [.iC (.ay [] 0 .full)] (.nil 1),gO 3 [.iC (.bool false)] .iS] .ret) .skip)) (Gx [F4 26 1 1,Gj 27 26,Gi 28 27,gO 29 [.sl 28,.hL 28] (.zx [.int .i64 0] 1 8),Gm 6 29] (Gx [Gk 7 0] (.seq (Gx [Gk 8 0] (.block 0 P9)) (Gx [Gm 78 4,Gm 79 7,Gm 80 6,Gi 81 80,FZ 82 79 81 .eql,Gm 2 78,Gm 3 82] .ret))))))
theorem afA:ze Tryz.prog N7 49=some (aaP,83,[.tmp 2,.tmp 3]):=by kernel_rfl
def Li (b:qb) (r1:(GJ×Int)) (s2:Int) (qH:Int→qa→Option (GJ×Bool)):Nat→Int→Int→qa→Option (GJ×Bool)
 | 0,_,_,_=>none
 | m+1,Gw,qo,qD =>
   p6 (0≤s2∧s2<(r1.1.length:Int)) <|
   if (decide (qo<((ix r1.1 s2).length:Int)))=true then
    p6 (0≤s2∧s2<(r1.1.length:Int)) <|
    p6 (0≤qo∧qo<((ix r1.1 s2).length:Int)) <|
    if (decide ((ix (ix r1.1 s2) qo)<(0:Int)))=true then
     some ([],false)
    else
     if (decide ((((b.2.length:Int).toNat:Nat):Int)≤(ix (ix r1.1 s2) qo)))=true then
      some ([],false)
     else
      p6 (0≤(ix (ix r1.1 s2) qo)∧(ix (ix r1.1 s2) qo)<(((b.2.length:Int).toNat:Nat):Int)∧(b.2.length:Int).toNat=qD.length) <|
      if (decide ((0:Int)<(ix qD (ix (ix r1.1 s2) qo))))=true then
       some ([],false)
      else
       p6 (0≤(ix (ix r1.1 s2) qo)∧(ix (ix r1.1 s2) qo)<(((b.2.length:Int).toNat:Nat):Int)∧(b.2.length:Int).toNat=qD.length) <|
       Li b r1 s2 qH m (w (Gw+(1:Int))) (w (qo+(1:Int))) (qD.set (ix (ix r1.1 s2) qo).toNat (1:Int))
   else
    qH Gw qD
def Kq (b:qb) (r1:(GJ×Int)) (p9:Int→qa→Option (GJ×Bool)):Nat→Int→Int→qa→Option (GJ×Bool)
 | 0,_,_,_=>none
 | m+1,s1,s2,dg =>
   if (decide (s2<(r1.1.length:Int)))=true then
    Li b r1 s2 (fun xY om =>
      p6 (0≤s2∧s2<(r1.1.length:Int)) <|
      if (decide (((ix r1.1 s2).length:Int)=(0:Int)))=true then
       some ([],false)
      else
       Kq b r1 p9 m xY (w (s2+(1:Int))) om) p8 s1 (0:Int) dg
   else
    p9 s1 dg
def NT (b:qb):Option (GJ×Bool) :=
 (NP b).bind fun r1 =>
 if (decide (r1.2≠(0:Int)))=true then
  some ([],false)
 else
  if (decide ((b.2.length:Int)<(r1.1.length:Int)))=true then
   some ([],false)
  else
   p6 (0≤(b.2.length:Int)∧(b.2.length:Int)≤(b.2.length:Int)∧(b.2.length:Int).toNat*8≤140737488355328) <|
   Kq b r1 (fun FU N1 =>
     some (r1.1,(decide (FU=(((b.2.length:Int).toNat:Nat):Int))))) p8 (0:Int) (0:Int) (List.replicate (b.2.length:Int).toNat (0:Int))
theorem aj1 {b:qb} {r1:(GJ×Int)} {s2:Int} {qH:Int→qa→Option (GJ×Bool)} {Gw:Int} {qo:Int} {qD:qa} {v:(GJ×Bool)} {Q:rp} {bA:au}  (jy:qn [.tmp 2,.tmp 3] Q (fun v=>(.tuple [(.ay (v.1.map jj) v.1.length .shared),(B v.2)])) v) (H4:∀ (xY:Int) (om:qa) (p5:List I),qH xY om=some v→q7 83 [(4,(.ay (r1.1.map jj) r1.1.length .shared)),(6,(.ref 1 0 (b.2.length:Int).toNat (some (b.2.length:Int).toNat) 1)),(7,(hR xY)),(8,(hR s2))] p5→Q (.exit 2) p5 [bA,au.cells (om.map hR)]) {T:List I} (bX:eT (Ex false [4,1,1,4,73]) T=GD 83 [(4,(.ay (r1.1.map jj) r1.1.length .shared)),(6,(.ref 1 0 (b.2.length:Int).toNat (some (b.2.length:Int).toNat) 1)),(7,(hR Gw)),(8,(hR s2)),(9,(hR qo))]) (h:Li b r1 s2 qH p8 Gw qo qD=some v) :
  dD Tryz.prog N7 49 0 none P8 T [bA,au.cells (qD.map hR)] Q:=by
 unfold P8;refine wp_loop bX ?_;refine .intro (fun m T H=>∃ (Gw qo:Int) (qD:qa),T=GD 83 [(4,(.ay (r1.1.map jj) r1.1.length .shared)),(6,(.ref 1 0 (b.2.length:Int).toNat (some (b.2.length:Int).toNat) 1)),(7,(hR Gw)),(8,(hR s2)),(9,(hR qo))]∧H=[bA,au.cells (qD.map hR)]∧Li b r1 s2 qH m Gw qo qD=some v) p8 ⟨Gw,qo,qD,rfl,rfl,h⟩ ?_;clear h bX;rintro m T H ⟨Gw,qo,qD,rfl,rfl,h⟩;cases m
 ·exact q9 h
 rename_i m;rw [Li.eq_2] at h;conv=>whnf
 refine qm h id fun q_ h=>?_;rw [rP jj r1.1 s2 q_];conv=>whnf
 refine bs h (fun qO h=>?_) fun qO h=>?_
 ·rw [qO];conv=>whnf
  refine qm h id fun qR h=>?_;rw [rP jj r1.1 s2 qR];conv=>whnf
  refine qm h id fun ry h=>?_;rw [rP hR (ix r1.1 s2) qo ry];conv=>whnf
  refine bs h (fun q4 h=>?_) fun q4 h=>?_
  ·rw [q4];(conv=>whnf);exact p4 h jy rfl rfl
  ·rw [q4];(conv=>whnf);refine bs h (fun rV h=>?_) fun rV h=>?_
   ·rw [rV];(conv=>whnf);exact p4 h jy rfl rfl
   ·rw [rV];(conv=>whnf);obtain ⟨rE,h⟩:=qJ h;refine ⟨⟨rE.1,rE.2.1⟩,?_⟩;replace rE:0≤(ix (ix r1.1 s2) qo)∧(ix (ix r1.1 s2) qo)<(qD.length:Int):=⟨rE.1,by have:=rE.2;omega⟩;(conv=>whnf);refine NB hR qD (ix (ix r1.1 s2) qo) rE ?_;(conv=>whnf);refine bs h (fun rz h=>?_) fun rz h=>?_
    ·rw [rz];(conv=>whnf);exact p4 h jy rfl rfl
    ·rw [rz];(conv=>whnf);obtain ⟨rS,h⟩:=qJ h;refine ⟨⟨rS.1,rS.2.1⟩,?_⟩;replace rS:0≤(ix (ix r1.1 s2) qo)∧(ix (ix r1.1 s2) qo)<(qD.length:Int):=⟨rS.1,by have:=rS.2;omega⟩;(conv=>whnf);refine NG hR qD (ix (ix r1.1 s2) qo) (1:Int) rS ?_;(conv=>whnf);exact ⟨m,sv m,(w (Gw+(1:Int))),(w (qo+(1:Int))),(qD.set (ix (ix r1.1 s2) qo).toNat (1:Int)),rfl,rfl,h⟩
 ·rw [qO];conv=>whnf
  exact H4 _ _ _ h ⟨rfl,rfl⟩
theorem aj0 {b:qb} {r1:(GJ×Int)} {p9:Int→qa→Option (GJ×Bool)} {s1:Int} {s2:Int} {dg:qa} {v:(GJ×Bool)} {Q:rp} {bA:au}  (jy:qn [.tmp 2,.tmp 3] Q (fun v=>(.tuple [(.ay (v.1.map jj) v.1.length .shared),(B v.2)])) v) (rm:∀ (FU:Int) (N1:qa) (p5:List I),p9 FU N1=some v→q7 83 [(4,(.ay (r1.1.map jj) r1.1.length .shared)),(6,(.ref 1 0 (b.2.length:Int).toNat (some (b.2.length:Int).toNat) 1)),(7,(hR FU))] p5→Q (.exit 0) p5 [bA,au.cells (N1.map hR)]) {T:List I} (bX:eT (Ex false [4,1,1,3,74]) T=GD 83 [(4,(.ay (r1.1.map jj) r1.1.length .shared)),(6,(.ref 1 0 (b.2.length:Int).toNat (some (b.2.length:Int).toNat) 1)),(7,(hR s1)),(8,(hR s2))]) (h:Kq b r1 p9 p8 s1 s2 dg=some v) :
  dD Tryz.prog N7 49 0 none P9 T [bA,au.cells (dg.map hR)] Q:=by
 unfold P9;obtain ⟨Hn,qC⟩:∃ c,P8=c:=⟨_,rfl⟩;rw [qC];refine wp_loop bX ?_;refine .intro (fun m T H=>∃ (s1 s2:Int) (dg:qa),T=GD 83 [(4,(.ay (r1.1.map jj) r1.1.length .shared)),(6,(.ref 1 0 (b.2.length:Int).toNat (some (b.2.length:Int).toNat) 1)),(7,(hR s1)),(8,(hR s2))]∧H=[bA,au.cells (dg.map hR)]∧Kq b r1 p9 m s1 s2 dg=some v) p8 ⟨s1,s2,dg,rfl,rfl,h⟩ ?_;clear h bX;rintro m T H ⟨s1,s2,dg,rfl,rfl,h⟩;cases m
 ·exact q9 h
 rename_i m;rw [Kq.eq_2] at h;conv=>whnf
 refine bs h (fun qP h=>?_) fun qP h=>?_
 ·rw [qP];conv=>whnf
  subst qC;refine aj1 ?_ ?_ (by exact rfl) h
  ·exact fun T H bI=>jy T H bI
  ·intro xY om p5 h qi;obtain ⟨qZ,rfl⟩:=qi.ex;(conv=>whnf);refine qm h id fun HD h=>?_;rw [rP jj r1.1 s2 HD];(conv=>whnf);refine bs h (fun GR h=>?_) fun GR h=>?_
   ·rw [GR];(conv=>whnf);exact p4 h jy rfl rfl
   ·rw [GR];(conv=>whnf);exact ⟨m,sv m,xY,(w (s2+(1:Int))),om,rfl,rfl,h⟩
 ·rw [qP];conv=>whnf
  exact rm _ _ _ h ⟨rfl,rfl⟩
theorem aj2 {b:qb} {v:(GJ×Bool)} (h:NT b=some v):qg 49 [(.agg [(hR b.1),(.ay (b.2.flatMap p0) b.2.length .shared)])] (.tuple [(.ay (v.1.map jj) v.1.length .shared),(B v.2)]):=by
 refine qB dJ afA rfl (H5 (pY (ra (fun _=>(ra (fun _=>rfl) _ _ _)) _ _ _) (pY rfl rfl))) fun Q bl=>?_;have jy:qn [.tmp 2,.tmp 3] Q (fun v=>(.tuple [(.ay (v.1.map jj) v.1.length .shared),(B v.2)])) v:=fun T H bI=>bl _ T H bI;unfold NT at h;unfold aaP;obtain ⟨KD,rU⟩:∃ c,P9=c:=⟨_,rfl⟩;rw [rU];conv=>whnf
 obtain ⟨r1,eW,h⟩:=p' h;refine ⟨qf.pl,_,ajS eW,?_⟩;conv=>whnf
 refine bs h (fun fm h=>?_) fun fm h=>?_
 ·rw [fm];conv=>whnf
  exact p4 h jy rfl rfl
 ·rw [fm];conv=>whnf
  refine bs h (fun qd h=>?_) fun qd h=>?_
  ·rw [qd];(conv=>whnf);exact p4 h jy rfl rfl
  ·rw [qd];(conv=>whnf);obtain ⟨qq,h⟩:=qJ h;refine ⟨qq.1,qq.2.1,qq.2.2,?_⟩;rw [TA hR (0:Int)];(conv=>whnf);subst rU;refine aj0 ?_ ?_ (by exact rfl) h
   ·exact fun T H bI=>jy T H bI
   ·intro FU N1 p5 h qi;obtain ⟨qZ,rfl⟩:=qi.ex;(conv=>whnf);exact p4 h jy rfl rfl

end Go.Proofs.YtfakoboiahbhaaaGreat.Ab


namespace Go.Proofs.YtfakoboiahbhaaaGreat.Ab
open Go
section
variable {b:p3}
def Ix (n:Nat) (S:List Int):List Int:=(upto n).map fun x=>if x∈S then 1 else 0
theorem Ma (n:Nat) (S:List Int):(Ix n S).length=n:=by rw [Ix,sZ,rN]
theorem ahO {n:Nat} {S:List Int} {x:Int} (h:0≤x∧x<(n:Int)):ix (Ix n S) x=if x∈S then 1 else 0:=by
 obtain ⟨i,rfl⟩:∃ i:Nat,x=i:=⟨x.toNat,by omega⟩;have hi:i<n:=by omega
 rw [qW (by rw [Ma];exact hi)];simp [Ix,upto]
theorem ahP (n:Nat):List.replicate n (0:Int)=Ix n []:=by
 refine vE (by rw [Ma];simp) fun i ad af=>?_;simp [Ix]
theorem ahQ {n:Nat} {S:List Int} {x:Int} (h:0≤x∧x<(n:Int)):(Ix n S).set x.toNat 1=Ix n (S++[x]):=by
 refine vE (by simp [Ma]) fun i ad af=>?_;rw [List.getElem_set];have hi:i<n:=by rw [Ma] at af;exact af
 simp only [Ix,upto,List.getElem_map,List.getElem_range,sS,sB];by_cases e:x.toNat=i
 ·rw [if_pos e,if_pos (.inr (by omega))]
 ·rw [if_neg e];by_cases aG:(i:Int)∈S
  ·rw [if_pos aG,if_pos (.inl aG)]
  ·rw [if_neg aG,if_neg (by rintro (a6 | a6);exact aG a6;omega)]
theorem ZS {r1:List (List Int)×Int} {s2:Int} (ai:0≤s2∧s2<(r1.1.length:Int)) {r D:List Int} (aj:ix r1.1 s2=r) (aN:(D++r).Nodup) (gZ:ri b r) (ag:b.2.length≤1000) (qM:D.length≤1000) (C1:r.length≤1000) {k:Int→List Int→Option (List (List Int)×Bool)} :
  ∀ (m i:Nat) (z y:Int),z=((D.length+i:Nat):Int)→y=(i:Int)→i≤r.length→r.length-i<m→Li b r1 s2 k m z y (Ix b.2.length (D++r.take i))=k ((D.length+r.length:Nat):Int) (Ix b.2.length (D++r))
 | 0,_,_,_,_,_,_,h=>absurd h (by omega)
 | m+1,i,_,_,rfl,rfl,hi,hm=>by
   rw [Li,qe ai,aj];by_cases h:(i:Int)<(r.length:Int)
   ·(have qT:i<r.length:=by omega);have al:=gZ _ (sE qT);have aep:r[i] ∉ D++r.take i:=fun hm=>by
     rw [←uX i r,sT qT,←sj] at aN;exact (ua.1 aN).2.2 _ hm _ (ur ..) rfl
    rw [if_pos (decide_eq_true h),qe ai,qe ⟨by omega,h⟩,qW qT,if_neg (by simpa using al.1),if_neg (by simpa using al.2),qe ⟨al.1,by simpa using al.2,by rw [Ma];simp⟩,ahO al,if_neg aep,if_neg (by simp),qe ⟨al.1,by simpa using al.2,by rw [Ma];simp⟩,ahQ al,sj,←tx qT,rH i (by omega),rH (D.length+i) (by omega)];exact ZS ai aj aN gZ ag qM C1 m (i+1) _ _ rfl rfl (by omega) (by omega)
   ·rw [if_neg (by simpa using h),show i=r.length by omega,tz]
theorem ZR {r1:List (List Int)×Int} {P:List (List Int)} (B8:r1.1=P) (aN:P.flatten.Nodup) (gZ:∀ r∈P,ri b r) (bM:∀ r∈P,r≠[]) (ag:b.2.length≤1000) (ak:P.length≤1000) {k:Int→List Int→Option (List (List Int)×Bool)} :
  ∀ (m i:Nat) (z y:Int),z=(((P.take i).flatten.length:Nat):Int)→y=(i:Int)→i≤P.length→P.length-i<m→Kq b r1 k m z y (Ix b.2.length (P.take i).flatten)=k ((P.flatten.length:Nat):Int) (Ix b.2.length P.flatten)
 | 0,_,_,_,_,_,_,h=>absurd h (by omega)
 | m+1,i,_,_,rfl,rfl,hi,hm=>by
   rw [Kq,B8];have KS:∀ l:List (List Int),(∀ r∈l,ri b r)→ri b l.flatten:=fun l ak x al=>by
    obtain ⟨r,aj,al⟩:=tT.1 al;exact ak r aj x al
   by_cases h:(i:Int)<(P.length:Int)
   ·(have qT:i<P.length:=by omega);have kx:=sE qT;(have e:(P.take (i+1)).flatten=(P.take i).flatten++P[i]:=by rw [tx qT,uV];simp);have jI:((P.take i).flatten++P[i]).Nodup:=by
     rw [←e];refine List.Nodup.sublist ?_ aN;(conv=>rhs;rw [←uX (i+1) P,uV]);exact List.sublist_append_left _ _
    have qM:(P.take i).flatten.length≤1000:=sI (Kc (ua.1 jI).1 (KS _ fun r aj=>gZ r (List.mem_of_mem_take aj))) ag;have aj:(P[i]).length≤1000:=sI (Kc (ua.1 jI).2.1 (gZ _ kx)) ag;rw [if_pos (decide_eq_true h)];have key:=ZS (b:=b) (r1:=r1) (s2:=(i:Int)) (D:=(P.take i).flatten) (r:=P[i]) (by rw [B8];exact ⟨by omega,h⟩) (by rw [B8,qW qT]) jI (gZ _ kx) ag qM aj
     (k:=fun xY om=>p6 (0≤(i:Int)∧(i:Int)<(r1.1.length:Int)) <| if (decide (((ix r1.1 (i:Int)).length:Int)=(0:Int)))=true then some ([],false) else Kq b r1 k m xY (w ((i:Int)+(1:Int))) om) p8 0 ((P.take i).flatten.length:Int) 0 (by simp) rfl (by omega) (rC (by omega))
    rw [tf,sN,B8] at key;rw [key,qe ⟨by omega,h⟩,qW qT,if_neg (by simpa using bM _ kx),rH i (by omega),←e];exact ZR B8 aN gZ bM ag ak m (i+1) _ _ (by rw [e,sm]) rfl (by omega) (by omega)
   ·rw [if_neg (by simpa using h),show i=P.length by omega,tz]
theorem Sb (p2:qu b):(parts b).flatten.Perm (upto b.2.length):=(Ln p2).2.1.flat (Iy _)
theorem ajZ (p2:qu b):NT b=some (parts b,true):=by
 have hlen:=p2.len;have RM:=(Ln p2).2.1.few IP;have aC:=Sb p2;have ak:=aC.length_eq;rw [rN] at ak;rw [NT,ajR (by omega),r_,Xk p2,if_neg (by simp),if_neg (by simp;exact RM),qe ⟨by omega,by omega,by omega⟩];have key:=ZR (b:=b) (r1:=(parts b,0)) (P:=parts b) rfl (aC.nodup_iff.2 (Iy _)) (fun r aj=>(agp p2 r aj).1) (Ln p2).2.1.ne (by omega) (by omega)
  (k:=fun FU N1=>some (parts b,(decide (FU=(((b.2.length:Int).toNat:Nat):Int))))) p8 0 0 0 (by simp) rfl (by omega) (rC (by omega))
 rw [tf,List.flatten_nil,←ahP] at key;rw [th];refine key.trans ?_;rw [ak,th,decide_eq_true rfl]
def R_ (b:p3) (done own:Row) (p:Int×Int):Bool:=!(done.any fun q=>decide (q.1=p.1)) && (decide (own=[]) || decide (fin b (own.getD (own.length-1) default)=qp b p))
def W5 (b:p3) (done own:Row) (i:Int):Row:=[(i,0),(i,1)].filter (R_ b done own)
def R9 (b:p3) (done own:Row):Row:=(upto b.2.length).flatMap (W5 b done own)
theorem af2 {done own:Row} {p:Int×Int}:p∈R9 b done own↔Hp b p∧R_ b done own p=true:=by
 unfold R9 W5;rw [vb];constructor
 ·rintro ⟨i,hi,aC⟩;rw [sM] at aC;have:=Hf.1 hi;simp only [sk,tN,or_false] at aC;rcases aC with ⟨rfl | rfl,h⟩
  ·exact ⟨⟨this.1,this.2,by simp,by simp⟩,h⟩
  ·exact ⟨⟨this.1,this.2,by simp,by simp⟩,h⟩
 ·rintro ⟨⟨ad,af,aG,a6⟩,h⟩;refine ⟨p.1,Hf.2 ⟨ad,af⟩,sM.2 ⟨?_,h⟩⟩;obtain ⟨x,y⟩:=p;have akU:0≤y:=aG;have akV:y≤1:=a6;rcases (show y=0∨y=1 by omega) with rfl | rfl <;> simp
structure MI (b:p3) (D own:Row):Prop where
 ok:∀ p∈D++own,Hp b p
 rW:((D++own).map (·.1)).Nodup
 go:own=[]∨∃ a,qv b a own=some (fin b (own.getD (own.length-1) default))
theorem MI.len {D own:Row} (h:MI b D own):D.length+own.length≤b.2.length:=by
 have:=Kc h.rW (n:=b.2.length) fun x al=>by
  obtain ⟨p,aC,rfl⟩:=ss.1 al;exact ⟨(h.ok p aC).1,(h.ok p aC).2.1⟩
 simpa using this
theorem MI.next {D own:Row} (h:MI b D own) {p:Int×Int} (aC:p∈R9 b (D++own) own):MI b D (own++[p]):=by
 obtain ⟨bO,aN⟩:=af2.1 aC;unfold R_ at aN;simp only [sx,tH,Bool.not_eq_true',decide_eq_true_eq] at aN;refine ⟨fun q a3=>?_,?_,.inr ?_⟩
 ·rw [←sj] at a3;rcases sS.1 a3 with a3 | a3
  ·exact h.ok q a3
  ·rw [sB.1 a3];exact bO
 ·rw [←sj,sY,ua];refine ⟨h.rW,by simp,fun x al y a0 e=>?_⟩;simp only [se,tt,sB] at a0;subst a0;subst e;obtain ⟨q,a3,e⟩:=ss.1 al;have:=uz.1 aN.1 q a3;simp [e] at this
 ·have M9:(own++[p]).getD ((own++[p]).length-1) default=p:=by simp
  rw [M9];rcases aN.2 with aS | aS
  ·subst aS;exact ⟨qp b p,Js.2 ⟨rfl,rfl⟩⟩
  ·by_cases ad:own=[]
   ·subst ad;exact ⟨qp b p,Js.2 ⟨rfl,rfl⟩⟩
   ·rcases h.go with af | ⟨a,af⟩
    ·exact absurd af ad
    ·refine ⟨a,?_⟩;rw [IL,af,r_];exact Js.2 ⟨aS.symm,rfl⟩
section
variable {Vt:List Int} (yz:Vt.length≤1000) (adY:∀ x∈Vt,0≤x∧x≤255)
include yz adY
end
end
end Go.Proofs.YtfakoboiahbhaaaGreat.Ab


namespace Go.Proofs.YtfakoboiahbhaaaGreat.Ab
open Go
set_option maxRecDepth 20000
set_option maxHeartbeats 4000000
def qV (l:List Int):Nat→List Int
 | 0=>[]
 | k+1=>if 0<k∧l.getD k 0=l.getD (k-1) 0 then qV l k else qV l k++[l.getD k 0]
theorem QW (l:List Int):∀ k,(qV l k).length≤k
 | 0=>sb _
 | k+1=>by
   have:=QW l k;simp only [qV];split
   ·omega
   ·simp;omega
theorem acG (lo id off len:Nat) (H:List au) (l:List I) (bD:lo≤id) (ah:H[id]?=some (.cells l)) (h:off+len=l.length) :
  kT Go.Proofs.Tryz.prog lo #[38] H [.ref id off len none 1]=some (.tuple [],H.set id (.cells (l.take off++List.replicate len (hR 0)))):=by
 rw [QV lo id off len H l bD ah (by omega),tb (by omega),sN]
theorem QO (l:List Int) (k x:Nat) (h:(qV l k).length≤x) (al:x<l.length):((qV l k++l.drop (qV l k).length).map hR)[x]?=some (hR (l.getD x 0)):=by
 rw [su,sL h,sX,show (qV l k).length+(x-(qV l k).length)=x by omega,sq al];simp [al]
theorem ahS (l:List Int) (A:List Int) (v:Int) (h:A.length<l.length):((A++l.drop A.length).map hR).set A.length (hR v)=((A++[v])++l.drop (A++[v]).length).map hR:=by
 rw [sY,v7 _ _ (by simp),sZ,tL,sT h,se,List.set_cons_zero];simp
theorem WL (l:List Int) (x:Nat) (al:x<l.length):(l.map hR)[x]?=some (hR (l.getD x 0)):=by simp [al]
section
variable {H:List au} {id lo:Nat}
theorem acP (bD:lo≤id) (l:List Int) (aS:0<l.length) (ak:l.length≤1000) (ah:H[id]?=some (.cells (l.map hR))) {Q:cB→List I→List au→Prop}
  (bl:∀ T Qt,c5 T 2=.ref id 0 (qV l l.length).length none 1→Qt=H.set id (.cells ((qV l l.length++List.replicate (l.length-(qV l l.length).length) 0).map hR))→Q .ret T Qt) :
  dD Go.Proofs.Tryz.prog QI 74 lo none L7 (GD 61 [(0,.ref id 0 l.length none 1),(2,.ay [] 0 (.uniq 1))]) H Q:=by
 have aE:=(sa.1 ah).1;have Ca:Nat.ble lo id=true:=ue bD;have gs:∀ c:au,(H.set id c)[id]?=some c:=fun c=>by rw [sg aE]
 have H2:∀ c e:au,((H.set id c).set id e)[id]?=some e:=fun c e=>by rw [sQ,gs]
 have same:H.set id (.cells (l.map hR))=H:=by
  obtain ⟨ad,af⟩:=sa.1 ah;rw [←af,uI]
 unfold L7;obtain ⟨m2,rT⟩:∃ c,Ny=c:=⟨_,rfl⟩;rw [rT];conv=>whnf
 have fin:∀ T,c5 T 2=.ref id 0 l.length none 1→qV l l.length=l→Q .ret T H:=fun T bX e=>bl _ _ (by rw [bX,e]) (by rw [e,tL,wx,sN,same]);by_cases af:((l.length:Nat):Int)<2
 ·rw [decide_eq_true af];conv=>whnf
  have:l.length=1:=by omega
  refine fin _ rfl ?_
  match l,this with
  | [x],_=>rfl
 rw [decide_eq_false af];conv=>whnf
 refine .intro (fun m T H'=>∃ k,1≤k∧k≤l.length∧m=l.length-k∧qV l k=l.take k∧T=GD 61 [(0,.ref id 0 l.length none 1),(3,hR (k:Nat))]∧H=H') (l.length-1) ⟨1,by omega,by omega,rfl,?_,rfl,rfl⟩ ?_
 ·match l,aS with
  | x::r,_=>rfl
 rintro m T H' ⟨k,CC,po,rfl,he,rfl,rfl⟩;subst rT;unfold Ny XG;obtain ⟨fR,rQ⟩:∃ c,Ta=c:=⟨_,rfl⟩;rw [rQ];conv=>whnf
 by_cases av:(k:Int)<(l.length:Int)
 ·rw [decide_eq_true av];conv=>whnf
  refine ⟨by omega,?_⟩;conv=>whnf
  refine DU ah ?_;conv=>whnf
  refine DU (x:=hR (l.getD k 0)) (by rw [show 0+(k:Int).toNat*1=k by simp];exact WL l k (by omega)) ?_;conv=>whnf
  rw [show IntKind.i64.wrap ((k:Int)-1)=((k-1:Nat):Int) by rw [Ih _ (by omega) (by omega)];omega];refine ⟨by omega,?_⟩;conv=>whnf
  refine DU ah ?_;conv=>whnf
  refine DU (x:=hR (l.getD (k-1) 0)) (by rw [show 0+(((k-1:Nat)):Int).toNat*1=k-1 by simp];exact WL l (k-1) (by omega)) ?_;conv=>whnf
  by_cases aZ:l.getD k 0=l.getD (k-1) 0
  ·rw [decide_eq_true aZ];(conv=>whnf);(have M7:qV l (k+1)=l.take k:=by simp only [qV];rw [if_pos ⟨by omega,aZ⟩,he]);subst rQ;unfold Ta;obtain ⟨bq,d_⟩:∃ c,S9=c:=⟨_,rfl⟩;obtain ⟨dY,BZ⟩:∃ c,S_=c:=⟨_,rfl⟩;rw [d_,BZ];(conv=>whnf);refine ⟨rfl,by omega,fun _=>?_,fun h=>by omega⟩;(conv=>whnf);refine .intro (fun m T H'=>∃ q,1≤q∧k+q≤l.length∧m=l.length-q∧(qV l (k+q)).length+1≤k+q∧T=GD 61 [(0,.ref id 0 l.length none 1),(3,hR (qV l (k+q)).length),(4,.ref id (0+(k:Int).toNat*1) (l.length-(k:Int).toNat) none 1),(5,hR (q:Nat))]∧H'=H.set id (.cells ((qV l (k+q)++l.drop (qV l (k+q)).length).map hR))) (l.length-1) ⟨1,sb _,by omega,rfl,by rw [M7];simp;omega,?_,?_⟩ ?_
   ·rw [M7,sR,tq (by omega)];rfl
   ·rw [M7,sR,tq (by omega),uX];exact same.symm
   rintro m T H' ⟨q,aeu,CU,rfl,hw,rfl,rfl⟩;subst d_;unfold S9 XE;obtain ⟨a',cb⟩:∃ c,S8=c:=⟨_,rfl⟩;rw [cb];(conv=>whnf);by_cases a3:(q:Int)<((l.length-k:Nat):Int)
   ·rw [show decide ((q:Int)<((l.length-(k:Int).toNat:Nat):Int))=true from decide_eq_true a3];(conv=>whnf);refine ⟨by simp;omega,?_⟩;(conv=>whnf);refine DU (gs _) ?_;(conv=>whnf);refine DU (x:=hR (l.getD (k+q) 0)) (by rw [show 0+(k:Int).toNat*1+(q:Int).toNat*1=k+q by simp];exact QO l (k+q) (k+q) (by omega) (by omega)) ?_;(conv=>whnf);rw [show IntKind.i64.wrap ((q:Int)-1)=((q-1:Nat):Int) by rw [Ih _ (by omega) (by omega)];omega];refine ⟨by simp;omega,?_⟩;(conv=>whnf);refine DU (gs _) ?_;(conv=>whnf);refine DU (x:=hR (l.getD (k+q-1) 0)) (by rw [show 0+(k:Int).toNat*1+(((q-1:Nat)):Int).toNat*1=k+q-1 by simp;omega];exact QO l (k+q) (k+q-1) (by omega) (by omega)) ?_;(conv=>whnf);by_cases al:l.getD (k+q) 0=l.getD (k+q-1) 0
    ·rw [decide_eq_false (not_not_intro al)];(conv=>whnf);(have e:qV l (k+(q+1))=qV l (k+q):=by rw [←tK];simp only [qV];rw [if_pos ⟨by omega,al⟩]);refine ⟨l.length-(q+1),by omega,q+1,by omega,by omega,rfl,by rw [e];omega,?_,by rw [e]⟩;rw [e,←q5 q (by omega)];rfl
    ·rw [decide_eq_true al];(conv=>whnf);(have e:qV l (k+(q+1))=qV l (k+q)++[l.getD (k+q) 0]:=by rw [←tK];simp only [qV];rw [if_neg fun h=>al h.2]);subst cb;refine HU fun mU GZ=>?_;unfold S8;(conv=>whnf);refine ⟨by simp;omega,?_⟩;(conv=>whnf);refine DU (gs _) ?_;(conv=>whnf);refine DU (x:=hR (l.getD (k+q) 0)) (by rw [show 0+(k:Int).toNat*1+(q:Int).toNat*1=k+q by simp];exact QO l (k+q) (k+q) (by omega) (by omega)) ?_;(conv=>whnf);refine ⟨by omega,?_⟩;(conv=>whnf);rw [Ca];(conv=>whnf);refine DU (gs _) ?_;(conv=>whnf);refine FI (by simp;omega) ?_;(conv=>whnf);refine GZ _ _ _ ?_;(conv=>whnf);refine ⟨l.length-(q+1),by omega,q+1,by omega,by omega,rfl,by rw [e,sm,tn];omega,?_,?_⟩
     ·rw [e,sm,tn,←q5 q (by omega),←q5 (qV l (k+q)).length (by omega)];rfl
     ·rw [sQ,e,show 0+((qV l (k+q)).length:Int).toNat*1=(qV l (k+q)).length by simp,ahS l (qV l (k+q)) _ (by omega)]
   ·rw [show decide ((q:Int)<((l.length-(k:Int).toNat:Nat):Int))=false from decide_eq_false a3];(conv=>whnf);(obtain rfl:q=l.length-k:=by omega);rw [show k+(l.length-k)=l.length by omega] at hw ⊢;subst BZ;unfold S_ XF;(conv=>whnf);refine ⟨rfl,by omega,fun _=>?_,fun h=>by omega⟩;(conv=>whnf);refine ⟨_,_,fun C=>(acG lo id _ _ _ _ bD (gs _) (by simp)),?_⟩;(conv=>whnf);refine ⟨rfl,by omega,?_⟩;(conv=>whnf);refine bl _ _ rfl ?_;rw [sQ];have e:(List.take (0+((qV l l.length).length:Int).toNat*1) ((qV l l.length++l.drop (qV l l.length).length).map hR)++List.replicate (l.length-((qV l l.length).length:Int).toNat) (hR 0))=(qV l l.length++List.replicate (l.length-(qV l l.length).length) 0).map hR:=by
     simp
    rw [←e]
  ·rw [decide_eq_false aZ];(conv=>whnf);refine ⟨l.length-(k+1),by omega,k+1,by omega,by omega,rfl,?_,by rw [←q5 k (by omega)];rfl,rfl⟩;simp only [qV];rw [if_neg fun h=>aZ h.2,he,tx (by omega)];simp [show k<l.length by omega]
 ·rw [decide_eq_false av];conv=>whnf
  obtain rfl:k=l.length:=by omega
  exact fin _ rfl (by rw [he,tz])
theorem acO (l:List Int) (aS:0<l.length) (ak:l.length≤1000) (bD:lo≤H.length) :
  Sem Go.Proofs.Tryz.prog (.fn 74) [.ay (l.map hR) l.length (.uniq 1)] H lo (.ref H.length 0 (qV l l.length).length none 1) (H++[.cells ((qV l l.length++List.replicate (l.length-(qV l l.length).length) 0).map hR)]):=by
 refine G4 dJ WX rfl ⟨by simp,fun j ad af=>by rw [sA af]⟩ fun Q bl=>?_;unfold S7;obtain ⟨BF,IF⟩:∃ c,L7=c:=⟨_,rfl⟩;rw [IF];conv=>whnf
 subst IF;have h:=acP (H:=H++[.cells (l.map hR)]) (id:=H.length) bD l aS ak (by simp) (Q:=Q) fun T Qt bX al=>bl _ _ _ ⟨.inr rfl,by rw [al,ru];exact ⟨rfl,fun j o aw=>.inr aw⟩,by simp only [j1,bX,sd,hb]⟩;unfold L7 at h ⊢;obtain ⟨m2,rT⟩:∃ c,Ny=c:=⟨_,rfl⟩;rw [rT] at h ⊢;conv=>whnf
 refine .inl ⟨by omega,?_⟩;conv=>whnf
 conv at h=>whnf
 exact h
end

def Uq (n:Nat):Prop:=∀ (l:List Int),l.length≤n→∀ (H:List au) (id lo:Nat),lo≤id→H[id]?=some (.cells (l.map hR)) →
 Sem Tryz.prog (.fn 73) [.ref id 0 l.length none 1] H lo (.tuple []) (H.set id (.cells ((GO l).map hR)))
theorem ahZ:Uq 12:=fun l h H id lo bD ah=>X9 l bD h rfl ah
section
variable {H:List au} {lo:Nat}
theorem aeN:Sem Go.Proofs.Tryz.prog (.fn 115) [.ay [] 0 (.own 1),hR 0,hR 0] H lo (.tuple []) H:=by
 refine G4 dJ WS rfl (ba.refl _ _) fun Q bl=>?_;unfold SN;conv=>whnf
 refine .intro (fun m T H'=>T=GD 49 [(0,.ay [] 0 (.own 1)),(1,hR 0),(2,hR 0),(6,hR 1)]∧H=H') 0 ⟨rfl,rfl⟩ ?_;rintro m T H' ⟨rfl,rfl⟩;conv=>whnf
 exact bl _ _ _ ⟨.inl rfl,⟨by simp,fun j o aw=>.inr aw⟩,rfl⟩
theorem agv {IZ:Int}:Sem Go.Proofs.Tryz.prog (.fn 96) [.ay [] 0 (.own 1),hR 0,hR 0,hR IZ] H lo (.tuple []) H:=by
 refine G4 dJ WZ rfl (ba.refl _ _) fun Q bl=>?_;unfold Ty;obtain ⟨QQ,IV⟩:∃ c,NA=c:=⟨_,rfl⟩;rw [IV];conv=>whnf
 refine .intro (fun m T H'=>T=GD 134 [(0,.ay [] 0 (.own 1)),(1,hR 0),(2,hR 0),(3,hR IZ),(8,B true),(9,B true)]∧H'=H) 0 ⟨rfl,rfl⟩ ?_;rintro m T H' ⟨rfl,rfl⟩;subst IV;unfold NA;obtain ⟨a',cb⟩:∃ c,Nz=c:=⟨_,rfl⟩;obtain ⟨QP,KH⟩:∃ c,Tz=c:=⟨_,rfl⟩;rw [cb,KH];conv=>whnf
 subst cb;unfold Nz;conv=>whnf
 refine ⟨_,_,Ha aeN,?_⟩;conv=>whnf
 exact bl _ _ _ ⟨.inr rfl,⟨rfl,fun j o aw=>.inr aw⟩,rfl⟩
theorem ahW:Sem Go.Proofs.Tryz.prog (.fn 73) [.ay [] 0 (.uniq 1)] H lo (.tuple []) H:=by
 refine G4 dJ WW rfl (ba.refl _ _) fun Q bl=>?_;unfold S6;conv=>whnf
 refine ⟨by first | rfl | simp only [tr,tY,LW,L4,LX,LZ,LY,L0,L6,L5,JR,L1,L2,L3,tS,Bool.and_self],_,N_ 0 (by decide),?_⟩
 conv=>whnf
 refine ⟨_,_,Ha agv,?_⟩;conv=>whnf
 exact bl _ _ _ ⟨.inl rfl,⟨by simp,fun j o aw=>.inr aw⟩,rfl⟩
theorem acJ:Sem Go.Proofs.Tryz.prog (.fn 75) [.ay [] 0 .shared] H lo (.ay [] 0 (.uniq 1)) H:=by
 refine G4 dJ WY rfl (ba.refl _ _) fun Q bl=>?_;unfold Tb Tc;conv=>whnf
 refine ⟨.dq,H,fun C=>by kernel_rfl,?_⟩;conv=>whnf
 refine ⟨?_,?_⟩
 ·conv=>whnf
  exact bl _ _ _ ⟨.inr rfl,⟨rfl,fun j o aw=>.inr aw⟩,rfl⟩
 ·conv=>whnf
  refine ⟨rfl,by omega,rfl,by omega,?_⟩;conv=>whnf
  exact bl _ _ _ ⟨.inr rfl,⟨rfl,fun j o aw=>.inr aw⟩,rfl⟩
theorem acN:Sem Go.Proofs.Tryz.prog (.fn 74) [.ay [] 0 (.uniq 1)] H lo (.ay [] 0 .shared) H:=by
 refine G4 dJ WX rfl (ba.refl _ _) fun Q bl=>?_;unfold S7 L7;obtain ⟨m2,rT⟩:∃ c,Ny=c:=⟨_,rfl⟩;rw [rT];conv=>whnf
 refine .inr ⟨rfl,?_⟩;conv=>whnf
 exact bl _ _ _ ⟨.inr rfl,⟨rfl,fun j o aw=>.inr aw⟩,rfl⟩
end
end Go.Proofs.YtfakoboiahbhaaaGreat.Ab
