
import Derived.Test.YtfakoboiahbhaaaGreatJa5
import Derived.Test.YtfakoboiahbhaaaGreatJa6
import Derived.Test.YtfakoboiahbhaaaGreatJa10
import Derived.KernelRfl
import Derived.Test.YtfakoboiahbhaaaGreatJa9
import Derived.Test.YtfakoboiahbhaaaGreatProg
set_option linter.unusedSimpArgs false
set_option linter.unusedVariables false
set_option linter.unusedSectionVars false

open Bool renaming false_eq_true→tG
open Decidable renaming not_not→vl
open Int renaming toNat_natCast→th,toNat_of_nonneg→tS
open List renaming any_eq_false→uI,any_eq_true→uY,append_assoc→sD,append_nil→sW,append_of_mem→vT,drop_eq_getElem_cons→sQ,drop_eq_nil_of_le→td,drop_zero→sV,ext_getElem→vM,find?_eq_none→vm,flatten_append→vn,flatten_cons→ub,getElem?_append→se,getElem?_append_left→sy,getElem?_append_right→sJ,getElem?_drop→sZ,getElem?_eq_some_iff→sb,getElem?_replicate→vH,getElem_mem→sI,length_append→sr,length_cons→sM,length_eq_zero_iff→tA,length_filter_le→tQ,length_map→sX,length_singleton→tZ,length_take→ta,map_append→s_,map_cons→sG,map_map→tp,mem_append→sN,mem_cons→sq,mem_cons_of_mem→tV,mem_cons_self→uo,mem_filter→sP,mem_flatMap→vi,mem_flatten→uZ,mem_map→sk,mem_map_of_mem→uO,mem_of_mem_take→uw,mem_singleton→sO,nodup_append→tX,not_mem_nil→uB,pairwise_iff_getElem→ti,perm_ext_iff_of_nodup→uK,set_set→sU,take_append_drop→uT,take_length→tC,take_succ_eq_append_getElem→tO,take_zero→tj
open Nat renaming add_assoc→tD,le_refl→sd,le_trans→sL,lt_succ_self→su,min_eq_left→tM,mul_one→tJ,sub_self→tR,zero_le→sC
open Option renaming bind_some→sc,map_some→sf
namespace Go.Proofs.YtfakoboiahbhaaaGreat.Ab
open Go
set_option maxRecDepth 20000
set_option maxHeartbeats 4000000
def QB (t:qe) (qf:p7) (figure:Int):Option Bool :=
 (MC t qf).bind fun r1 =>
 if (decide ((qf.length:Int)=(0:Int)))=true then
  some true
 else
  if (decide ((2:Int)<(r1.length:Int)))=true then
   some false
  else
   if (decide ((r1.length:Int)=(2:Int)))=true then
    (Ue r1 figure).bind fun r2 =>
    if r2=true then
     (Kw qf (fun qN=>QD qN t figure)).bind fun eI =>
     if eI=true then
      (Ku t qf).bind fun qR =>
      some (decide ((qR.length:Int)=(1:Int)))
     else
      some false
    else
     some false
   else
    (Kw qf (fun qN=>QD qN t figure)).bind fun q6 =>
    if q6=true then
     (Ku t qf).bind fun HH =>
     some (decide ((HH.length:Int)=(1:Int)))
    else
     some false

end Go.Proofs.YtfakoboiahbhaaaGreat.Ab


namespace Go.Proofs.YtfakoboiahbhaaaGreat.Ab
open Go
def MV (l:Row):Row:=(l.map fun p=>(p.1,1-p.2)).reverse
section
variable {b:p5} {S:List Int}
theorem ahX {p:Int×Int} (h:0≤p.2∧p.2≤1):qx b (p.1,1-p.2)=fin b p∧fin b (p.1,1-p.2)=qx b p:=by
 unfold qx fin;rcases show p.2=0∨p.2=1 by omega with e | e
 ·simp [e]
 ·simp [e]
theorem XF:∀ (l:Row) (a c:Int),(∀ p∈l,0≤p.2∧p.2≤1)→qD b a l=some c→qD b c (MV l)=some a
 | [],a,c,_,h=>by
   have:a=c:=by simpa [qD] using h
   subst this;rfl
 | p::l,a,c,ad,h=>by
   obtain ⟨ca,b5⟩:=Je.1 h;have a9:=XF l _ c (fun q aZ=>ad q (by simp [aZ])) b5;have ay:=ahX (b:=b) (ad p (by simp));unfold MV at a9 ⊢;rw [sG,List.reverse_cons,Jz,a9,sc];exact Kn.2 ⟨ay.1,by rw [ay.2];exact ca⟩
theorem abO (l:Row):((MV l).map (·.1)).Perm (l.map (·.1)):=by
 unfold MV;rw [List.map_reverse,tp];exact List.reverse_perm _
theorem TW:∀ (l:Row) (a c:Int),qD b a l=some c→∀ p∈l,qT b (l.map (·.1)) a (qx b p)∧qT b (l.map (·.1)) a (fin b p)
 | [],_,_,_,p,aB=>by simp at aB
 | q::l,a,c,h,p,aB=>by
   obtain ⟨ca,b5⟩:=Je.1 h;have aZ:qT b ((q::l).map (·.1)) a (fin b q):=.one (i:=q.1) (by simp) ((J' q a).2 (.inl ca)) ((J' q _).2 (.inr rfl));rcases sq.1 aB with rfl | aB
   ·exact ⟨by rw [ca];exact .refl,aZ⟩
   ·have a9:=TW l _ c b5 p aB;(have hm:∀ x∈l.map (·.1),x∈(q::l).map (·.1):=fun x ak=>by simp only [sG,sq];exact .inr ak);exact ⟨aZ.trans (a9.1.mono hm),aZ.trans (a9.2.mono hm)⟩
theorem ag2 {l:Row} {a c:Int} (h:qD b a l=some c):LS b (l.map (·.1)):=by
 intro x ak y aY f g aP aO;obtain ⟨p,aB,rfl⟩:=sk.1 ak;obtain ⟨q,aZ,rfl⟩:=sk.1 aY;have al:∀ p∈l,∀ f,qC b p.1 f→qT b (l.map (·.1)) a f:=fun p aB f aP=>by
  rcases (J' p f).1 aP with rfl | rfl
  ·exact (TW l a c h p aB).1
  ·exact (TW l a c h p aB).2
 exact (al p aB f aP).symm.trans (al q aZ g aO)
theorem LS.perm {S S':List Int} (h:LS b S) (aB:S.Perm S'):LS b S':=fun x ak y aY f g aP aO=>(h x (aB.mem_iff.2 ak) y (aB.mem_iff.2 aY) f g aP aO).mono fun z bj=>aB.mem_iff.1 bj
def Kz (b:p5) (S:List Int) (f:Int):Prop:=S=[]∨(LS b S∧(∃ i∈S,qC b i f)∧(rr b S=[]∨((rr b S).length=2∧f∈rr b S)))
structure IE (b:p5) (S:List Int) (a c:Int) (l:Row):Prop where
 ok:∀ p∈l,H0 b p
 go:qD b a l=some c
 all:(l.map (·.1)).Perm S
theorem Vt (p3:qA b) {p:Int×Int} (aB:H0 b p):(0≤qx b p∧qx b p<b.1)∧0≤fin b p∧fin b p<b.1:=by
 have hm:=rq.2 ⟨aB.1,aB.2.1⟩;exact ⟨PA p3 hm ((J' p _).2 (.inl rfl)),PA p3 hm ((J' p _).2 (.inr rfl))⟩
theorem XG:∀ (l:Row) (a c:Int),l≠[]→qD b a l=some c→∃ p∈l,fin b p=c
 | [],_,_,h,_=>absurd rfl h
 | [p],a,c,_,h=>⟨p,by simp,(Kn.1 h).2⟩
 | p::q::l,a,c,_,h=>by
   obtain ⟨r,aj,e⟩:=XG (q::l) _ c (by simp) (Je.1 h).2;exact ⟨r,tV _ aj,e⟩
theorem IE.ends (p3:qA b) {a c:Int} {l:Row} (h:IE b S a c l) (aU:l≠[]):(0≤a∧a<b.1)∧(0≤c∧c<b.1)∧(∃ i∈S,qC b i a)∧∃ i∈S,qC b i c:=by
 obtain ⟨p,aB,e⟩:=XG l a c aU h.go
 match l,aU,h with
 | q::l,_,h =>
   have b':=(Je.1 h.go).1;have ad:=Vt p3 (h.ok q (by simp));have af:=Vt p3 (h.ok p aB);rw [b'] at ad;rw [e] at af;exact ⟨ad.1,af.2,⟨q.1,h.all.mem_iff.1 (by simp),(J' q _).2 (.inl b')⟩,⟨p.1,h.all.mem_iff.1 (uO aB),(J' p _).2 (.inr e)⟩⟩
theorem IE.W0 (p3:qA b) {a c:Int} {l:Row} (h:IE b S a c l) (aU:l≠[]):(a=c→rr b S=[])∧(a≠c→(rr b S).Perm [a,c]):=by
 have Wq:=fun v=>OO l a c v h.go;have bS:=p3.f6;obtain ⟨cb,al,_,_⟩:=h.ends p3 aU;have a2:∀ v,qQ b (l.map (·.1)) v=qQ b S v:=fun v=>Pz h.all v;constructor
 ·rintro rfl;refine List.eq_nil_iff_forall_not_mem.2 fun v ae=>?_;have ad:=(Kj.1 ae).2;have af:=Wq v;rw [a2] at af;split at af <;> omega
 ·intro bN;refine (uK ((OA S).imp fun h e=>by omega) (by simp [bN])).2 fun v=>?_;have af:=Wq v;rw [a2] at af;rw [Kj];simp only [sq,uB,or_false];constructor
  ·rintro ⟨_,ad⟩;by_cases e1:a=v
   ·exact .inl e1.symm
   ·by_cases b':c=v
    ·exact .inr b'.symm
    ·rw [if_neg e1,if_neg b'] at af;omega
  ·rintro (rfl | rfl)
   ·rw [if_pos rfl,if_neg (Ne.symm bN)] at af;exact ⟨⟨cb.1,by omega⟩,by omega⟩
   ·rw [if_pos rfl,if_neg bN] at af;exact ⟨⟨al.1,by omega⟩,by omega⟩
theorem IE.back {a c:Int} {l:Row} (h:IE b S a c l):IE b S c a (MV l):=by
 refine ⟨fun p aB=>?_,XF l a c (fun p aB=>(h.ok p aB).2.2) h.go,(abO l).trans h.all⟩;unfold MV at aB;obtain ⟨q,aZ,rfl⟩:=sk.1 (List.mem_reverse.1 aB);have:=h.ok q aZ;exact ⟨this.1,this.2.1,by simp only;have:=this.2.2;omega,by simp only;have:=this.2.2;omega⟩
theorem IE.agT {a f:Int} {l:Row} (h:IE b S a a l) (aP:∃ i∈S,qC b i f):∃ l',IE b S f f l':=by
 obtain ⟨i,hi,nC⟩:=aP;obtain ⟨p,aB,rfl⟩:=sk.1 (h.all.mem_iff.2 hi);obtain ⟨dI,kU,rfl⟩:=vT aB;have HJ:=h.go;rw [Jz] at HJ;obtain ⟨c,ca,b5⟩:=qj HJ;obtain ⟨en,iD⟩:=Je.1 b5;have mk:∀ {x y:Row} {f:Int},x++y=dI++p::kU→qD b a x=some f→qD b f y=some a→IE b S f f (y++x):=fun {x y f} e ad af=>by
  have IM:(y++x).Perm (dI++p::kU):=by rw [←e];exact List.perm_append_comm
  exact ⟨fun q aZ=>h.ok q (IM.mem_iff.1 aZ),by rw [Jz,af];exact ad,(IM.map _).trans h.all⟩
 rcases (J' p f).1 nC with rfl | rfl
 ·exact ⟨_,mk (x:=dI) (y:=p::kU) rfl (by rw [en];exact ca) (by rw [en];exact b5)⟩
 ·exact ⟨_,mk (x:=dI++[p]) (y:=kU) (by simp) (by rw [Jz,ca];exact Kn.2 ⟨en,rfl⟩) iD⟩
theorem adl (p3:qA b) (cl:rD b S) (ao:S.length≤990) (aU:S≠[]) (bH:LS b S):∃ R,UC b S R:=by
 obtain ⟨l,a,ad,af,aG⟩:=round_part p3 cl ao aU bH;exact ⟨_,W7 p3 cl aU af aG⟩
theorem RowsOf.single {R:List Row} (h:RowsOf b S R) (ad:R.length=1):∃ l a c,R=[l]∧IE b S a c l:=by
 obtain ⟨l,rfl⟩:=List.length_eq_one_iff.1 ad;obtain ⟨a,c,aO⟩:=h.go l (by simp);exact ⟨l,a,c,rfl,h.ok l (by simp),aO,by simpa using h.all⟩
theorem V8 (p3:qA b) (cl:rD b S) (ao:S.length≤990) {f:Int}:Kz b S f↔∃ l c,IE b S f c l:=by
 constructor
 ·rintro (rfl | ⟨bH,aP,aq⟩)
  ·exact ⟨[],f,fun p aB=>absurd aB (by simp),rfl,by simp⟩
  ·(have aU:S≠[]:=fun e=>by obtain ⟨i,hi,_⟩:=aP;rw [e] at hi;simp at hi);obtain ⟨R,jB⟩:=adl p3 cl ao aU bH;have hlen:=jB.len;have ad:R.length=1:=by
    rw [hlen];rcases aq with aq | aq
    ·rw [aq];rfl
    ·rw [aq.1];rfl
   obtain ⟨l,a,c,ac8,bW⟩:=jB.toRowsOf.single ad;have jL:l≠[]:=jB.ne l (by rw [ac8];simp);have JS:=bW.W0 p3 jL;rcases aq with aq | ⟨af,adG⟩
   ·have:a=c:=Classical.byContradiction fun bN=>by
     have:=(JS.2 bN).length_eq;rw [aq] at this;simp at this
    subst this;obtain ⟨l',l3⟩:=bW.agT aP;exact ⟨l',f,l3⟩
   ·(have bN:a≠c:=fun e=>by have:=JS.1 e;rw [this] at af;simp at af);have:=(JS.2 bN).mem_iff.1 adG;simp only [sq,uB,or_false] at this;rcases this with rfl | rfl
    ·exact ⟨l,c,bW⟩
    ·exact ⟨_,_,bW.back⟩
 ·rintro ⟨l,c,bW⟩;by_cases aU:l=[]
  ·subst aU;left;have:=bW.all.length_eq;simp at this;exact tA.1 this.symm
  ·right;refine ⟨(ag2 bW.go).perm bW.all,(bW.ends p3 aU).2.2.1,?_⟩;have JS:=bW.W0 p3 aU;by_cases e:f=c
   ·exact .inl (JS.1 e)
   ·exact .inr ⟨(JS.2 e).length_eq,(JS.2 e).mem_iff.2 (by simp)⟩
theorem Y0 {s:List Int} {v:Int} (ai:s.length≤1000):∀ (m i:Nat) (z:Int),z=i→i≤s.length→s.length-i<m→QF s v (fun _=>some (-1:Int)) m z=some (posOf (fun x=>decide (v=x)) (s.drop i) i)
 | 0,i,_,_,_,h=>absurd h (by omega)
 | m+1,i,_,rfl,hi,hm=>by
   rw [QF];by_cases h:i<s.length
   ·rw [I' h,Hy h,q3 h,sQ h,posOf];by_cases aB:v=s[i]
    ·rw [if_pos (decide_eq_true aB),if_pos (decide_eq_true aB)]
    ·rw [if_neg (by simpa using aB),if_neg (by simpa using aB),rG i (by omega),Y0 ai m (i+1) _ rfl (by omega) (by omega)]
   ·rw [I_ h,td (by omega)];rfl
theorem aiI {s:List Int} {v:Int} (ai:s.length≤1000):Ue s v=some (decide (v∈s)):=by
 have:=Y0 (v:=v) ai p' 0 0 rfl (sC _) (rL (by omega));rw [sV] at this;rw [Ue,YZ,this,sc,OD];congr 1;rw [Bool.eq_iff_iff];simp
def L' (b:p5) (f i:Int):Bool:=decide ((ix b.2 i).1=f) || decide ((ix b.2 i).2=f)
theorem adF {f i:Int}:L' b f i=true↔qC b i f:=by unfold L' qC;simp
theorem aiE (p3:qA b) (cl:rD b S) (aN:S.Nodup) (f:Int):∃ r:Bool,QB b S f=some r∧(r=true↔Kz b S f):=by
 have ao:S.length≤b.2.length:=KS aN cl;have di:=p3.len;have akl:(rr b S).length≤6:=sL (tQ _ _) (by rw [Hx];omega);have ma:=SH p3 cl;obtain ⟨out,ad,af,_⟩:=Zv (b:=b) (S:=S) p3.len aN cl;rw [QB,Zp p3 cl (by omega),sc];by_cases aU:S=[]
 ·rw [if_pos (by simp [aU])];exact ⟨true,rfl,by simp [Kz,aU]⟩
 ·rw [if_neg (by simpa using aU)];have er:=af.one aU
  have Wk:Kw S (fun qN=>QD qN b f)=some (S.any (L' b f)):=Us (fun x ak=>by
   have nQ:=cl x ak;rw [QD,qg nQ,qg nQ];unfold L'
   split <;> simp [*]) (by omega)
  have PR:S.any (L' b f)=true↔∃ i∈S,qC b i f:=by
   rw [uY];simp only [adF]
  by_cases aG:2<(rr b S).length
  ·rw [if_pos (by simp;omega)];refine ⟨false,rfl,?_⟩;simp only [tG,false_iff];rintro (h | ⟨_,_,h | h⟩)
   ·exact aU h
   ·rw [h] at aG;simp at aG
   ·omega
  ·rw [if_neg (by simp;omega)];by_cases a5:(rr b S).length=2
   ·rw [if_pos (by simp [a5]),aiI (by omega),sc];by_cases bL:f∈rr b S
    ·rw [if_pos (decide_eq_true bL),Wk,sc];by_cases bS:S.any (L' b f)=true
     ·rw [if_pos bS,ad,sc];refine ⟨_,rfl,?_⟩;rw [decide_eq_true_eq,show ((out.length:Int)=1↔out.length=1) by omega,er];exact ⟨fun h=>.inr ⟨h,PR.1 bS,.inr ⟨a5,bL⟩⟩,fun h=>h.elim (fun h=>absurd h aU) fun h=>h.1⟩
     ·rw [if_neg bS];exact ⟨false,rfl,by simp only [tG,false_iff];exact fun h=>h.elim aU fun h=>bS (PR.2 h.2.1)⟩
    ·rw [if_neg (by simpa using bL)];refine ⟨false,rfl,?_⟩;simp only [tG,false_iff];rintro (h | ⟨_,_,h | h⟩)
     ·exact aU h
     ·rw [h] at a5;simp at a5
     ·exact bL h.2
   ·have cI:rr b S=[]:=tA.1 (by omega);rw [if_neg (by simp;omega),Wk,sc];by_cases bS:S.any (L' b f)=true
    ·rw [if_pos bS,ad,sc];refine ⟨_,rfl,?_⟩;rw [decide_eq_true_eq,show ((out.length:Int)=1↔out.length=1) by omega,er];exact ⟨fun h=>.inr ⟨h,PR.1 bS,.inl cI⟩,fun h=>h.elim (fun h=>absurd h aU) fun h=>h.1⟩
    ·rw [if_neg bS];exact ⟨false,rfl,by simp only [tG,false_iff];exact fun h=>h.elim aU fun h=>bS (PR.2 h.2.1)⟩
end
end Go.Proofs.YtfakoboiahbhaaaGreat.Ab


namespace Go.Proofs.YtfakoboiahbhaaaGreat.Ab
open Go
set_option maxRecDepth 20000
set_option maxHeartbeats 4000000

end Go.Proofs.YtfakoboiahbhaaaGreat.Ab


namespace Go.Proofs.YtfakoboiahbhaaaGreat.Ab
open Go
set_option maxRecDepth 20000
set_option maxHeartbeats 4000000
end Go.Proofs.YtfakoboiahbhaaaGreat.Ab


namespace Go.Proofs.YtfakoboiahbhaaaGreat.Ab
open Go
def Mm (S:List Int) (i:Int):List Int:=S.filter fun x=>decide (x≠i)
def Oa (b:p5) (S:List Int) (f:Int):Bool:=(QB b S f).getD false
def RF (b:p5) (S:List Int) (at_:Int) (p:Int×Int):Bool:=(decide (at_<0) || decide (qx b p=at_)) && Oa b (Mm S p.1) (fin b p)
def Vx (b:p5) (S:List Int) (at_ i:Int):Row:=[(i,0),(i,1)].filter (RF b S at_)
def Pu (b:p5) (S:List Int) (at_:Int):Row:=S.flatMap (Vx b S at_)
section
variable {b:p5} {S:List Int}
theorem acZ (p3:qA b) (cl:rD b S) (aN:S.Nodup) (f:Int):QB b S f=some (Oa b S f)∧(Oa b S f=true↔Kz b S f):=by
 obtain ⟨r,ad,af⟩:=aiE p3 cl aN f
 have:Oa b S f=r:=by unfold Oa;rw [ad];rfl
 rw [this];exact ⟨ad,af⟩
theorem YS (cl:rD b S) (i:Int):rD b (Mm S i):=fun x ak=>cl x (sP.1 ak).1
theorem YT (aN:S.Nodup) (i:Int):(Mm S i).Nodup:=aN.filter _
theorem ais (aN:S.Nodup) {i:Int} (hi:i∈S):S.Perm (i::Mm S i):=by
 refine (uK aN ?_).2 fun x=>?_
 ·rw [List.nodup_cons];refine ⟨fun h=>?_,YT aN i⟩;have:=(sP.1 h).2;simp at this
 ·rw [sq,Mm,sP];constructor
  ·intro h;by_cases e:x=i
   ·exact .inl e
   ·exact .inr ⟨h,by simpa using e⟩
  ·rintro (rfl | h)
   ·exact hi
   ·exact h.1
theorem afs {at_:Int} {p:Int×Int}:p∈Pu b S at_↔p.1∈S∧(p.2=0∨p.2=1)∧RF b S at_ p=true:=by
 unfold Pu Vx;rw [vi];constructor
 ·rintro ⟨i,hi,h⟩;rw [sP] at h;obtain ⟨ad,af⟩:=h;simp only [sq,uB,or_false] at ad;rcases ad with rfl | rfl
  ·exact ⟨hi,.inl rfl,af⟩
  ·exact ⟨hi,.inr rfl,af⟩
 ·rintro ⟨ad,af,aG⟩;refine ⟨p.1,ad,sP.2 ⟨?_,aG⟩⟩;obtain ⟨bR,bY⟩:=p;rcases af with af | af
  ·simp only at af;subst af;simp
  ·simp only at af;subst af;simp
def UA (b:p5) (S:List Int) (at_:Int):Prop:=(at_<0∧∃ f,Kz b S f)∨(0≤at_∧Kz b S at_)
theorem UA.next (p3:qA b) (cl:rD b S) (aN:S.Nodup) {at_:Int} (h:UA b S at_) (aU:S≠[]):Pu b S at_≠[]:=by
 have ao:S.length≤990:=sL (KS aN cl) (by have:=p3.len;omega);obtain ⟨f,aP,aO⟩:∃ f,(at_<0∨f=at_)∧Kz b S f:=by
  rcases h with ⟨ad,f,af⟩ | ⟨_,af⟩
  ·exact ⟨f,.inl ad,af⟩
  ·exact ⟨_,.inr rfl,af⟩
 obtain ⟨l,c,bW⟩:=(V8 p3 cl ao).1 aO
 match l,bW with
 | [],bW =>
   have:=bW.all.length_eq;simp at this;exact absurd (tA.1 this.symm) aU
 | p::l,bW =>
   obtain ⟨ca,b5⟩:=Je.1 bW.go;have aB:=bW.ok p (by simp);have Wp:p.1∈S:=bW.all.mem_iff.1 (by simp);have IM:(l.map (·.1)).Perm (Mm S p.1):=by
    have:=bW.all.trans (ais aN Wp);rw [sG] at this;exact this.cons_inv
   have HJ:Kz b (Mm S p.1) (fin b p):=(V8 p3 (YS cl _) (sL (tQ _ _) ao)).2 ⟨l,c,fun q aZ=>bW.ok q (by simp [aZ]),b5,IM⟩
   have hm:p∈Pu b S at_:=afs.2 ⟨Wp,by have:=aB.2.2;omega,by
    unfold RF;rw [(acZ p3 (YS cl _) (YT aN _) _).2.2 HJ];rcases aP with aP | rfl
    ·simp [aP]
    ·simp [ca]⟩
   intro e;rw [e] at hm;simp at hm
end
end Go.Proofs.YtfakoboiahbhaaaGreat.Ab


namespace Go.Proofs.YtfakoboiahbhaaaGreat.Ab
open Go
section
variable {b:p5} {S:List Int}
theorem RL:∀ (r pre:Row),((pre++r).map (·.1)).Nodup→Hu pre r=false
 | [],_,_=>rfl
 | p::r,pre,h=>by
   rw [Hu,if_neg]
   ·exact RL r (pre++[p]) (by simpa using h)
   ·intro ak;obtain ⟨q,aZ,e⟩:=uY.1 ak;have e:=of_decide_eq_true e;rw [s_,tX] at h;exact h.2.2 q.1 (uO aZ) p.1 (by simp) e
theorem ab_ (p3:qA b) {r:Row} {a c:Int} (aU:r≠[]) (bP:∀ p∈r,H0 b p) (aN:(r.map (·.1)).Nodup) (aO:qD b a r=some c):Hg b r=(a,c,0):=by
 unfold Hg;rw [if_neg (by rw [HU.2 p3];simp)]
 match r,aU,bP,aN,aO with
 | p::r,_,bP,aN,aO =>
   have ad:((p::r).any (Hj b))=false:=by
    rw [uI];intro q aZ;rw [Bool.not_eq_true];exact OQ.2 (bP q aZ)
   have af:Hu [] (p::r)=false:=RL _ _ (by simpa using aN);have aG:=(Je.1 aO).1;dsimp only;rw [if_neg (by rw [ad];simp),if_neg (by rw [af];simp),aG,aO]
def H7 (b:p5) (rows:List Row):Int×Int:=if q4 b≠0 then (0,q4 b) else match rows.find? fun r=>decide ((Hg b r).2.2≠0) with
 | some r=>(0,(Hg b r).2.2)
 | none=>if ((rows.flatten).map (·.1)).Nodup then (if (rows.flatten).length≠b.2.length then (0,15) else (rows.length,0)) else (0,11)
theorem acb (p3:qA b) {R:List Row} (jB:RowsOf b (upto b.2.length) R) (bN:∀ r∈R,r≠[]):H7 b R=((R.length:Int),0):=by
 have jP:((R.flatten).map (·.1)).Nodup:=jB.all.nodup_iff.2 (J4 _);have ao:=jB.all.length_eq;rw [sX,Hx] at ao;unfold H7;have aP:(R.find? fun r=>decide ((Hg b r).2.2≠0))=none:=vm.2 fun r aj=>by
  obtain ⟨a,c,aO⟩:=jB.go r aj;have zi:(r.map (·.1)).Sublist ((R.flatten).map (·.1)):=by
   refine List.Sublist.map _ ?_;obtain ⟨s,t,rfl⟩:=vT aj;simp
  rw [ab_ p3 (bN r aj) (jB.ok r aj) (zi.nodup jP) aO];simp
 rw [if_neg (by rw [HU.2 p3];simp),aP];simp only;rw [if_pos jP,if_neg (by omega)]
end
end Go.Proofs.YtfakoboiahbhaaaGreat.Ab


namespace Go.Proofs.YtfakoboiahbhaaaGreat.Ab
open Go
set_option maxRecDepth 20000
set_option maxHeartbeats 4000000
noncomputable def Q4:fT :=
 .loop (some (p_ false [1,2,3,2,57])) (.seq (pY [pZ 17 7,pZ 18 1,qM 19 18,qI 20 17 19 .lss] (.cond (.sl 20) .skip (.exit 0))) (.seq (.block 1 (.seq (Hi [GC 24 [.sl 2] (.zx (.str 2)),pZ 25 1,pZ 26 7,qL 27 25 26 1,qc 28 27,GC 29 [.lR (.func 19 [] []),.sl 24,.sl 28] (.call 3),pX 23 29,rA 30 23 0,rA 31 23 1,rA 32 23 2,pX 8 30,pX 9 31,pX 10 32]) (.seq (pY [pZ 33 10,qq 34 33 0 .neq] (.cond (.sl 34) (pY [pX 35 10,qa 4 0,pX 5 35] .ret) .skip)) (qv [pX 36 6,pZ 37 1,pZ 38 7,qL 39 37 38 1,qc 40 39,GC 41 [.jf 36,.jf 40] (.app 2 16),pX 6 41])))) (qv [pX 21 7,qE 22 21 1,pX 7 22])))
noncomputable def Q5:fT :=
 .loop (some (p_ false [1,2,3,1,4,1,53])) (.seq (pY [pZ 42 11,pZ 43 6,qM 44 43,qI 45 42 44 .lss] (.cond (.sl 45) .skip (.exit 2))) (.seq (.block 3 (.seq (Hi [pZ 48 6,pZ 49 11,GC 50 [.jf 48,.jf 49] (.Bg 2 false true false),pZ 51 6,pZ 52 11,qL 53 51 52 2,qF 54 53 0,qc 55 54,GC 56 [.lR (.func 69 [] []),.sl 50,.sl 55] (.call 3)]) (.cond (.sl 56) (pY [qa 4 0,qa 5 11] .ret) .skip))) (qv [pX 46 11,qE 47 46 1,pX 11 47])))
noncomputable def ZY:fT :=
 pY [GC 2 [.jf 0] .box,qa 4 0,qa 5 0] (.seq (pY [GC 12 [.sl 2] (.zx (.str 2)),GC 13 [.lR (.func 21 [] []),.sl 12] (.call 3),qq 14 13 0 .neq] (.cond (.sl 14) (pY [GC 15 [.Bs 2] (.zx (.str 2)),GC 16 [.lR (.func 21 [] []),.sl 15] (.call 3),qa 4 0,pX 5 16] .ret) .skip)) (pY [GC 6 [.lR (.ax [] 0 .full)] (.nil 2)] (.seq (pY [qa 7 0] (.block 0 Q4)) (.seq (pY [qa 11 0] (.block 2 Q5)) (.seq (pY [pX 57 6,qM 58 57,qF 59 2 1,qc 60 59,qM 61 60,qI 62 58 61 .neq] (.cond (.sl 62) (pY [qa 4 0,qa 5 15] .ret) .skip)) (pY [pX 63 1,qM 64 63,pX 4 64,qa 5 0] .ret))))))
theorem aeW:zD Tryz.prog Pm 26=some (ZY,65,[.tmp 4,.tmp 5]):=by kernel_rfl
def My (b:qe) (rows:qz) (qb:qk→Option (Int×Int)):Nat→qk→Int→Option (Int×Int)
 | 0,_,_=>none
 | m+1,s1,s2 =>
   if (decide (s2<(rows.length:Int)))=true then
    p9 (0≤s2∧s2<(rows.length:Int)) <|
    (Ms b (ix rows s2)).bind fun eI =>
    if (decide (eI.2.2≠(0:Int)))=true then
     some ((0:Int),eI.2.2)
    else
     p9 (0≤s2∧s2<(rows.length:Int)) <|
     p9 ((s1.length+(ix rows s2).length)*16≤140737488355328) <|
     My b rows qb m (s1++(ix rows s2)) (w (s2+(1:Int)))
   else
    qb s1
def Mz (yg:qk) (qt:Unit→Option (Int×Int)):Nat→Int→Option (Int×Int)
 | 0,_=>none
 | m+1,s3 =>
   if (decide (s3<(yg.length:Int)))=true then
    p9 (0≤s3∧s3≤(yg.length:Int)) <|
    p9 (0≤s3∧s3<(yg.length:Int)) <|
    (NG (yg.take s3.toNat) ((ix yg s3).1)).bind fun qR =>
    if qR=true then
     some ((0:Int),(11:Int))
    else
     Mz yg qt m (w (s3+(1:Int)))
   else
    qt ()
def OZ (b:qe) (rows:qz):Option (Int×Int) :=
 (J5 b).bind fun r1 =>
 if (decide (r1≠(0:Int)))=true then
  (J5 b).bind fun r2 =>
  some ((0:Int),r2)
 else
  My b rows (fun yg =>
    Mz yg (fun _ =>
      if (decide ((yg.length:Int)≠(b.2.length:Int)))=true then
       some ((0:Int),(15:Int))
      else
       some ((rows.length:Int),(0:Int))) p' (0:Int)) p' ([]:List (Int×Int)) (0:Int)
theorem ai7 {b:qe} {rows:qz} {qb:qk→Option (Int×Int)} {s1:qk} {s2:Int} {v:(Int×Int)} {Q:rM}   (jB:qK [.tmp 4,.tmp 5] Q (fun v=>(.tuple [(hU v.1),(hU v.2)])) v) (rI:∀ (yg:qk) (p8:List I),qb yg=some v→rn 65 [(1,(.ax (rows.map (qJ p2)) rows.length .shared)),(2,(.ptr 0 0)),(6,(p6 yg (.uniq 2)))] p8→Q (.exit 0) p8 [Hq b]) {T:List I} (bW:eX (p_ false [1,2,3,2,57]) T=Hc 65 [(1,(.ax (rows.map (qJ p2)) rows.length .shared)),(2,(.ptr 0 0)),(6,(p6 s1 (.uniq 2))),(7,(hU s2))]) (h:My b rows qb p' s1 s2=some v) :
  dO Tryz.prog Pm 26 0 none Q4 T [Hq b] Q:=by
 unfold Q4;refine wp_loop bW ?_;refine .intro (fun m T H=>∃ (s1:qk) (s2:Int),T=Hc 65 [(1,(.ax (rows.map (qJ p2)) rows.length .shared)),(2,(.ptr 0 0)),(6,(p6 s1 (.uniq 2))),(7,(hU s2))]∧H=[Hq b]∧My b rows qb m s1 s2=some v) p' ⟨s1,s2,rfl,rfl,h⟩ ?_;clear h bW;rintro m T H ⟨s1,s2,rfl,rfl,h⟩;cases m
 ·exact ri h
 rename_i m;rw [My.eq_2] at h;conv=>whnf
 refine bs h (fun qS h=>?_) fun qS h=>?_
 ·rw [qS];conv=>whnf
  refine qs h id fun qY h=>?_;rw [Hh (qJ p2) rows s2 qY];conv=>whnf
  obtain ⟨eI,rJ,h⟩:=qj h;refine ⟨ql.pl,_,aiW rJ,Jo,?_⟩;conv=>whnf
  refine bs h (fun ra h=>?_) fun ra h=>?_
  ·rw [ra];(conv=>whnf);exact qd h jB rfl rfl
  ·rw [ra];(conv=>whnf);refine qs h id fun q_ h=>?_;rw [Hh (qJ p2) rows s2 q_];(conv=>whnf);obtain ⟨rp,h⟩:=qB h;refine ⟨by first | rfl | (simp;done) | exact Im p2 _ qy _,by have:=rp;omega,rfl,rp,?_⟩
   erw [RA p2 s1 (ix rows s2)];(conv=>whnf);exact ⟨m,su m,(s1++(ix rows s2)),(w (s2+(1:Int))),rfl,rfl,h⟩
 ·rw [qS];conv=>whnf
  exact rI _ _ h ⟨rfl,rfl⟩
theorem ai8 {yg:qk} {qt:Unit→Option (Int×Int)} {s3:Int} {b:qe} {rows:qz} {v:(Int×Int)} {Q:rM}   {KE:hs} (jB:qK [.tmp 4,.tmp 5] Q (fun v=>(.tuple [(hU v.1),(hU v.2)])) v) (HK:∀ (p8:List I),qt ()=some v→rn 65 [(1,(.ax (rows.map (qJ p2)) rows.length .shared)),(2,(.ptr 0 0)),(6,(p6 yg (.own 2)))] p8→Q (.exit 2) p8 [Hq b]) (Sh:(KE=(.uniq 2)∨KE=(.own 2))) {T:List I} (bW:eX (p_ false [1,2,3,1,4,1,53]) T=Hc 65 [(1,(.ax (rows.map (qJ p2)) rows.length .shared)),(2,(.ptr 0 0)),(6,(.ax (yg.flatMap p2) yg.length KE)),(11,(hU s3))]) (h:Mz yg qt p' s3=some v) :
  dO Tryz.prog Pm 26 0 none Q5 T [Hq b] Q:=by
 unfold Q5;refine wp_loop bW ?_;refine .intro (fun m T H=>∃ (s3:Int) (KE:hs),(KE=(.uniq 2)∨KE=(.own 2))∧T=Hc 65 [(1,(.ax (rows.map (qJ p2)) rows.length .shared)),(2,(.ptr 0 0)),(6,(.ax (yg.flatMap p2) yg.length KE)),(11,(hU s3))]∧H=[Hq b]∧Mz yg qt m s3=some v) p' ⟨s3,_,Sh,rfl,rfl,h⟩ ?_;clear h bW;rintro m T H ⟨s3,KE,Sh,rfl,rfl,h⟩;cases m
 ·exact ri h
 rename_i m;rw [Mz.eq_2] at h;rcases Sh with rfl | rfl
 ·conv=>whnf
  refine bs h (fun qP h=>?_) fun qP h=>?_
  ·rw [qP];(conv=>whnf);refine qs h id fun rO h=>?_;erw [Nr p2 2 qy yg s3 rO];(conv=>whnf);refine qs h id fun rz h=>?_;rw [q' p2 2 qy yg s3 rz];(conv=>whnf);obtain ⟨qR,rC,h⟩:=qj h;refine ⟨ql.pl,_,Up rC,Jo,?_⟩;(conv=>whnf);cases qR
   ·(conv=>whnf);replace h:=HX rfl h;exact ⟨m,su m,(w (s3+(1:Int))),_,(.inr rfl),rfl,rfl,h⟩
   ·(conv=>whnf);replace h:=HY rfl h;exact qd h jB rfl rfl
  ·rw [qP];(conv=>whnf);exact HK  _ h ⟨rfl,rfl⟩
 ·conv=>whnf
  refine bs h (fun qP h=>?_) fun qP h=>?_
  ·rw [qP];(conv=>whnf);refine qs h id fun rO h=>?_;erw [Nr p2 2 qy yg s3 rO];(conv=>whnf);refine qs h id fun rz h=>?_;rw [q' p2 2 qy yg s3 rz];(conv=>whnf);obtain ⟨qR,rC,h⟩:=qj h;refine ⟨ql.pl,_,Up rC,Jo,?_⟩;(conv=>whnf);cases qR
   ·(conv=>whnf);replace h:=HX rfl h;exact ⟨m,su m,(w (s3+(1:Int))),_,(.inr rfl),rfl,rfl,h⟩
   ·(conv=>whnf);replace h:=HY rfl h;exact qd h jB rfl rfl
  ·rw [qP];(conv=>whnf);exact HK  _ h ⟨rfl,rfl⟩
theorem ai9 {b:qe} {rows:qz} {v:(Int×Int)} (h:OZ b rows=some v):qw 26 [(.agg [(hU b.1),(.ax (b.2.flatMap p2) b.2.length .shared)]),(.ax (rows.map (qJ p2)) rows.length .shared)] (.tuple [(hU v.1),(hU v.2)]):=by
 refine q7 eo aeW rfl (Jb (p1 rfl (p1 rfl rfl))) fun Q bo=>?_;have jB:qK [.tmp 4,.tmp 5] Q (fun v=>(.tuple [(hU v.1),(hU v.2)])) v:=fun T H bH=>bo _ T H bH;unfold OZ at h;unfold ZY;obtain ⟨HV,qO⟩:∃ c,Q4=c:=⟨_,rfl⟩;rw [qO];obtain ⟨KD,r0⟩:∃ c,Q5=c:=⟨_,rfl⟩;rw [r0];conv=>whnf
 obtain ⟨r1,gD,h⟩:=qj h;refine ⟨ql.pl,_,OY gD,?_⟩;conv=>whnf
 refine bs h (fun gE h=>?_) fun gE h=>?_
 ·rw [gE];conv=>whnf
  obtain ⟨r2,qo,h⟩:=qj h;refine ⟨ql.pl,_,OY qo,?_⟩;conv=>whnf
  exact qd h jB rfl rfl
 ·rw [gE];conv=>whnf
  subst qO;refine ai7 ?_ ?_ (by exact rfl) h
  ·exact fun T H bH=>jB T H bH
  ·intro yg p8 h qm;obtain ⟨rf,rfl⟩:=qm.ex;(conv=>whnf);subst r0;refine ai8 ?_ ?_ (.inl rfl) (by exact rfl) h
   ·exact fun T H bH=>jB T H bH
   ·intro  p8 h qm;obtain ⟨rf,rfl⟩:=qm.ex;(conv=>whnf);refine bs h (fun r4 h=>?_) fun r4 h=>?_
    ·rw [r4];(conv=>whnf);exact qd h jB rfl rfl
    ·rw [r4];(conv=>whnf);exact qd h jB rfl rfl

noncomputable def Q3:fT :=
 .loop (some (p_ false [0,1,2,2,17])) (.seq (pY [pZ 7 4,pZ 8 0,qM 9 8,qI 10 7 9 .lss] (.cond (.sl 10) .skip (.exit 0))) (.seq (.block 1 (qv [pX 13 3,pZ 14 0,pZ 15 4,qL 16 14 15 1,qc 17 16,qM 18 17,GC 19 [.jf 13,.jf 18] .max,pX 3 19])) (qv [pX 11 4,qE 12 11 1,pX 4 12])))
noncomputable def ZX:fT :=
 pY [GC 2 [.lR (.bool false)] .mN] (pY [pZ 5 0,qM 6 5,pX 3 6] (.seq (pY [qa 4 0] (.block 0 Q3)) (pY [pX 20 3,qq 21 20 14 .gtr,pX 2 21] .ret)))
theorem aeV:zD Tryz.prog Ru 24=some (ZX,22,[.tmp 2]):=by kernel_rfl
def Mx (l:qz) (qb:Int→Option Bool):Nat→Int→Int→Option Bool
 | 0,_,_=>none
 | m+1,s1,s2 =>
   if (decide (s2<(l.length:Int)))=true then
    p9 (0≤s2∧s2<(l.length:Int)) <|
    Mx l qb m (max s1 ((ix l s2).length:Int)) (w (s2+(1:Int)))
   else
    qb s1
def Nz (l:qz):Option Bool :=
 Mx l (fun yg =>
   some (decide ((14:Int)<yg))) p' (l.length:Int) (0:Int)
theorem ai1 {l:qz} {qb:Int→Option Bool} {s1:Int} {s2:Int} {v:Bool} {Q:rM}   (rI:∀ (yg:Int) (p8:List I),qb yg=some v→rn 22 [(3,(hU yg))] p8→Q (.exit 0) p8 []) {T:List I} (bW:eX (p_ false [0,1,2,2,17]) T=Hc 22 [(0,(.ax (l.map (qJ p2)) l.length .shared)),(3,(hU s1)),(4,(hU s2))]) (h:Mx l qb p' s1 s2=some v) :
  dO Tryz.prog Ru 24 0 none Q3 T [] Q:=by
 unfold Q3;refine wp_loop bW ?_;refine .intro (fun m T H=>∃ (s1 s2:Int),T=Hc 22 [(0,(.ax (l.map (qJ p2)) l.length .shared)),(3,(hU s1)),(4,(hU s2))]∧H=[]∧Mx l qb m s1 s2=some v) p' ⟨s1,s2,rfl,rfl,h⟩ ?_;clear h bW;rintro m T H ⟨s1,s2,rfl,rfl,h⟩;cases m
 ·exact ri h
 rename_i m;rw [Mx.eq_2] at h;conv=>whnf
 refine bs h (fun gD h=>?_) fun gD h=>?_
 ·rw [gD];conv=>whnf
  refine qs h id fun gE h=>?_;rw [Hh (qJ p2) l s2 gE];conv=>whnf
  exact ⟨m,su m,(max s1 ((ix l s2).length:Int)),(w (s2+(1:Int))),rfl,rfl,h⟩
 ·rw [gD];conv=>whnf
  exact rI _ _ h ⟨rfl,rfl⟩
theorem ai3 {l:qz} {v:Bool} (h:Nz l=some v):qw 24 [(.ax (l.map (qJ p2)) l.length .shared)] (B v):=by
 refine q7 eo aeV rfl rfl fun Q bo=>?_;have jB:qK [.tmp 2] Q (fun v=>(B v)) v:=fun T H bH=>bo _ T H bH;unfold Nz at h;unfold ZX;obtain ⟨HV,qO⟩:∃ c,Q3=c:=⟨_,rfl⟩;rw [qO];conv=>whnf
 subst qO;refine ai1 ?_ (by exact rfl) h;intro yg p8 h qm;obtain ⟨rf,rfl⟩:=qm.ex;conv=>whnf
 exact qd h jB rfl rfl

end Go.Proofs.YtfakoboiahbhaaaGreat.Ab


namespace Go.Proofs.YtfakoboiahbhaaaGreat.Ab
open Go
set_option maxRecDepth 20000
set_option maxHeartbeats 4000000
end Go.Proofs.YtfakoboiahbhaaaGreat.Ab


namespace Go.Proofs.YtfakoboiahbhaaaGreat.Ab
open Go
section
variable {b:p5}
theorem Y' {yg:Row} (bj:yg.length≤100000) (ai:∀ i:Nat,i<yg.length→(yg.take i).length≤1000) {k:Unit→Option (Int×Int)}:∀ (m i:Nat) (z:Int),z=i→i≤yg.length→yg.length-i<m→Mz yg k m z=if Hu (yg.take i) (yg.drop i)=true then some (0,11) else k ()
 | 0,_,_,_,_,h=>absurd h (by omega)
 | m+1,i,_,rfl,hi,hm=>by
   rw [Mz];by_cases h:(i:Int)<(yg.length:Int)
   ·(have qX:i<yg.length:=by omega);rw [if_pos (decide_eq_true h),qg ⟨by omega,by omega⟩,qg ⟨by omega,h⟩,q3 qX,th,Zl _ _ (ai i qX),sc,sQ qX,Hu];by_cases a2:((yg.take i).any fun q=>decide (q.1=yg[i].1))=true
    ·rw [if_pos a2,if_pos a2,if_pos rfl]
    ·rw [if_neg a2,if_neg a2,rG i (by omega),Y' bj ai m (i+1) _ rfl (by omega) (by omega),K2 qX]
   ·rw [if_neg (by simpa using h),td (by omega),Hu,if_neg (by simp)]
theorem Y_ (ag:b.2.length≤1000) {rows:List Row} (aj:rows.length≤1000) (Dw:∀ r∈rows,r.length≤1000) {k:Row→Option (Int×Int)}:∀ (m i:Nat) (z:Int) (acc:Row),z=i→i≤rows.length→rows.length-i<m→acc.length≤1000*i →
  My b rows k m acc z=match (rows.drop i).find? fun r=>decide ((Hg b r).2.2≠0) with | some r=>some (0,(Hg b r).2.2) | none=>k (acc++(rows.drop i).flatten)
 | 0,_,_,_,_,_,h,_=>absurd h (by omega)
 | m+1,i,_,acc,rfl,hi,hm,cb=>by
   rw [My];by_cases h:(i:Int)<(rows.length:Int)
   ·(have qX:i<rows.length:=by omega);have ao:=Dw _ (sI qX);rw [if_pos (decide_eq_true h),qg ⟨by omega,h⟩,q3 qX,aiS b _ ag ao,sc,sQ qX,List.find?_cons];by_cases al:(Hg b rows[i]).2.2≠0
    ·rw [if_pos (decide_eq_true al),decide_eq_true al]
    ·rw [if_neg (by simpa using al),decide_eq_false al,qg ⟨by omega,h⟩,qg (by omega),rG i (by omega),Y_ ag aj Dw m (i+1) _ _ rfl (by omega) (by omega) (by rw [sr];omega),ub,sD]
   ·rw [if_neg (by simpa using h),td (by omega)];simp
theorem RP:∀ {rows:List Row} {n:Nat},(∀ r∈rows,r.length≤n)→rows.flatten.length≤n*rows.length
 | [],_,_=>by simp
 | r::rows,n,h=>by
   have ad:=h r (by simp);have af:=RP fun q aZ=>h q (tV _ aZ);rw [ub,sr,sM,Nat.mul_add];omega
theorem ai6 (ag:b.2.length≤1000) {rows:List Row} (aj:rows.length≤20) (Dw:∀ r∈rows,r.length≤20):OZ b rows=some (H7 b rows):=by
 rw [OZ,Uf b ag,sc];unfold H7;by_cases h:q4 b=0
 ·have px:=RP Dw;rw [if_neg (by simp [h]),if_neg (by simp [h]),Y_ ag (by omega) (fun r aj=>sL (Dw r aj) (by omega)) p' 0 0 [] rfl (by omega) (rL (by omega)) (by simp),sV];cases (rows.find? fun r=>decide ((Hg b r).2.2≠0)) with
  | some r=>rfl
  | none =>
    simp only [List.nil_append];rw [Y' (by omega) (fun i _=>by rw [ta];omega) p' 0 0 rfl (by omega) (rL (by omega)),tj,sV];by_cases aN:(rows.flatten.map (·.1)).Nodup
    ·rw [if_pos aN,RL _ _ (by simpa using aN),if_neg (by simp)];by_cases ao:rows.flatten.length≠b.2.length
     ·rw [if_pos ao,if_pos (show decide ((rows.flatten.length:Int)≠(b.2.length:Int))=true by simp only [decide_eq_true_eq];omega)]
     ·rw [if_neg ao,if_neg (show ¬ decide ((rows.flatten.length:Int)≠(b.2.length:Int))=true by simp only [decide_eq_true_eq];omega)]
    ·rw [if_neg aN]
     have:Hu [] rows.flatten=true:=by
      cases a2:Hu [] rows.flatten with
      | true=>rfl
      | false=>exact absurd (by simpa using RK _ _ a2 (by simp)) aN
     rw [this,if_pos rfl]
 ·rw [if_pos (by simpa using h),if_pos h,sc]
theorem Y9 {l:List Row} (ao:l.length≤9223372036854775807) {k:Int→Option Bool}:∀ (m i:Nat) (z a:Int),z=i→i≤l.length→l.length-i<m →
  ∃ aM,Mx l k m a z=k aM∧(14<aM↔14<a∨∃ r∈l.drop i,14<r.length)
 | 0,_,_,_,_,_,h=>absurd h (by omega)
 | m+1,i,_,a,rfl,hi,hm=>by
   rw [Mx];by_cases h:(i:Int)<(l.length:Int)
   ·(have qX:i<l.length:=by omega);rw [if_pos (decide_eq_true h),qg ⟨by omega,h⟩,q3 qX,rG i (by omega)];obtain ⟨aM,ad,af⟩:=Y9 ao (k:=k) m (i+1) _ (max a (l[i].length:Int)) rfl (by omega) (by omega);refine ⟨aM,ad,?_⟩;rw [af,sQ qX];constructor
    ·rintro (h | ⟨r,aj,h⟩)
     ·by_cases al:14<a
      ·exact .inl al
      ·exact .inr ⟨_,uo,by omega⟩
     ·exact .inr ⟨r,tV _ aj,h⟩
    ·rintro (h | ⟨r,aj,h⟩)
     ·exact .inl (by omega)
     ·rcases sq.1 aj with rfl | aj
      ·exact .inl (by omega)
      ·exact .inr ⟨r,aj,h⟩
   ·rw [if_neg (by simpa using h),td (by omega)];exact ⟨a,rfl,by simp⟩
theorem ai0 {l:List Row} (ao:l.length≤9223372036854775807):∃ r:Bool,Nz l=some r∧(r=true↔14<l.length∨∃ q∈l,14<q.length):=by
 rw [Nz];obtain ⟨aM,ad,af⟩:=Y9 ao (k:=fun yg=>some (decide ((14:Int)<yg))) p' 0 0 (l.length:Int) rfl (by omega) (rL (by omega));refine ⟨_,ad,?_⟩;rw [decide_eq_true_eq,af,sV];constructor
 ·rintro (h | h)
  ·exact .inl (by omega)
  ·exact .inr h
 ·rintro (h | h)
  ·exact .inl (by omega)
  ·exact .inr h
theorem ai2 {l:List Row} (ao:l.length≤14) (h:∀ r∈l,r.length≤14):Nz l=some false:=by
 obtain ⟨r,ad,af⟩:=ai0 (l:=l) (by omega);rw [ad];cases r with
 | false=>rfl
 | true =>
   rcases af.1 rfl with aG | ⟨q,aZ,aG⟩
   ·omega
   ·have:=h q aZ;omega
end
end Go.Proofs.YtfakoboiahbhaaaGreat.Ab


namespace Go.Proofs.YtfakoboiahbhaaaGreat.Ab
open Go
noncomputable def TK:fT :=
 pY [GC 5 [] (.yu 0 1 [.int .i64 0] []),pX 6 0,GC 7 [.jf 5,.jf 6] (.app 1 8),pX 2 7] .ret
noncomputable def TJ:fT :=
 pY [GC 2 [.lR (.ax [] 0 .full)] (.nil 1)] (.seq (pY [pZ 3 0, GC 4 [.Bs 3, .lR (.ax [] 0 .full)] (.other (Oper.mk (some 4) (Op.binOp .eql 38 (Operand.tmp 3) (Operand.const (Value.slice none 0 0)) 38) 4 "slices.go:357" (Array.mk [Edge.mk 0 Ground.data]) none) 0)] (.cond (.sl 4) (pY [GC 2 [.lR (.ax [] 0 .full)] (.nil 1)] .ret) .skip)) TK)
theorem WS:zD Go.Proofs.Tryz.prog Vh 75=some (TJ,8,[.tmp 2]):=by kernel_rfl
noncomputable def Tu:fT :=
 pY [pZ 17 6,qq 18 17 0 .neq] (.cond (.sl 18) (pY [pX 19 6,qa 4 0,pX 5 19] .ret) .skip)
noncomputable def Tx:fT :=
 pY [pZ 33 12,qq 34 33 0 .neq] (.cond (.sl 34) (pY [pX 35 12,qa 4 0,pX 5 35] .ret) .skip)
noncomputable def Ty:fT :=
 .oh true [pZ 42 7,pZ 43 7,qM 44 43,pZ 45 7,qM 46 45,GC 47 [.jf 42,.jf 44,.jf 46] (.Bg 1 false true true),qF 48 14 0,qc 49 48,GC 50 [.Bs 49] (.yu 1 1 [.int .i64 0] [0]),GC 51 [.jf 47,.jf 50] (.app 1 8),pX 7 51]
noncomputable def Tz:fT :=
 .block 3 (pY [GC 40 [.sl 36,.sl 38] (.kQ 2),GC 41 [.Bs 40] (.zx (.str 2)),GC 14 [] (.alloc [.int .i64 0,.int .i64 0]),⟨none,[.sl 14,.jf 41],none,none,.st 2⟩] Ty)
noncomputable def TA:fT :=
 pY [pX 36 9,GC 37 [.sl 36] .zC,qa 38 0] (.block 2 (.loop (some (p_ false [1,2,4,1,12,3,13,3,34])) (pY [GC 39 [.sl 38,.sl 37] (.bin .lss)] (.seq (.cond (.sl 39) .skip (.exit 2)) (.seq Tz (qv [qE 52 38 1,pX 38 52]))))))
noncomputable def TB:fT :=
 .seq (pY [GC 27 [.sl 2] (.zx (.str 2)),pZ 28 9,GC 29 [.lR (.func 18 [] []),.sl 27,.sl 28] (.call 3),pX 26 29,rA 30 26 0,rA 31 26 1,GC 32 [.Bs 26] (.ext 2),pX 10 30,pX 11 31,pX 12 32] Tx) TA
noncomputable def TC:fT :=
 .block 1 (pY [GC 24 [.sl 20,.sl 22] (.kQ 1),qc 25 24,pX 9 25] TB)
noncomputable def OK:fT :=
 pY [pX 65 7,qM 66 65,qF 67 2 1,qc 68 67,qM 69 68,qI 70 66 69 .lss,pX 64 70] (.cond (.sl 64) (pY [qa 4 0,qa 5 15] .ret) .skip)
noncomputable def Qk:fT :=
 .block 4 (pY [pZ 57 7,GC 58 [.lR (.func 75 [] []),.sl 57] (.call 0),GC 59 [.lR (.func 74 [] []),.jf 58] (.call 1),qM 60 59,pZ 61 7,qM 62 61,qI 63 60 62 .lss,pX 56 63] (.cond (.sl 56) (pY [qa 4 0,qa 5 11] .ret) OK))
noncomputable def Qj:fT :=
 pY [pX 71 1,qM 72 71,pX 4 72,qa 5 0] .ret
noncomputable def Tv:fT :=
 .seq (pY [pZ 20 1,GC 21 [.sl 20] .zC,qa 22 0] (.block 0 (.loop (some (p_ false [1,2,4,1,12,3,50])) (pY [GC 23 [.sl 22,.sl 21] (.bin .lss)] (.seq (.cond (.sl 23) .skip (.exit 0)) (.seq TC (qv [qE 53 22 1,pX 22 53]))))))) (pY [⟨some 54,[.jf 7],none,some 7,.Bq⟩,GC 55 [.lR (.func 73 [] []),.jf 54] (.call 1)] (.seq Qk Qj))
noncomputable def Tw:fT :=
 .seq (pY [GC 15 [.sl 2] (.zx (.str 2)),GC 16 [.lR (.func 20 [] []),.sl 15] (.call 3),pX 6 16] Tu) (pY [GC 7 [.lR (.ax [] 0 .full)] (.nil 1)] Tv)
noncomputable def Xq:fT :=
 pY [GC 2 [.jf 0] .box,qa 4 0,qa 5 0] Tw
theorem aeH:zD Go.Proofs.Tryz.prog U3 25=some (Xq,73,[.tmp 4,.tmp 5]):=by kernel_rfl
end Go.Proofs.YtfakoboiahbhaaaGreat.Ab


namespace Go.Proofs.YtfakoboiahbhaaaGreat.Ab
open Go
set_option maxRecDepth 20000
set_option maxHeartbeats 4000000
theorem Xv (z:I):∀ n:Nat,e5 n [z]=List.replicate n z
 | 0=>rfl
 | n+1=>by simp [e5,Xv z n,List.replicate_succ]
theorem acf (lo id off len:Nat) (H:List ar) (l:List I) (bB:lo≤id) (ah:H[id]?=some (.cells l)) (h:off+len≤l.length) :
  k3 Go.Proofs.Tryz.prog lo #[38] H [.ref id off len none 1]=some (.tuple [],H.set id (.cells (l.take off++List.replicate len (hU 0)++l.drop (off+len)))):=by
 have e1:((#[38]:Array TypeId)[0]?).bind Go.Proofs.Tryz.prog.underlying=some (.slice 3):=by kernel_rfl
 have b':bC Go.Proofs.Tryz.prog 3=some 1:=by kernel_rfl
 have du:zeroCells Go.Proofs.Tryz.prog 3=some [.int .i64 0]:=by kernel_rfl
 have lT:setCells off (e5 len [I.int .i64 0]) l=l.take off++List.replicate len (hU 0)++l.drop (off+len):=by
  apply List.ext_getElem?;intro j;rw [m3 _ _ _ _ (by rw [ih];simp;omega),ih,Xv];simp only [tZ,tJ];by_cases aw:j<off
  ·rw [if_neg (by omega),sD,sy (by simp;omega),List.getElem?_take_of_lt aw]
  ·by_cases fq:j<off+len
   ·rw [if_pos ⟨by omega,fq⟩,sy (by simp;omega),sJ (by simp;omega),vH,vH,ta,if_pos (by omega),if_pos (by omega)]
   ·rw [if_neg (by omega),sJ (by simp;omega),sZ];congr 1;simp;omega
 unfold k3;simp only [e1,b',du,hd,ah,sf,if_pos bB];rw [if_pos ⟨trivial,rfl,by decide⟩,if_pos (by omega),lT];rfl
section
variable {id lo:Nat} {H:List ar} {Jr:FuncId} {H6 cs:List I} {p:Int→Bool} {cur rest:List Int}
end

section
variable {id lo:Nat} {H:List ar}
theorem acj (l r:List Int) (aU:0<l.length) (ao:l.length≤1000) (ah:H[id]?=some (.cells ((l++r).map hU))) :
  Sem Go.Proofs.Tryz.prog (.fn 75) [.ref id 0 l.length none 1] H lo (.ax (l.map hU) l.length (.uniq 1)) H:=by
 refine HC eo WS rfl ⟨sd _,fun j _ _=>rfl⟩ fun Q bo=>?_;unfold TJ TK;conv=>whnf
 refine ⟨.bool false,H,fun C=>by kernel_rfl,?_⟩;conv=>whnf
 refine Es ah ?_;conv=>whnf
 refine ⟨by simp,?_⟩;rw [show List.map I.view (List.take (l.length*1) (List.drop 0 (List.map hU (l++r))))=l.map hU by rw [sV,tJ,s_,List.take_left' (by simp),tp];rfl];conv=>whnf
 refine ⟨by simp,by omega,rfl,by omega,?_⟩;conv=>whnf
 exact bo _ _ _ ⟨.inr rfl,⟨rfl,fun j o aw=>.inr aw⟩,by rw [Nat.zero_add];rfl⟩
end

end Go.Proofs.YtfakoboiahbhaaaGreat.Ab


namespace Go.Proofs.YtfakoboiahbhaaaGreat.Ab
open Go
set_option maxRecDepth 20000
set_option maxHeartbeats 4000000

end Go.Proofs.YtfakoboiahbhaaaGreat.Ab


namespace Go.Proofs.YtfakoboiahbhaaaGreat.Ab
open Go
set_option maxRecDepth 20000
set_option maxHeartbeats 4000000

section
variable {t:p5} {S:List Int} {H:List ar} {bi k:Nat} {at_ i:Int} {can out:Row} {Ko Kp Kq:I} {K:cz→List I→List ar→Prop}
end

end Go.Proofs.YtfakoboiahbhaaaGreat.Ab


namespace Go.Proofs.YtfakoboiahbhaaaGreat.Ab
open Go
set_option maxRecDepth 20000
set_option maxHeartbeats 4000000

end Go.Proofs.YtfakoboiahbhaaaGreat.Ab


namespace Go.Proofs.YtfakoboiahbhaaaGreat.Ab
open Go
set_option maxRecDepth 20000
set_option maxHeartbeats 4000000

end Go.Proofs.YtfakoboiahbhaaaGreat.Ab


namespace Go.Proofs.YtfakoboiahbhaaaGreat.Ab
open Go
set_option maxRecDepth 20000
set_option maxHeartbeats 4000000
noncomputable def Z2:fT :=
 pY [GC 1 [.jf 0] .box,GC 2 [.lR (.ax [] 0 .full)] (.nil 1),qa 3 0] (pY [GC 7 [.Bs 1] (.zx (.str 2)),GC 8 [.lR (.func 64 [] []),.sl 7] (.call 3),pX 6 8,rA 9 6 0,GC 10 [.Bs 6] (.ext 1),pX 4 9,pX 5 10] (.seq (pY [pZ 11 5,qq 12 11 0 .neq] (.cond (.sl 12) (pY [pX 13 5,GC 2 [.lR (.ax [] 0 .full)] (.nil 1),pX 3 13] .ret) .skip)) (pY [pX 14 4,GC 15 [.lR (.func 83 [] []),.sl 14] (.call 3),pX 2 15,qa 3 0] .ret)))
theorem ae0:zD Tryz.prog U6 41=some (Z2,16,[.tmp 2,.tmp 3]):=by kernel_rfl
def O2 (b:qe):Option (qz×Int) :=
 (Jn b).bind fun r1 =>
 match r1 with
 | (none,q1) =>
   if (decide (q1≠(0:Int)))=true then
    some ([],q1)
   else
    none
 | (some bR,q1) =>
   if (decide (q1≠(0:Int)))=true then
    some ([],q1)
   else
    (Kv bR).bind fun r2 =>
    some (r2,(0:Int))
theorem ajg {b:qe} {v:(qz×Int)} (h:O2 b=some v):qw 41 [(.agg [(hU b.1),(.ax (b.2.flatMap p2) b.2.length .shared)])] (.tuple [(.ax (v.1.map (qJ p2)) v.1.length .shared),(hU v.2)]):=by
 refine q7 eo ae0 rfl (Jb (p1 (rX (fun _=>(q8 (fun _=>(p1 rfl (p1 rfl rfl))) _ _ _)) _ _ _) (p1 rfl rfl))) fun Q bo=>?_;have jB:qK [.tmp 2,.tmp 3] Q (fun v=>(.tuple [(.ax (v.1.map (qJ p2)) v.1.length .shared),(hU v.2)])) v:=fun T H bH=>bo _ T H bH;unfold O2 at h;unfold Z2;conv=>whnf
 obtain ⟨r1,gD,h⟩:=qj h;rcases r1 with ⟨_ | bR,q1⟩
 ·refine ⟨ql.pl,_,J6 gD,?_⟩;conv=>whnf
  refine bs h (fun gE h=>?_) fun gE h=>?_
  ·rw [gE];(conv=>whnf);exact qd h jB rfl rfl
  ·rw [gE];(conv=>whnf);exact ri h
 ·refine ⟨ql.pl,_,J6 gD,?_⟩;conv=>whnf
  refine bs h (fun qo h=>?_) fun qo h=>?_
  ·rw [qo];(conv=>whnf);exact qd h jB rfl rfl
  ·rw [qo];(conv=>whnf);obtain ⟨r2,qS,h⟩:=qj h;refine ⟨ql.pl,_,ZE qS,?_⟩;(conv=>whnf);exact qd h jB rfl rfl

end Go.Proofs.YtfakoboiahbhaaaGreat.Ab


namespace Go.Proofs.YtfakoboiahbhaaaGreat.Ab
open Go
section
variable {b:p5}
def KX (b:p5):List Row:=(Kv b).getD []
theorem Np (p3:qA b):Kv b=some (KX b)∧MS b (KX b):=by
 obtain ⟨R,ad,af⟩:=ZA p3
 have:KX b=R:=by unfold KX;rw [ad];rfl
 rw [this];exact ⟨ad,af⟩
theorem ajf (ag:b.2.length≤1000):O2 b=some (if q4 b=0 then (KX b,0) else ([],q4 b)):=by
 rw [O2];by_cases h:q4 b=0
 ·have p3:=HU.1 h;rw [QK p3,sc,if_pos h];dsimp only;rw [if_neg (show ¬ decide ((0:Int)≠0)=true by decide),(Np p3).1,sc]
 ·rw [QJ ag h,sc,if_neg h];dsimp only;rw [if_pos (show decide (q4 b≠0)=true by simpa using h)]
theorem RowsOf.each {S:List Int} {R:List Row} (h:RowsOf b S R) (aN:S.Nodup) {r:Row} (aj:r∈R):(r.map (·.1)).Nodup∧r.length≤S.length:=by
 have zi:(r.map (·.1)).Sublist ((R.flatten).map (·.1)):=by
  refine List.Sublist.map _ ?_;obtain ⟨s,t,rfl⟩:=vT aj;simp
 have ad:=zi.length_le;rw [sX,h.all.length_eq] at ad;exact ⟨zi.nodup (h.all.nodup_iff.2 aN),ad⟩
theorem MS.short (p3:qA b) {R:List Row} (h:MS b R):R.length≤10∧∀ r∈R,r.length≤10:=by
 have di:=p3.len;refine ⟨?_,fun r aj=>?_⟩
 ·have ad:R.length≤R.flatten.length:=by
   have bN:=h.ne
   have:∀ l:List Row,(∀ r∈l,r≠[])→l.length≤l.flatten.length:=fun l=>by
    induction l with
    | nil=>intro _;simp
    | cons r l a9 =>
      intro ao;have ad:=List.length_pos_iff.2 (ao r (by simp));have af:=a9 fun q aZ=>ao q (by simp [aZ]);rw [ub,sr,sM];omega
   exact this R bN
  have af:=h.all.length_eq;rw [sX,Hx] at af;omega
 ·have:=(h.toRowsOf.each (J4 _) aj).2;rw [Hx] at this;omega
end
end Go.Proofs.YtfakoboiahbhaaaGreat.Ab


namespace Go.Proofs.YtfakoboiahbhaaaGreat.Ab
open Go
set_option maxRecDepth 20000
set_option maxHeartbeats 4000000
noncomputable def Z3:fT :=
 pY [GC 1 [.jf 0] .box,GC 2 [.lR (.bool false)] .mN] (pY [GC 3 [.sl 1] (.zx (.str 2)),GC 4 [.lR (.func 16 [] []),.sl 3] (.call 3),GC 5 [.Bs 4] (.un .not),pX 6 5,cR 7 [.Bs 1] 6 true (.zx (.str 2)),⟨some 8,[.lR (.func 21 [] []),.sl 7],some (6,true),none,.call 3⟩,cR 9 [.Bs 8,.lR (.int .i64 0)] 6 true (.bin .eql),GC 10 [.Bs 6,.Bs 9,.lR (.bool false)] .pick,pX 2 10] .ret)
theorem ae1:zD Tryz.prog U7 47=some (Z3,11,[.tmp 2]):=by kernel_rfl
def NA (b:qe):Option Bool :=
 (OU b).bind fun r1 =>
 if r1=true then
  some false
 else
  (J5 b).bind fun r2 =>
  some (decide (r2=(0:Int)))
theorem Zc {b:qe} {v:Bool} (h:NA b=some v):qw 47 [(.agg [(hU b.1),(.ax (b.2.flatMap p2) b.2.length .shared)])] (B v):=by
 refine q7 eo ae1 rfl rfl fun Q bo=>?_;have jB:qK [.tmp 2] Q (fun v=>(B v)) v:=fun T H bH=>bo _ T H bH;unfold NA at h;unfold Z3;conv=>whnf
 obtain ⟨r1,gD,h⟩:=qj h;refine ⟨ql.pl,_,aiM gD,?_⟩;conv=>whnf
 cases r1
 ·conv=>whnf
  replace h:=HX rfl h;obtain ⟨r2,gE,h⟩:=qj h;refine ⟨ql.pl,_,OY gE,?_⟩;conv=>whnf
  exact qd h jB rfl rfl
 ·conv=>whnf
  replace h:=HY rfl h;exact qd h jB rfl rfl

end Go.Proofs.YtfakoboiahbhaaaGreat.Ab


namespace Go.Proofs.YtfakoboiahbhaaaGreat.Ab
open Go
set_option maxRecDepth 20000
set_option maxHeartbeats 4000000
end Go.Proofs.YtfakoboiahbhaaaGreat.Ab


namespace Go.Proofs.YtfakoboiahbhaaaGreat.Ab
open Go
structure ajL (b:p5) (D:List Int) (n:Nat) (f t:Int) (r:Row):Prop where
 len:r.length=n
 run:qD b f r=some t
 ok:∀ p∈r,Hj b p=false∧ix D (qx b p)≤(n:Int)∧1≤ix D (qx b p)∧ix D (fin b p)=ix D (qx b p)-1
 down:r.Pairwise fun p q=>ix D (qx b q)<ix D (qx b p)
 first:∀ p l,r=p::l→qx b p=f
theorem acJ {b:p5} {wo f t:Int} {D:List Int} (h:MQ b wo t D) (aP:0≤f∧f<6):0≤ix D f↔rT b wo f t:=by
 refine ⟨fun ad=>?_,fun ⟨n,aN⟩=>(h.least n f aN.symm).2.2.1⟩;have:=h.walk f.toNat (by omega) (by rw [tS aP.1];exact ad);rw [tS aP.1] at this;exact ⟨_,this.symm⟩
theorem Zb (b:p5):NA b=some (decide (b.2.length≤14) && decide (q4 b=0)):=by
 rw [NA,OU,sc];by_cases h:(14:Int)<(b.2.length:Int)
 ·rw [if_pos (decide_eq_true h),decide_eq_false (by omega)];rfl
 ·rw [if_neg (by simpa using h),Uf b (by omega),sc,decide_eq_true (show b.2.length≤14 by omega)];rfl
theorem OW:JC=some true:=rfl
end Go.Proofs.YtfakoboiahbhaaaGreat.Ab


namespace Go.Proofs.YtfakoboiahbhaaaGreat.Ab
open Go
set_option maxRecDepth 20000
set_option maxHeartbeats 4000000

end Go.Proofs.YtfakoboiahbhaaaGreat.Ab


namespace Go.Proofs.YtfakoboiahbhaaaGreat.Ab
open Go
set_option maxRecDepth 20000
set_option maxHeartbeats 4000000
noncomputable def O':fT :=
 .cond (.sl 16) (pY [pX 17 5,GC 2 [.lR (.ax [] 0 .full)] (.nil 1),pX 3 17] .ret) .skip
noncomputable def Uv:fT :=
 .cond (.sl 35) (qv [pX 36 6,pX 37 7,GC 38 [.Bs 37] (.yu 1 1 [.int .i64 0] [0]),GC 39 [.jf 36,.jf 38] (.app 1 8),pX 6 39]) .skip
noncomputable def Q6:fT :=
 pY [qF 31 8 0,qc 32 31,GC 33 [.Bs 9,.Bs 32] (.zn 6 1),qc 34 33,qq 35 34 0 .lss] Uv
noncomputable def O9:fT :=
 pY [pZ 26 4,GC 27 [.sl 8] (.yG 1),qc 28 27,pZ 29 7,GC 30 [.lR (.func 81 [] []),.sl 26,.sl 28,.sl 29] (.call 3),GC 9 [] (.alloc [.int .i64 0,.int .i64 0,.int .i64 0,.int .i64 0,.int .i64 0,.int .i64 0]),⟨none,[.sl 9,.jf 30],none,none,.st 6⟩] Q6
noncomputable def O8:fT :=
 .oh false [qE 40 21 1,pX 21 40]
noncomputable def Pe:fT :=
 .seq (.block 1 (pY [pZ 23 21,GC 24 [.sl 19,.sl 21] (.kQ 2),GC 25 [.Bs 24] (.zx (.str 2)),GC 8 [] (.alloc [.int .i64 0,.int .i64 0]),pX 7 23,⟨none,[.sl 8,.jf 25],none,none,.st 2⟩] O9)) O8
noncomputable def Pd:fT :=
 .seq (.cond (.sl 22) .skip (.exit 0)) Pe
noncomputable def MM:fT :=
 .loop (some (p_ false [4,1,1,1,12,3,20])) (pY [GC 22 [.sl 21,.sl 20] (.bin .lss)] Pd)
noncomputable def Pc:fT :=
 .block 0 MM
noncomputable def Pb:fT :=
 pY [pX 41 6,pX 2 41,qa 3 0] .ret
noncomputable def Pa:fT :=
 .seq (pY [qF 18 1 1,qc 19 18,GC 20 [.sl 19] .zC,qa 21 0] Pc) Pb
noncomputable def O_:fT :=
 pY [GC 6 [.lR (.ax [] 0 .full)] (.nil 1)] Pa
noncomputable def Q7:fT :=
 .seq (pY [pZ 15 5,qq 16 15 0 .neq] O') O_
noncomputable def Uu:fT :=
 pY [GC 11 [.sl 1] (.zx (.str 2)),GC 12 [.lR (.func 64 [] []),.sl 11] (.call 3),pX 10 12,rA 13 10 0,GC 14 [.Bs 10] (.ext 1),pX 4 13,pX 5 14] Q7
noncomputable def Z0:fT :=
 pY [GC 1 [.jf 0] .box,GC 2 [.lR (.ax [] 0 .full)] (.nil 1),qa 3 0] Uu
theorem aeY:zD Tryz.prog Pn 31=some (Z0,42,[.tmp 2,.tmp 3]):=by kernel_rfl
def QH (b:qe) (qb:Unit→Option (p7×Int)):Nat→Option (p7×Int)
 | 0=>none
 | m+1 =>
   if (decide ((0:Int)<(b.2.length:Int)))=true then
    p9 (0≤(0:Int)∧(0:Int)<(b.2.length:Int)) <|
    none
   else
    qb ()
def LK (b bR:qe) (qt:p7→Option (p7×Int)):Nat→p7→Int→Option (p7×Int)
 | 0,_,_=>none
 | m+1,s1,s2 =>
   if (decide (s2<(b.2.length:Int)))=true then
    p9 (0≤s2∧s2<(b.2.length:Int)) <|
    (O6 bR ((ix b.2 s2).2) s2).bind fun r2 =>
    p9 (r2.length=6∧(List.replicate 6 (0:Int)).length=6) <|
    p9 (0≤(ix b.2 s2).1∧(ix b.2 s2).1<(6:Int)∧6=r2.length) <|
    if (decide ((ix r2 ((ix b.2 s2).1))<(0:Int)))=true then
     p9 ((s1.length+1)*8≤140737488355328) <|
     LK b bR qt m (s1++[s2]) (w (s2+(1:Int)))
    else
     LK b bR qt m s1 (w (s2+(1:Int)))
   else
    qt s1
def IX (b:qe):Option (p7×Int) :=
 (Jn b).bind fun r1 =>
 match r1 with
 | (none,q1) =>
   if (decide (q1≠(0:Int)))=true then
    some ([],q1)
   else
    QH b (fun _ =>
      some ([],(0:Int))) p'
 | (some bR,q1) =>
   if (decide (q1≠(0:Int)))=true then
    some ([],q1)
   else
    LK b bR (fun yg =>
      some (yg,(0:Int))) p' ([]:List Int) (0:Int)
theorem ajb {b:qe} {qb:Unit→Option (p7×Int)} {v:(p7×Int)} {Q:rM} {bD:ar}  (rI:∀ (p8:List I),qb ()=some v→rn 42 [(6,(.ax [] 0 (.uniq 1)))] p8→Q (.exit 0) p8 [bD]) {T:List I} (bW:eX (p_ false [4,1,1,1,12,3,20]) T=Hc 42 [(4,.eG),(6,(.ax [] 0 (.uniq 1))),(19,(p6 b.2 .shared)),(20,(hU (b.2.length:Int))),(21,(hU (0:Int)))]) (h:QH b qb p'  = some v) :
  dO Tryz.prog Pn 31 0 none MM T [bD] Q:=by
 unfold MM;obtain ⟨abZ,N9⟩:∃ c,Pd=c:=⟨_,rfl⟩;rw [N9];refine wp_loop bW ?_;refine .intro (fun m T H=>T=Hc 42 [(4,.eG),(6,(.ax [] 0 (.uniq 1))),(19,(p6 b.2 .shared)),(20,(hU (b.2.length:Int))),(21,(hU (0:Int)))]∧H=[bD]∧QH b qb m  = some v) p' ⟨rfl,rfl,h⟩ ?_;clear h bW;rintro m T H ⟨rfl,rfl,h⟩;cases m
 ·exact ri h
 rename_i m;rw [QH.eq_2] at h;conv=>whnf
 subst N9;unfold Pd;obtain ⟨ab0,N_⟩:∃ c,Pe=c:=⟨_,rfl⟩;rw [N_];conv=>whnf
 refine bs h (fun qo h=>?_) fun qo h=>?_
 ·rw [qo];conv=>whnf
  subst N_;unfold Pe;obtain ⟨abT,N4⟩:∃ c,O8=c:=⟨_,rfl⟩;rw [N4];obtain ⟨abU,N5⟩:∃ c,O9=c:=⟨_,rfl⟩;rw [N5];conv=>whnf
  refine qs h id fun qS h=>?_;rw [q' p2 2 qy b.2 (0:Int) qS];conv=>whnf
  subst N5;unfold O9;obtain ⟨abV,PG⟩:∃ c,Q6=c:=⟨_,rfl⟩;rw [PG];conv=>whnf
  exact ri h
 ·rw [qo];conv=>whnf
  exact rI  _ h ⟨rfl,rfl⟩
theorem ajc {b:qe} {bR:qe} {qt:p7→Option (p7×Int)} {s1:p7} {s2:Int} {v:(p7×Int)} {Q:rM} {bD:ar}  (HK:∀ (yg:p7) (rB:List ar) (p8:List I),qt yg=some v→rn 42 [(6,(qi yg (.uniq 1)))] p8→Q (.exit 0) p8 (bD::rB)) {T:List I} (bW:eX (p_ false [4,1,1,1,12,3,20]) T=Hc 42 [(4,(.bT [(hU bR.1),(p6 bR.2 .shared)])),(6,(qi s1 (.uniq 1))),(19,(p6 b.2 .shared)),(20,(hU (b.2.length:Int))),(21,(hU s2))]) (h:LK b bR qt p' s1 s2=some v) :
  dO Tryz.prog Pn 31 0 none MM T [bD] Q:=by
 unfold MM;obtain ⟨abZ,N9⟩:∃ c,Pd=c:=⟨_,rfl⟩;rw [N9];refine wp_loop bW ?_;refine .intro (fun m T H=>∃ (s1:p7) (s2:Int) (UK:List ar),T=Hc 42 [(4,(.bT [(hU bR.1),(p6 bR.2 .shared)])),(6,(qi s1 (.uniq 1))),(19,(p6 b.2 .shared)),(20,(hU (b.2.length:Int))),(21,(hU s2))]∧H=(bD::UK)∧LK b bR qt m s1 s2=some v) p' ⟨s1,s2,[],rfl,rfl,h⟩ ?_;clear h bW;rintro m T H ⟨s1,s2,UK,rfl,rfl,h⟩;cases m
 ·exact ri h
 rename_i m;rw [LK.eq_2] at h;conv=>whnf
 subst N9;unfold Pd;obtain ⟨ab0,N_⟩:∃ c,Pe=c:=⟨_,rfl⟩;rw [N_];conv=>whnf
 refine bs h (fun rJ h=>?_) fun rJ h=>?_
 ·rw [rJ];conv=>whnf
  subst N_;unfold Pe;obtain ⟨abT,N4⟩:∃ c,O8=c:=⟨_,rfl⟩;rw [N4];obtain ⟨abU,N5⟩:∃ c,O9=c:=⟨_,rfl⟩;rw [N5];conv=>whnf
  refine qs h id fun ra h=>?_;rw [q' p2 2 qy b.2 s2 ra];conv=>whnf
  refine Es (x:=ar.cells [(hU (0:Int)),(hU (0:Int))]) (by first | exact qn.h | rfl | (simp [se,I.settle];done)) ?_
  conv=>whnf
  rw [rK];subst N5;unfold O9;obtain ⟨abV,PG⟩:∃ c,Q6=c:=⟨_,rfl⟩;rw [PG];conv=>whnf
  refine Es (x:=ar.cells [(hU (ix b.2 s2).1),(hU (ix b.2 s2).2)]) (by first | exact qn.h | rfl | (simp [se,I.settle];done)) ?_
  conv=>whnf
  obtain ⟨r2,q_,h⟩:=qj h;refine ⟨ql.pl,_,ajv q_,?_⟩;conv=>whnf
  obtain ⟨rp,h⟩:=qB h;refine Es (x:=ar.cells ((List.replicate 6 (0:Int)).map hU)) (by first | exact qn.h | rfl | (simp [se,I.settle];done)) ?_
  conv=>whnf
  try rw [show List.map I.gY (List.map hU r2)=List.map hU r2 from by rw [tp];rfl]
  first | (refine XU hU r2 (n:=6) (l:=(List.replicate 6 (0:Int))) (sC _) (fun _=>rfl) (by first | exact qn.h | rfl | (simp [se,I.settle];done)) rp.1 rp.2 (by decide) ?_) | (rw [show Nat.beq (List.map hU r2).length 6=true from by rw [sX,rp.1] <;> exact Nat.beq_refl _];refine T5 hU (List.replicate 6 (0:Int)) r2 (fun _=>rfl) (by rw [rp.1,rp.2]) ?_)
  conv=>whnf
  rw [rK];conv=>whnf
  subst PG;unfold Q6;obtain ⟨aj2,V7⟩:∃ c,Uv=c:=⟨_,rfl⟩;rw [V7];conv=>whnf
  refine Es (x:=ar.cells [(hU (ix b.2 s2).1),(hU (ix b.2 s2).2)]) (by first | exact qn.h | rfl | (simp [se,I.settle];done)) ?_
  conv=>whnf
  obtain ⟨qP,h⟩:=qB h;refine ⟨⟨qP.1,qP.2.1⟩,?_⟩;replace qP:0≤(ix b.2 s2).1∧(ix b.2 s2).1<(r2.length:Int):=⟨qP.1,by have:=qP.2;omega⟩;conv=>whnf
  refine Es (x:=ar.cells (r2.map hU)) (by first | exact qn.h | rfl | (simp [se,I.settle];done)) ?_
  conv=>whnf
  refine KW hU r2 ((ix b.2 s2).1) qP ?_;conv=>whnf
  subst V7;unfold Uv;conv=>whnf
  refine bs h (fun rO h=>?_) fun rO h=>?_
  ·rw [rO];(conv=>whnf);obtain ⟨rz,h⟩:=qB h;refine ⟨by first | rfl | simp,by have:=rz;omega,rfl,rz,?_⟩
   erw [LV hU s1 s2];(conv=>whnf);subst N4;unfold O8;(conv=>whnf);exact ⟨m,su m,(s1++[s2]),(w (s2+(1:Int))),_,rfl,rfl,h⟩
  ·rw [rO];(conv=>whnf);subst N4;unfold O8;(conv=>whnf);exact ⟨m,su m,s1,(w (s2+(1:Int))),_,rfl,rfl,h⟩
 ·rw [rJ];conv=>whnf
  exact HK _ _ _ h ⟨rfl,rfl⟩
theorem Ui {b:qe} {v:(p7×Int)} (h:IX b=some v):qw 31 [(.agg [(hU b.1),(.ax (b.2.flatMap p2) b.2.length .shared)])] (.tuple [(.ax (v.1.map hU) v.1.length .shared),(hU v.2)]):=by
 refine q7 eo aeY rfl (Jb (p1 (rX (fun _=>rfl) _ _ _) (p1 rfl rfl))) fun Q bo=>?_;have jB:qK [.tmp 2,.tmp 3] Q (fun v=>(.tuple [(qi v.1 .shared),(hU v.2)])) v:=fun T H bH=>bo _ T H bH;unfold IX at h;unfold Z0;obtain ⟨HV,qO⟩:∃ c,Uu=c:=⟨_,rfl⟩;rw [qO];conv=>whnf
 subst qO;unfold Uu;obtain ⟨KD,r0⟩:∃ c,Q7=c:=⟨_,rfl⟩;rw [r0];conv=>whnf
 obtain ⟨r1,gD,h⟩:=qj h;rcases r1 with ⟨_ | bR,q1⟩
 ·refine ⟨ql.pl,_,J6 gD,?_⟩;conv=>whnf
  subst r0;unfold Q7;obtain ⟨Ps,Ip⟩:∃ c,O_=c:=⟨_,rfl⟩;rw [Ip];obtain ⟨Vv,II⟩:∃ c,O'=c:=⟨_,rfl⟩;rw [II];conv=>whnf
  subst II;unfold O';conv=>whnf
  refine bs h (fun gE h=>?_) fun gE h=>?_
  ·rw [gE];(conv=>whnf);exact qd h jB rfl rfl
  ·rw [gE];(conv=>whnf);subst Ip;unfold O_;obtain ⟨Vw,KF⟩:∃ c,Pa=c:=⟨_,rfl⟩;rw [KF];(conv=>whnf);subst KF;unfold Pa;obtain ⟨abX,N7⟩:∃ c,Pb=c:=⟨_,rfl⟩;rw [N7];obtain ⟨abY,N8⟩:∃ c,Pc=c:=⟨_,rfl⟩;rw [N8];(conv=>whnf);subst N8;unfold Pc;obtain ⟨abW,N6⟩:∃ c,MM=c:=⟨_,rfl⟩;rw [N6];(conv=>whnf);subst N6;refine ajb ?_ (by exact rfl) h;intro  p8 h qm;obtain ⟨rf,rfl⟩:=qm.ex;(conv=>whnf);subst N7;unfold Pb;(conv=>whnf);exact qd h jB rfl rfl
 ·refine ⟨ql.pl,_,J6 gD,?_⟩;conv=>whnf
  subst r0;unfold Q7;obtain ⟨Ps,Ip⟩:∃ c,O_=c:=⟨_,rfl⟩;rw [Ip];obtain ⟨Vv,II⟩:∃ c,O'=c:=⟨_,rfl⟩;rw [II];conv=>whnf
  subst II;unfold O';conv=>whnf
  refine bs h (fun qY h=>?_) fun qY h=>?_
  ·rw [qY];(conv=>whnf);exact qd h jB rfl rfl
  ·rw [qY];(conv=>whnf);subst Ip;unfold O_;obtain ⟨Vw,KF⟩:∃ c,Pa=c:=⟨_,rfl⟩;rw [KF];(conv=>whnf);subst KF;unfold Pa;obtain ⟨abX,N7⟩:∃ c,Pb=c:=⟨_,rfl⟩;rw [N7];obtain ⟨abY,N8⟩:∃ c,Pc=c:=⟨_,rfl⟩;rw [N8];(conv=>whnf);subst N8;unfold Pc;obtain ⟨abW,N6⟩:∃ c,MM=c:=⟨_,rfl⟩;rw [N6];(conv=>whnf);subst N6;refine ajc ?_ (by exact rfl) h;intro yg rB p8 h qm;obtain ⟨rf,rfl⟩:=qm.ex;(conv=>whnf);subst N7;unfold Pb;(conv=>whnf);exact qd h jB rfl rfl

def QO (b:qe) (r3:Int):Option Bool :=
 (Un b r3).bind fun r1 =>
 p9 (0≤r3∧r3<(b.2.length:Int)) <|
 p9 (0≤(ix b.2 r3).1∧(ix b.2 r3).1<(r1.length:Int)) <|
 p9 (0≤r3∧r3<(b.2.length:Int)) <|
 p9 (0≤(ix b.2 r3).2∧(ix b.2 r3).2<(r1.length:Int)) <|
 some (decide ((ix r1 ((ix b.2 r3).1))≠(ix r1 ((ix b.2 r3).2))))

end Go.Proofs.YtfakoboiahbhaaaGreat.Ab


namespace Go.Proofs.YtfakoboiahbhaaaGreat.Ab
open Go
section
variable {b:p5}
def OC (b:p5):List (List Int)×Int:=if q4 b=0 then (parts b,0) else ([],q4 b)
theorem W9 (p3:qA b):OC b=(parts b,0):=by unfold OC;rw [if_pos (HU.2 p3)]
theorem afH (h:q4 b≠0):OC b=([],q4 b):=by unfold OC;rw [if_neg h]
theorem ai_ (ag:b.2.length≤1000):O0 b=some (OC b):=by
 rw [O0];by_cases h:q4 b=0
 ·have p3:=HU.1 h;rw [QK p3,sc,W9 p3];dsimp only;rw [if_neg (by simp),Zs ag,sc,(J7 p3).1,sc]
 ·rw [QJ ag h,sc,afH h];dsimp only;rw [if_pos (by simpa using h)]
def Ic (b:p5) (i:Int):Bool:=(QO b i).getD false
theorem Ow (p3:qA b) {i:Int} (hi:0≤i∧i<(b.2.length:Int)):QO b i=some (Ic b i)∧(Ic b i=true↔¬ rT b i (ix b.2 i).1 (ix b.2 i).2):=by
 obtain ⟨N,CC,qZ⟩:=ajj p3 i;obtain ⟨n,rfl⟩:∃ n:Nat,i=n:=⟨i.toNat,by omega⟩;have ai:=J2 p3 (i:=n) (by omega);have ao:=qZ.len;have e:QO b (n:Int)=some (decide (ix N (ix b.2 (n:Int)).1≠ix N (ix b.2 (n:Int)).2)):=by
  rw [QO,CC,sc,qg hi,qg ⟨ai.1,by omega⟩,qg hi,qg ⟨ai.2.2.1,by omega⟩]
 refine ⟨by unfold Ic;rw [e];rfl,?_⟩;unfold Ic;rw [e];show decide _=true↔_;rw [decide_eq_true_eq];exact not_congr (qZ.iff ⟨ai.1,ai.2.1⟩ ⟨ai.2.2.1,ai.2.2.2⟩)
def KR (b:p5):List Int:=(upto b.2.length).filter (Ic b)
theorem WB:(KR b).length≤b.2.length:=by
 have:=tQ (Ic b) (upto b.2.length)
 rwa [Hx] at this
def Ox (b:p5):List Int×Int:=if q4 b=0 then (KR b,0) else ([],q4 b)
theorem P4 (p3:qA b):Ox b=(KR b,0):=by unfold Ox;rw [if_pos (HU.2 p3)]
theorem aew (h:q4 b≠0):Ox b=([],q4 b):=by unfold Ox;rw [if_neg h]
theorem Za (p3:qA b) {k:List Int→Option (List Int×Int)}:∀ (m i:Nat) (z:Int),z=i→i≤b.2.length→b.2.length-i<m→LK b b k m ((upto i).filter (Ic b)) z=k (KR b)
 | 0,_,_,_,_,h=>absurd h (by omega)
 | m+1,i,_,rfl,hi,hm=>by
   rw [LK];have di:=p3.len;have bS:=p3.f6;by_cases h:(i:Int)<(b.2.length:Int)
   ·have ao:=tQ (Ic b) (upto i);rw [Hx] at ao;have a9:=Za (k:=k) p3 m (i+1) _ rfl (by omega) (by omega);rw [T6] at a9;have ai:=J2 p3 (i:=i) (by omega);obtain ⟨D,ak,qZ⟩:=Zx p3 (wo:=(i:Int)) (to:=(ix b.2 (i:Int)).2) ⟨ai.2.2.1,ai.2.2.2⟩;have al:=acJ qZ (f:=(ix b.2 (i:Int)).1) ⟨ai.1,by omega⟩;have aw:=(Ow p3 (i:=(i:Int)) ⟨by omega,h⟩).2;rw [if_pos (decide_eq_true h),qg ⟨by omega,h⟩,ak,sc,qg ⟨qZ.len,by simp⟩,qg ⟨ai.1,by omega,qZ.len.symm⟩,rG i (by omega)];by_cases aP:ix D (ix b.2 (i:Int)).1<0
    ·(have adM:Ic b (i:Int)=true:=aw.2 fun CP=>by have:=al.2 CP;omega);rw [adM,if_pos rfl] at a9;rw [if_pos (decide_eq_true aP),qg (by omega)];exact a9
    ·have adL:Ic b (i:Int)=false:=by
      cases e:Ic b (i:Int) with
      | false=>rfl
      | true=>exact absurd (al.1 (by omega)) (aw.1 e)
     rw [adL,if_neg (by decide),sW] at a9;rw [if_neg (by simpa using aP)];exact a9
   ·rw [if_neg (by simpa using h),show i=b.2.length by omega];rfl
theorem Uh (ag:b.2.length≤1000):IX b=some (Ox b):=by
 rw [IX];by_cases h:q4 b=0
 ·have p3:=HU.1 h;rw [QK p3,sc,P4 p3];dsimp only;rw [if_neg (by simp)];exact Za p3 p' 0 0 rfl (by omega) (rL (by omega))
 ·rw [QJ ag h,sc,aew h];dsimp only;rw [if_pos (by simpa using h)]
end
end Go.Proofs.YtfakoboiahbhaaaGreat.Ab


namespace Go.Proofs.YtfakoboiahbhaaaGreat.Ab
open Go
set_option maxRecDepth 20000
set_option maxHeartbeats 4000000
noncomputable def Q8:fT :=
 .loop (some (p_ false [4,1,1,4,73])) (.seq (pY [pZ 36 9,pZ 37 4,pZ 38 8,qL 39 37 38 1,qc 40 39,qM 41 40,qI 42 36 41 .lss] (.cond (.sl 42) .skip (.exit 2))) (.seq (.block 3 (pY [pZ 45 4,pZ 46 8,qL 47 45 46 1,qc 48 47,pZ 49 9,qL 50 48 49 1,qc 51 50,pX 10 51] (.seq (pY [pZ 52 10,qq 53 52 0 .lss,pX 54 53,cR 55 [.sl 10] 54 false .mN,cR 56 [.sl 6] 54 false .mN,cR 57 [.jf 56] 54 false .zC,cR 58 [.Bs 55,.Bs 57] 54 false (.bin .geq),GC 59 [.Bs 54,.lR (.bool true),.Bs 58] .pick,pX 60 59,cR 61 [.sl 6] 60 false .mN,cR 62 [.sl 10] 60 false .mN,cR 63 [.Bs 61,.Bs 62] 60 false (.kQ 1),cR 64 [.Bs 63] 60 false (.zx .one),cR 65 [.Bs 64,.lR (.int .i64 0)] 60 false (.bin .gtr),GC 66 [.Bs 60,.lR (.bool true),.Bs 65] .pick] (.cond (.sl 66) (pY [GC 2 [.lR (.ax [] 0 .full)] (.nil 1),GC 3 [.lR (.bool false)] .mN] .ret) .skip)) (pY [pZ 67 6,pX 68 10,qL 69 67 68 1,⟨none,[.jf 69,.lR (.int .i64 1)],none,none,.st 1⟩] (qv [pX 70 7,qE 71 70 1,pX 7 71]))))) (qv [pX 43 9,qE 44 43 1,pX 9 44])))
noncomputable def Q9:fT :=
 .loop (some (p_ false [4,1,1,3,74])) (.seq (pY [pZ 30 8,pZ 31 4,qM 32 31,qI 33 30 32 .lss] (.cond (.sl 33) .skip (.exit 0))) (.seq (.block 1 (.seq (pY [qa 9 0] (.block 2 Q8)) (pY [pZ 72 4,pZ 73 8,qL 74 72 73 1,qc 75 74,qM 76 75,qq 77 76 0 .eql] (.cond (.sl 77) (pY [GC 2 [.lR (.ax [] 0 .full)] (.nil 1),GC 3 [.lR (.bool false)] .mN] .ret) .skip)))) (qv [pX 34 8,qE 35 34 1,pX 8 35])))
noncomputable def Z5:fT :=
 pY [GC 1 [.jf 0] .box,GC 2 [.lR (.ax [] 0 .full)] (.nil 1),GC 3 [.lR (.bool false)] .mN] (pY [GC 12 [.sl 1] (.zx (.str 2)),GC 13 [.lR (.func 29 [] []),.sl 12] (.call 3),pX 11 13,rA 14 11 0,GC 15 [.Bs 11] (.ext 1),pX 4 14,pX 5 15] (.seq (pY [pX 16 5,qq 17 16 0 .neq,pX 18 17,cR 19 [.sl 4] 18 false .mN,cR 20 [.jf 19] 18 false .zC,cR 21 [.sl 1] 18 false (.yG 1),cR 22 [.Bs 21] 18 false (.zx .one),cR 23 [.jf 22] 18 false .zC,cR 24 [.Bs 20,.Bs 23] 18 false (.bin .gtr),GC 25 [.Bs 18,.lR (.bool true),.Bs 24] .pick] (.cond (.sl 25) (pY [GC 2 [.lR (.ax [] 0 .full)] (.nil 1),GC 3 [.lR (.bool false)] .mN] .ret) .skip)) (pY [qF 26 1 1,qc 27 26,qM 28 27,GC 29 [.sl 28,.Bs 28] (.zU [.int .i64 0] 1 8),pX 6 29] (pY [qa 7 0] (.seq (pY [qa 8 0] (.block 0 Q9)) (pY [pX 78 4,pX 79 7,pX 80 6,qM 81 80,qI 82 79 81 .eql,pX 2 78,pX 3 82] .ret))))))
theorem ae3:zD Tryz.prog Po 49=some (Z5,83,[.tmp 2,.tmp 3]):=by kernel_rfl
def MA (b:qe) (r1:(r7×Int)) (s2:Int) (qt:Int→p7→Option (r7×Bool)):Nat→Int→Int→p7→Option (r7×Bool)
 | 0,_,_,_=>none
 | m+1,G',qh,qp =>
   p9 (0≤s2∧s2<(r1.1.length:Int)) <|
   if (decide (qh<((ix r1.1 s2).length:Int)))=true then
    p9 (0≤s2∧s2<(r1.1.length:Int)) <|
    p9 (0≤qh∧qh<((ix r1.1 s2).length:Int)) <|
    if (decide ((ix (ix r1.1 s2) qh)<(0:Int)))=true then
     some ([],false)
    else
     if (decide ((((b.2.length:Int).toNat:Nat):Int)≤(ix (ix r1.1 s2) qh)))=true then
      some ([],false)
     else
      p9 (0≤(ix (ix r1.1 s2) qh)∧(ix (ix r1.1 s2) qh)<(((b.2.length:Int).toNat:Nat):Int)∧(b.2.length:Int).toNat=qp.length) <|
      if (decide ((0:Int)<(ix qp (ix (ix r1.1 s2) qh))))=true then
       some ([],false)
      else
       p9 (0≤(ix (ix r1.1 s2) qh)∧(ix (ix r1.1 s2) qh)<(((b.2.length:Int).toNat:Nat):Int)∧(b.2.length:Int).toNat=qp.length) <|
       MA b r1 s2 qt m (w (G'+(1:Int))) (w (qh+(1:Int))) (qp.set (ix (ix r1.1 s2) qh).toNat (1:Int))
   else
    qt G' qp
def LL (b:qe) (r1:(r7×Int)) (qb:Int→p7→Option (r7×Bool)):Nat→Int→Int→p7→Option (r7×Bool)
 | 0,_,_,_=>none
 | m+1,s1,s2,s3 =>
   if (decide (s2<(r1.1.length:Int)))=true then
    MA b r1 s2 (fun yg oH =>
      p9 (0≤s2∧s2<(r1.1.length:Int)) <|
      if (decide (((ix r1.1 s2).length:Int)=(0:Int)))=true then
       some ([],false)
      else
       LL b r1 qb m yg (w (s2+(1:Int))) oH) p' s1 (0:Int) s3
   else
    qb s1 s3
def IZ (b:qe):Option (r7×Bool) :=
 (O0 b).bind fun r1 =>
 if (decide (r1.2≠(0:Int)))=true then
  some ([],false)
 else
  if (decide ((b.2.length:Int)<(r1.1.length:Int)))=true then
   some ([],false)
  else
   p9 (0≤(b.2.length:Int)∧(b.2.length:Int)≤(b.2.length:Int)∧(b.2.length:Int).toNat*8≤140737488355328) <|
   LL b r1 (fun Gx Pf =>
     some (r1.1,(decide (Gx=(((b.2.length:Int).toNat:Nat):Int))))) p' (0:Int) (0:Int) (List.replicate (b.2.length:Int).toNat (0:Int))
theorem aji {b:qe} {r1:(r7×Int)} {s2:Int} {qt:Int→p7→Option (r7×Bool)} {G':Int} {qh:Int} {qp:p7} {v:(r7×Bool)} {Q:rM} {bD:ar}  (jB:qK [.tmp 2,.tmp 3] Q (fun v=>(.tuple [(.ax (v.1.map oL) v.1.length .shared),(B v.2)])) v) (HK:∀ (yg:Int) (oH:p7) (p8:List I),qt yg oH=some v→rn 83 [(4,(.ax (r1.1.map oL) r1.1.length .shared)),(6,(.ref 1 0 (b.2.length:Int).toNat (some (b.2.length:Int).toNat) 1)),(7,(hU yg)),(8,(hU s2))] p8→Q (.exit 2) p8 [bD,ar.cells (oH.map hU)]) {T:List I} (bW:eX (p_ false [4,1,1,4,73]) T=Hc 83 [(4,(.ax (r1.1.map oL) r1.1.length .shared)),(6,(.ref 1 0 (b.2.length:Int).toNat (some (b.2.length:Int).toNat) 1)),(7,(hU G')),(8,(hU s2)),(9,(hU qh))]) (h:MA b r1 s2 qt p' G' qh qp=some v) :
  dO Tryz.prog Po 49 0 none Q8 T [bD,ar.cells (qp.map hU)] Q:=by
 unfold Q8;refine wp_loop bW ?_;refine .intro (fun m T H=>∃ (G' qh:Int) (qp:p7),T=Hc 83 [(4,(.ax (r1.1.map oL) r1.1.length .shared)),(6,(.ref 1 0 (b.2.length:Int).toNat (some (b.2.length:Int).toNat) 1)),(7,(hU G')),(8,(hU s2)),(9,(hU qh))]∧H=[bD,ar.cells (qp.map hU)]∧MA b r1 s2 qt m G' qh qp=some v) p' ⟨G',qh,qp,rfl,rfl,h⟩ ?_;clear h bW;rintro m T H ⟨G',qh,qp,rfl,rfl,h⟩;cases m
 ·exact ri h
 rename_i m;rw [MA.eq_2] at h;conv=>whnf
 refine qs h id fun rJ h=>?_;rw [Hh oL r1.1 s2 rJ];conv=>whnf
 refine bs h (fun ra h=>?_) fun ra h=>?_
 ·rw [ra];conv=>whnf
  refine qs h id fun q_ h=>?_;rw [Hh oL r1.1 s2 q_];conv=>whnf
  refine qs h id fun rp h=>?_;rw [Hh hU (ix r1.1 s2) qh rp];conv=>whnf
  refine bs h (fun qP h=>?_) fun qP h=>?_
  ·rw [qP];(conv=>whnf);exact qd h jB rfl rfl
  ·rw [qP];(conv=>whnf);refine bs h (fun rO h=>?_) fun rO h=>?_
   ·rw [rO];(conv=>whnf);exact qd h jB rfl rfl
   ·rw [rO];(conv=>whnf);obtain ⟨rz,h⟩:=qB h;refine ⟨⟨rz.1,rz.2.1⟩,?_⟩;replace rz:0≤(ix (ix r1.1 s2) qh)∧(ix (ix r1.1 s2) qh)<(qp.length:Int):=⟨rz.1,by have:=rz.2;omega⟩;(conv=>whnf);refine KW hU qp (ix (ix r1.1 s2) qh) rz ?_;(conv=>whnf);refine bs h (fun rC h=>?_) fun rC h=>?_
    ·rw [rC];(conv=>whnf);exact qd h jB rfl rfl
    ·rw [rC];(conv=>whnf);obtain ⟨r4,h⟩:=qB h;refine ⟨⟨r4.1,r4.2.1⟩,?_⟩;replace r4:0≤(ix (ix r1.1 s2) qh)∧(ix (ix r1.1 s2) qh)<(qp.length:Int):=⟨r4.1,by have:=r4.2;omega⟩;(conv=>whnf);refine LH hU qp (ix (ix r1.1 s2) qh) (1:Int) r4 ?_;(conv=>whnf);exact ⟨m,su m,(w (G'+(1:Int))),(w (qh+(1:Int))),(qp.set (ix (ix r1.1 s2) qh).toNat (1:Int)),rfl,rfl,h⟩
 ·rw [ra];conv=>whnf
  exact HK _ _ _ h ⟨rfl,rfl⟩
theorem ajh {b:qe} {r1:(r7×Int)} {qb:Int→p7→Option (r7×Bool)} {s1:Int} {s2:Int} {s3:p7} {v:(r7×Bool)} {Q:rM} {bD:ar}  (jB:qK [.tmp 2,.tmp 3] Q (fun v=>(.tuple [(.ax (v.1.map oL) v.1.length .shared),(B v.2)])) v) (rI:∀ (Gx:Int) (Pf:p7) (p8:List I),qb Gx Pf=some v→rn 83 [(4,(.ax (r1.1.map oL) r1.1.length .shared)),(6,(.ref 1 0 (b.2.length:Int).toNat (some (b.2.length:Int).toNat) 1)),(7,(hU Gx))] p8→Q (.exit 0) p8 [bD,ar.cells (Pf.map hU)]) {T:List I} (bW:eX (p_ false [4,1,1,3,74]) T=Hc 83 [(4,(.ax (r1.1.map oL) r1.1.length .shared)),(6,(.ref 1 0 (b.2.length:Int).toNat (some (b.2.length:Int).toNat) 1)),(7,(hU s1)),(8,(hU s2))]) (h:LL b r1 qb p' s1 s2 s3=some v) :
  dO Tryz.prog Po 49 0 none Q9 T [bD,ar.cells (s3.map hU)] Q:=by
 unfold Q9;obtain ⟨HV,qO⟩:∃ c,Q8=c:=⟨_,rfl⟩;rw [qO];refine wp_loop bW ?_;refine .intro (fun m T H=>∃ (s1 s2:Int) (s3:p7),T=Hc 83 [(4,(.ax (r1.1.map oL) r1.1.length .shared)),(6,(.ref 1 0 (b.2.length:Int).toNat (some (b.2.length:Int).toNat) 1)),(7,(hU s1)),(8,(hU s2))]∧H=[bD,ar.cells (s3.map hU)]∧LL b r1 qb m s1 s2 s3=some v) p' ⟨s1,s2,s3,rfl,rfl,h⟩ ?_;clear h bW;rintro m T H ⟨s1,s2,s3,rfl,rfl,h⟩;cases m
 ·exact ri h
 rename_i m;rw [LL.eq_2] at h;conv=>whnf
 refine bs h (fun qY h=>?_) fun qY h=>?_
 ·rw [qY];conv=>whnf
  subst qO;refine aji ?_ ?_ (by exact rfl) h
  ·exact fun T H bH=>jB T H bH
  ·intro yg oH p8 h qm;obtain ⟨rf,rfl⟩:=qm.ex;(conv=>whnf);refine qs h id fun I8 h=>?_;rw [Hh oL r1.1 s2 I8];(conv=>whnf);refine bs h (fun Hz h=>?_) fun Hz h=>?_
   ·rw [Hz];(conv=>whnf);exact qd h jB rfl rfl
   ·rw [Hz];(conv=>whnf);exact ⟨m,su m,yg,(w (s2+(1:Int))),oH,rfl,rfl,h⟩
 ·rw [qY];conv=>whnf
  exact rI _ _ _ h ⟨rfl,rfl⟩
theorem Um {b:qe} {v:(r7×Bool)} (h:IZ b=some v):qw 49 [(.agg [(hU b.1),(.ax (b.2.flatMap p2) b.2.length .shared)])] (.tuple [(.ax (v.1.map oL) v.1.length .shared),(B v.2)]):=by
 refine q7 eo ae3 rfl (Jb (p1 (rX (fun _=>(rX (fun _=>rfl) _ _ _)) _ _ _) (p1 rfl rfl))) fun Q bo=>?_;have jB:qK [.tmp 2,.tmp 3] Q (fun v=>(.tuple [(.ax (v.1.map oL) v.1.length .shared),(B v.2)])) v:=fun T H bH=>bo _ T H bH;unfold IZ at h;unfold Z5;obtain ⟨KD,r0⟩:∃ c,Q9=c:=⟨_,rfl⟩;rw [r0];conv=>whnf
 obtain ⟨r1,gD,h⟩:=qj h;refine ⟨ql.pl,_,aja gD,?_⟩;conv=>whnf
 refine bs h (fun gE h=>?_) fun gE h=>?_
 ·rw [gE];conv=>whnf
  exact qd h jB rfl rfl
 ·rw [gE];conv=>whnf
  refine bs h (fun qo h=>?_) fun qo h=>?_
  ·rw [qo];(conv=>whnf);exact qd h jB rfl rfl
  ·rw [qo];(conv=>whnf);obtain ⟨qS,h⟩:=qB h;refine ⟨qS.1,qS.2.1,qS.2.2,?_⟩;rw [Xw hU (0:Int)];(conv=>whnf);subst r0;refine ajh ?_ ?_ (by exact rfl) h
   ·exact fun T H bH=>jB T H bH
   ·intro Gx Pf p8 h qm;obtain ⟨rf,rfl⟩:=qm.ex;(conv=>whnf);exact qd h jB rfl rfl

end Go.Proofs.YtfakoboiahbhaaaGreat.Ab


namespace Go.Proofs.YtfakoboiahbhaaaGreat.Ab
open Go
section
variable {b:p5}
def IU (n:Nat) (S:List Int):List Int:=(upto n).map fun x=>if x∈S then 1 else 0
theorem Nq (n:Nat) (S:List Int):(IU n S).length=n:=by rw [IU,sX,Hx]
theorem ag4 {n:Nat} {S:List Int} {x:Int} (h:0≤x∧x<(n:Int)):ix (IU n S) x=if x∈S then 1 else 0:=by
 obtain ⟨i,rfl⟩:∃ i:Nat,x=i:=⟨x.toNat,by omega⟩;have hi:i<n:=by omega
 rw [q3 (by rw [Nq];exact hi)];simp [IU,upto]
theorem ag5 (n:Nat):List.replicate n (0:Int)=IU n []:=by
 refine vM (by rw [Nq];simp) fun i ad af=>?_;simp [IU]
theorem ag6 {n:Nat} {S:List Int} {x:Int} (h:0≤x∧x<(n:Int)):(IU n S).set x.toNat 1=IU n (S++[x]):=by
 refine vM (by simp [Nq]) fun i ad af=>?_;rw [List.getElem_set];have hi:i<n:=by rw [Nq] at af;exact af
 simp only [IU,upto,List.getElem_map,List.getElem_range,sN,sO];by_cases e:x.toNat=i
 ·rw [if_pos e,if_pos (.inr (by omega))]
 ·rw [if_neg e];by_cases aG:(i:Int)∈S
  ·rw [if_pos aG,if_pos (.inl aG)]
  ·rw [if_neg aG,if_neg (by rintro (a5 | a5);exact aG a5;omega)]
theorem Ze {r1:List (List Int)×Int} {s2:Int} (ai:0≤s2∧s2<(r1.1.length:Int)) {r D:List Int} (aj:ix r1.1 s2=r) (aN:(D++r).Nodup) (g4:rD b r) (ag:b.2.length≤1000) (qZ:D.length≤1000) (Dw:r.length≤1000) {k:Int→List Int→Option (List (List Int)×Bool)} :
  ∀ (m i:Nat) (z y:Int),z=((D.length+i:Nat):Int)→y=(i:Int)→i≤r.length→r.length-i<m→MA b r1 s2 k m z y (IU b.2.length (D++r.take i))=k ((D.length+r.length:Nat):Int) (IU b.2.length (D++r))
 | 0,_,_,_,_,_,_,h=>absurd h (by omega)
 | m+1,i,_,_,rfl,rfl,hi,hm=>by
   rw [MA,qg ai,aj];by_cases h:(i:Int)<(r.length:Int)
   ·(have qX:i<r.length:=by omega);have ak:=g4 _ (sI qX);have ad1:r[i] ∉ D++r.take i:=fun hm=>by
     rw [←uT i r,sQ qX,←sD] at aN;exact (tX.1 aN).2.2 _ hm _ (uo ..) rfl
    rw [if_pos (decide_eq_true h),qg ai,qg ⟨by omega,h⟩,q3 qX,if_neg (by simpa using ak.1),if_neg (by simpa using ak.2),qg ⟨ak.1,by simpa using ak.2,by rw [Nq];simp⟩,ag4 ak,if_neg ad1,if_neg (by simp),qg ⟨ak.1,by simpa using ak.2,by rw [Nq];simp⟩,ag6 ak,sD,←tO qX,rG i (by omega),rG (D.length+i) (by omega)];exact Ze ai aj aN g4 ag qZ Dw m (i+1) _ _ rfl rfl (by omega) (by omega)
   ·rw [if_neg (by simpa using h),show i=r.length by omega,tC]
theorem Zd {r1:List (List Int)×Int} {P:List (List Int)} (CD:r1.1=P) (aN:P.flatten.Nodup) (g4:∀ r∈P,rD b r) (bN:∀ r∈P,r≠[]) (ag:b.2.length≤1000) (ao:P.length≤1000) {k:Int→List Int→Option (List (List Int)×Bool)} :
  ∀ (m i:Nat) (z y:Int),z=(((P.take i).flatten.length:Nat):Int)→y=(i:Int)→i≤P.length→P.length-i<m→LL b r1 k m z y (IU b.2.length (P.take i).flatten)=k ((P.flatten.length:Nat):Int) (IU b.2.length P.flatten)
 | 0,_,_,_,_,_,_,h=>absurd h (by omega)
 | m+1,i,_,_,rfl,rfl,hi,hm=>by
   rw [LL,CD];have Mc:∀ l:List (List Int),(∀ r∈l,rD b r)→rD b l.flatten:=fun l ao x ak=>by
    obtain ⟨r,aj,ak⟩:=uZ.1 ak;exact ao r aj x ak
   by_cases h:(i:Int)<(P.length:Int)
   ·(have qX:i<P.length:=by omega);have kE:=sI qX;(have e:(P.take (i+1)).flatten=(P.take i).flatten++P[i]:=by rw [tO qX,vn];simp);have jP:((P.take i).flatten++P[i]).Nodup:=by
     rw [←e];refine List.Nodup.sublist ?_ aN;(conv=>rhs;rw [←uT (i+1) P,vn]);exact List.sublist_append_left _ _
    have qZ:(P.take i).flatten.length≤1000:=sL (Mh (tX.1 jP).1 (Mc _ fun r aj=>g4 r (uw aj))) ag;have aj:(P[i]).length≤1000:=sL (Mh (tX.1 jP).2.1 (g4 _ kE)) ag;rw [if_pos (decide_eq_true h)];have key:=Ze (b:=b) (r1:=r1) (s2:=(i:Int)) (D:=(P.take i).flatten) (r:=P[i]) (by rw [CD];exact ⟨by omega,h⟩) (by rw [CD,q3 qX]) jP (g4 _ kE) ag qZ aj
     (k:=fun yg oH=>p9 (0≤(i:Int)∧(i:Int)<(r1.1.length:Int)) <| if (decide (((ix r1.1 (i:Int)).length:Int)=(0:Int)))=true then some ([],false) else LL b r1 k m yg (w ((i:Int)+(1:Int))) oH) p' 0 ((P.take i).flatten.length:Int) 0 (by simp) rfl (by omega) (rL (by omega))
    rw [tj,sW,CD] at key;rw [key,qg ⟨by omega,h⟩,q3 qX,if_neg (by simpa using bN _ kE),rG i (by omega),←e];exact Zd CD aN g4 bN ag ao m (i+1) _ _ (by rw [e,sr]) rfl (by omega) (by omega)
   ·rw [if_neg (by simpa using h),show i=P.length by omega,tC]
theorem afI (p3:qA b):(parts b).flatten.Perm (upto b.2.length):=(J7 p3).2.1.flat (J4 _)
theorem Ul (p3:qA b):IZ b=some (parts b,true):=by
 have hlen:=p3.len;have Sl:=(J7 p3).2.1.few Ml;have aB:=afI p3;have ao:=aB.length_eq;rw [Hx] at ao;rw [IZ,ai_ (by omega),sc,W9 p3,if_neg (by simp),if_neg (by simp;exact Sl),qg ⟨by omega,by omega,by omega⟩];have key:=Zd (b:=b) (r1:=(parts b,0)) (P:=parts b) rfl (aB.nodup_iff.2 (J4 _)) (fun r aj=>(SL p3 r aj).1) (J7 p3).2.1.ne (by omega) (by omega)
  (k:=fun Gx Pf=>some (parts b,(decide (Gx=(((b.2.length:Int).toNat:Nat):Int))))) p' 0 0 0 (by simp) rfl (by omega) (rL (by omega))
 rw [tj,List.flatten_nil,←ag5] at key;rw [th];refine key.trans ?_;rw [ao,th,decide_eq_true rfl]
def SI (b:p5) (done own:Row) (p:Int×Int):Bool:=!(done.any fun q=>decide (q.1=p.1)) && (decide (own=[]) || decide (fin b (own.getD (own.length-1) default)=qx b p))
def WZ (b:p5) (done own:Row) (i:Int):Row:=[(i,0),(i,1)].filter (SI b done own)
def SG (b:p5) (done own:Row):Row:=(upto b.2.length).flatMap (WZ b done own)
theorem afv {done own:Row} {p:Int×Int}:p∈SG b done own↔H0 b p∧SI b done own p=true:=by
 unfold SG WZ;rw [vi];constructor
 ·rintro ⟨i,hi,aB⟩;rw [sP] at aB;have:=rq.1 hi;simp only [sq,uB,or_false] at aB;rcases aB with ⟨rfl | rfl,h⟩
  ·exact ⟨⟨this.1,this.2,by simp,by simp⟩,h⟩
  ·exact ⟨⟨this.1,this.2,by simp,by simp⟩,h⟩
 ·rintro ⟨⟨ad,af,aG,a5⟩,h⟩;refine ⟨p.1,rq.2 ⟨ad,af⟩,sP.2 ⟨?_,h⟩⟩;obtain ⟨x,y⟩:=p;have aj6:0≤y:=aG;have aj7:y≤1:=a5;rcases (show y=0∨y=1 by omega) with rfl | rfl <;> simp
structure NQ (b:p5) (D own:Row):Prop where
 ok:∀ p∈D++own,H0 b p
 r5:((D++own).map (·.1)).Nodup
 go:own=[]∨∃ a,qD b a own=some (fin b (own.getD (own.length-1) default))
theorem NQ.len {D own:Row} (h:NQ b D own):D.length+own.length≤b.2.length:=by
 have:=Mh h.r5 (n:=b.2.length) fun x ak=>by
  obtain ⟨p,aB,rfl⟩:=sk.1 ak;exact ⟨(h.ok p aB).1,(h.ok p aB).2.1⟩
 simpa using this
theorem NQ.next {D own:Row} (h:NQ b D own) {p:Int×Int} (aB:p∈SG b (D++own) own):NQ b D (own++[p]):=by
 obtain ⟨bP,aN⟩:=afv.1 aB;unfold SI at aN;simp only [Bool.and_eq_true,Bool.or_eq_true,Bool.not_eq_true',decide_eq_true_eq] at aN;refine ⟨fun q aZ=>?_,?_,.inr ?_⟩
 ·rw [←sD] at aZ;rcases sN.1 aZ with aZ | aZ
  ·exact h.ok q aZ
  ·rw [sO.1 aZ];exact bP
 ·rw [←sD,s_,tX];refine ⟨h.r5,by simp,fun x ak y aY e=>?_⟩;simp only [sG,List.map_nil,sO] at aY;subst aY;subst e;obtain ⟨q,aZ,e⟩:=sk.1 ak;have:=uI.1 aN.1 q aZ;simp [e] at this
 ·have Oo:(own++[p]).getD ((own++[p]).length-1) default=p:=by simp
  rw [Oo];rcases aN.2 with aU | aU
  ·subst aU;exact ⟨qx b p,Kn.2 ⟨rfl,rfl⟩⟩
  ·by_cases ad:own=[]
   ·subst ad;exact ⟨qx b p,Kn.2 ⟨rfl,rfl⟩⟩
   ·rcases h.go with af | ⟨a,af⟩
    ·exact absurd af ad
    ·refine ⟨a,?_⟩;rw [Jz,af,sc];exact Kn.2 ⟨aU.symm,rfl⟩
section
variable {Vu:List Int} (yV:Vu.length≤1000) (adx:∀ x∈Vu,0≤x∧x≤255)
include yV adx
end
end
end Go.Proofs.YtfakoboiahbhaaaGreat.Ab


namespace Go.Proofs.YtfakoboiahbhaaaGreat.Ab
open Go
set_option maxRecDepth 20000
set_option maxHeartbeats 4000000
def q5 (l:List Int):Nat→List Int
 | 0=>[]
 | k+1=>if 0<k∧l.getD k 0=l.getD (k-1) 0 then q5 l k else q5 l k++[l.getD k 0]
theorem RJ (l:List Int):∀ k,(q5 l k).length≤k
 | 0=>sd _
 | k+1=>by
   have:=RJ l k;simp only [q5];split
   ·omega
   ·simp;omega
theorem ace (lo id off len:Nat) (H:List ar) (l:List I) (bB:lo≤id) (ah:H[id]?=some (.cells l)) (h:off+len=l.length) :
  k3 Go.Proofs.Tryz.prog lo #[38] H [.ref id off len none 1]=some (.tuple [],H.set id (.cells (l.take off++List.replicate len (hU 0)))):=by
 rw [acf lo id off len H l bB ah (by omega),td (by omega),sW]
theorem RB (l:List Int) (k x:Nat) (h:(q5 l k).length≤x) (ak:x<l.length):((q5 l k++l.drop (q5 l k).length).map hU)[x]?=some (hU (l.getD x 0)):=by
 rw [List.getElem?_map,sJ h,sZ,show (q5 l k).length+(x-(q5 l k).length)=x by omega,List.getElem?_eq_getElem ak];simp [ak]
theorem ag8 (l:List Int) (A:List Int) (v:Int) (h:A.length<l.length):((A++l.drop A.length).map hU).set A.length (hU v)=((A++[v])++l.drop (A++[v]).length).map hU:=by
 rw [s_,List.set_append_right _ _ (by simp),sX,tR,sQ h,sG,List.set_cons_zero];simp
theorem WG (l:List Int) (x:Nat) (ak:x<l.length):(l.map hU)[x]?=some (hU (l.getD x 0)):=by simp [ak]
section
variable {H:List ar} {id lo:Nat}
theorem acs (bB:lo≤id) (l:List Int) (aU:0<l.length) (ao:l.length≤1000) (ah:H[id]?=some (.cells (l.map hU))) {Q:cz→List I→List ar→Prop}
  (bo:∀ T Ro,c3 T 2=.ref id 0 (q5 l l.length).length none 1→Ro=H.set id (.cells ((q5 l l.length++List.replicate (l.length-(q5 l l.length).length) 0).map hU))→Q .ret T Ro) :
  dO Go.Proofs.Tryz.prog Rw 74 lo none Nk (Hc 61 [(0,.ref id 0 l.length none 1),(2,.ax [] 0 (.uniq 1))]) H Q:=by
 have aE:=(sb.1 ah).1;have CI:Nat.ble lo id=true:=Nat.ble_eq_true_of_le bB;have gs:∀ c:ar,(H.set id c)[id]?=some c:=fun c=>by rw [List.getElem?_set_self aE]
 have Iq:∀ c e:ar,((H.set id c).set id e)[id]?=some e:=fun c e=>by rw [sU,gs]
 have same:H.set id (.cells (l.map hU))=H:=by
  obtain ⟨ad,af⟩:=sb.1 ah;rw [←af,List.set_getElem_self]
 unfold Nk;obtain ⟨nj,Hl⟩:∃ c,OL=c:=⟨_,rfl⟩;rw [Hl];conv=>whnf
 have fin:∀ T,c3 T 2=.ref id 0 l.length none 1→q5 l l.length=l→Q .ret T H:=fun T bW e=>bo _ _ (by rw [bW,e]) (by rw [e,tR,List.replicate_zero,sW,same]);by_cases af:((l.length:Nat):Int)<2
 ·rw [decide_eq_true af];conv=>whnf
  have:l.length=1:=by omega
  refine fin _ rfl ?_
  match l,this with
  | [x],_=>rfl
 rw [decide_eq_false af];conv=>whnf
 refine .intro (fun m T H'=>∃ k,1≤k∧k≤l.length∧m=l.length-k∧q5 l k=l.take k∧T=Hc 61 [(0,.ref id 0 l.length none 1),(3,hU (k:Nat))]∧H=H') (l.length-1) ⟨1,by omega,by omega,rfl,?_,rfl,rfl⟩ ?_
 ·match l,aU with
  | x::r,_=>rfl
 rintro m T H' ⟨k,C_,pG,rfl,he,rfl,rfl⟩;subst Hl;unfold OL Xt;obtain ⟨fW,HF⟩:∃ c,TI=c:=⟨_,rfl⟩;rw [HF];conv=>whnf
 by_cases av:(k:Int)<(l.length:Int)
 ·rw [decide_eq_true av];conv=>whnf
  refine ⟨by omega,?_⟩;conv=>whnf
  refine Es ah ?_;conv=>whnf
  refine Es (x:=hU (l.getD k 0)) (by rw [show 0+(k:Int).toNat*1=k by simp];exact WG l k (by omega)) ?_;conv=>whnf
  rw [show IntKind.i64.wrap ((k:Int)-1)=((k-1:Nat):Int) by rw [IB _ (by omega) (by omega)];omega];refine ⟨by omega,?_⟩;conv=>whnf
  refine Es ah ?_;conv=>whnf
  refine Es (x:=hU (l.getD (k-1) 0)) (by rw [show 0+(((k-1:Nat)):Int).toNat*1=k-1 by simp];exact WG l (k-1) (by omega)) ?_;conv=>whnf
  by_cases a2:l.getD k 0=l.getD (k-1) 0
  ·rw [decide_eq_true a2];(conv=>whnf);(have Om:q5 l (k+1)=l.take k:=by simp only [q5];rw [if_pos ⟨by omega,a2⟩,he]);subst HF;unfold TI;obtain ⟨br,en⟩:∃ c,TG=c:=⟨_,rfl⟩;obtain ⟨dV,Cs⟩:∃ c,TH=c:=⟨_,rfl⟩;rw [en,Cs];(conv=>whnf);refine ⟨rfl,by omega,fun _=>?_,fun h=>by omega⟩;(conv=>whnf);refine .intro (fun m T H'=>∃ q,1≤q∧k+q≤l.length∧m=l.length-q∧(q5 l (k+q)).length+1≤k+q∧T=Hc 61 [(0,.ref id 0 l.length none 1),(3,hU (q5 l (k+q)).length),(4,.ref id (0+(k:Int).toNat*1) (l.length-(k:Int).toNat) none 1),(5,hU (q:Nat))]∧H'=H.set id (.cells ((q5 l (k+q)++l.drop (q5 l (k+q)).length).map hU))) (l.length-1) ⟨1,sd _,by omega,rfl,by rw [Om];simp;omega,?_,?_⟩ ?_
   ·rw [Om,ta,tM (by omega)];rfl
   ·rw [Om,ta,tM (by omega),uT];exact same.symm
   rintro m T H' ⟨q,ad7,Dp,rfl,hw,rfl,rfl⟩;subst en;unfold TG Xr;obtain ⟨a_,ca⟩:∃ c,TF=c:=⟨_,rfl⟩;rw [ca];(conv=>whnf);by_cases aZ:(q:Int)<((l.length-k:Nat):Int)
   ·rw [show decide ((q:Int)<((l.length-(k:Int).toNat:Nat):Int))=true from decide_eq_true aZ];(conv=>whnf);refine ⟨by simp;omega,?_⟩;(conv=>whnf);refine Es (gs _) ?_;(conv=>whnf);refine Es (x:=hU (l.getD (k+q) 0)) (by rw [show 0+(k:Int).toNat*1+(q:Int).toNat*1=k+q by simp];exact RB l (k+q) (k+q) (by omega) (by omega)) ?_;(conv=>whnf);rw [show IntKind.i64.wrap ((q:Int)-1)=((q-1:Nat):Int) by rw [IB _ (by omega) (by omega)];omega];refine ⟨by simp;omega,?_⟩;(conv=>whnf);refine Es (gs _) ?_;(conv=>whnf);refine Es (x:=hU (l.getD (k+q-1) 0)) (by rw [show 0+(k:Int).toNat*1+(((q-1:Nat)):Int).toNat*1=k+q-1 by simp;omega];exact RB l (k+q) (k+q-1) (by omega) (by omega)) ?_;(conv=>whnf);by_cases ak:l.getD (k+q) 0=l.getD (k+q-1) 0
    ·rw [decide_eq_false (not_not_intro ak)];(conv=>whnf);(have e:q5 l (k+(q+1))=q5 l (k+q):=by rw [←tD];simp only [q5];rw [if_pos ⟨by omega,ak⟩]);refine ⟨l.length-(q+1),by omega,q+1,by omega,by omega,rfl,by rw [e];omega,?_,by rw [e]⟩;rw [e,←Ho q (by omega)];rfl
    ·rw [decide_eq_true ak];(conv=>whnf);(have e:q5 l (k+(q+1))=q5 l (k+q)++[l.getD (k+q) 0]:=by rw [←tD];simp only [q5];rw [if_neg fun h=>ak h.2]);subst ca;refine IW fun m' Hv=>?_;unfold TF;(conv=>whnf);refine ⟨by simp;omega,?_⟩;(conv=>whnf);refine Es (gs _) ?_;(conv=>whnf);refine Es (x:=hU (l.getD (k+q) 0)) (by rw [show 0+(k:Int).toNat*1+(q:Int).toNat*1=k+q by simp];exact RB l (k+q) (k+q) (by omega) (by omega)) ?_;(conv=>whnf);refine ⟨by omega,?_⟩;(conv=>whnf);rw [CI];(conv=>whnf);refine Es (gs _) ?_;(conv=>whnf);refine Bu (by simp;omega) ?_;(conv=>whnf);refine Hv _ _ _ ?_;(conv=>whnf);refine ⟨l.length-(q+1),by omega,q+1,by omega,by omega,rfl,by rw [e,sr,tZ];omega,?_,?_⟩
     ·rw [e,sr,tZ,←Ho q (by omega),←Ho (q5 l (k+q)).length (by omega)];rfl
     ·rw [sU,e,show 0+((q5 l (k+q)).length:Int).toNat*1=(q5 l (k+q)).length by simp,ag8 l (q5 l (k+q)) _ (by omega)]
   ·rw [show decide ((q:Int)<((l.length-(k:Int).toNat:Nat):Int))=false from decide_eq_false aZ];(conv=>whnf);(obtain rfl:q=l.length-k:=by omega);rw [show k+(l.length-k)=l.length by omega] at hw ⊢;subst Cs;unfold TH Xs;(conv=>whnf);refine ⟨rfl,by omega,fun _=>?_,fun h=>by omega⟩;(conv=>whnf);refine ⟨_,_,fun C=>(ace lo id _ _ _ _ bB (gs _) (by simp)),?_⟩;(conv=>whnf);refine ⟨rfl,by omega,?_⟩;(conv=>whnf);refine bo _ _ rfl ?_;rw [sU];have e:(List.take (0+((q5 l l.length).length:Int).toNat*1) ((q5 l l.length++l.drop (q5 l l.length).length).map hU)++List.replicate (l.length-((q5 l l.length).length:Int).toNat) (hU 0))=(q5 l l.length++List.replicate (l.length-(q5 l l.length).length) 0).map hU:=by
     simp
    rw [←e]
  ·rw [decide_eq_false a2];(conv=>whnf);refine ⟨l.length-(k+1),by omega,k+1,by omega,by omega,rfl,?_,by rw [←Ho k (by omega)];rfl,rfl⟩;simp only [q5];rw [if_neg fun h=>a2 h.2,he,tO (by omega)];simp [show k<l.length by omega]
 ·rw [decide_eq_false av];conv=>whnf
  obtain rfl:k=l.length:=by omega
  exact fin _ rfl (by rw [he,tC])
theorem acr (l:List Int) (aU:0<l.length) (ao:l.length≤1000) (bB:lo≤H.length) :
  Sem Go.Proofs.Tryz.prog (.fn 74) [.ax (l.map hU) l.length (.uniq 1)] H lo (.ref H.length 0 (q5 l l.length).length none 1) (H++[.cells ((q5 l l.length++List.replicate (l.length-(q5 l l.length).length) 0).map hU)]):=by
 refine HC eo WR rfl ⟨by simp,fun j ad af=>by rw [sy af]⟩ fun Q bo=>?_;unfold TE;obtain ⟨B8,Kc⟩:∃ c,Nk=c:=⟨_,rfl⟩;rw [Kc];conv=>whnf
 subst Kc;have h:=acs (H:=H++[.cells (l.map hU)]) (id:=H.length) bB l aU ao (by simp) (Q:=Q) fun T Ro bW ak=>bo _ _ _ ⟨.inr rfl,by rw [ak,rK];exact ⟨rfl,fun j o aw=>.inr aw⟩,by simp only [j9,bW,sf,hj]⟩;unfold Nk at h ⊢;obtain ⟨nj,Hl⟩:∃ c,OL=c:=⟨_,rfl⟩;rw [Hl] at h ⊢;conv=>whnf
 refine .inl ⟨by omega,?_⟩;conv=>whnf
 conv at h=>whnf
 exact h
end

def UG (n:Nat):Prop:=∀ (l:List Int),l.length≤n→∀ (H:List ar) (id lo:Nat),lo≤id→H[id]?=some (.cells (l.map hU)) →
 ∃ N,Sem Tryz.prog (.fn 73) [.ref id 0 l.length none 1] H lo (.tuple []) (H.set id (.cells ((r9 l).map hU))++List.replicate N .dead)
theorem ahf:UG 12:=fun l h H id lo bB ah=>⟨0,by rw [List.replicate_zero,sW];exact XS l bB h rfl ah⟩
section
variable {H:List ar} {lo:Nat}
theorem aeo:Sem Go.Proofs.Tryz.prog (.fn 115) [.ax [] 0 (.own 1),hU 0,hU 0] H lo (.tuple []) H:=by
 refine HC eo WL rfl (bb.refl _ _) fun Q bo=>?_;unfold Tl;conv=>whnf
 refine .intro (fun m T H'=>T=Hc 49 [(0,.ax [] 0 (.own 1)),(1,hU 0),(2,hU 0),(6,hU 1)]∧H=H') 0 ⟨rfl,rfl⟩ ?_;rintro m T H' ⟨rfl,rfl⟩;conv=>whnf
 exact bo _ _ _ ⟨.inl rfl,⟨by simp,fun j o aw=>.inr aw⟩,rfl⟩
theorem afM {Jx:Int}:Sem Go.Proofs.Tryz.prog (.fn 96) [.ax [] 0 (.own 1),hU 0,hU 0,hU Jx] H lo (.tuple []) H:=by
 refine HC eo WT rfl (bb.refl _ _) fun Q bo=>?_;unfold TT;obtain ⟨RD,Js⟩:∃ c,ON=c:=⟨_,rfl⟩;rw [Js];conv=>whnf
 refine .intro (fun m T H'=>T=Hc 134 [(0,.ax [] 0 (.own 1)),(1,hU 0),(2,hU 0),(3,hU Jx),(8,B true),(9,B true)]∧H'=H) 0 ⟨rfl,rfl⟩ ?_;rintro m T H' ⟨rfl,rfl⟩;subst Js;unfold ON;obtain ⟨a_,ca⟩:∃ c,OM=c:=⟨_,rfl⟩;obtain ⟨RC,L3⟩:∃ c,TU=c:=⟨_,rfl⟩;rw [ca,L3];conv=>whnf
 subst ca;unfold OM;conv=>whnf
 refine ⟨_,_,HB aeo,?_⟩;conv=>whnf
 exact bo _ _ _ ⟨.inr rfl,⟨rfl,fun j o aw=>.inr aw⟩,rfl⟩
theorem ahc:Sem Go.Proofs.Tryz.prog (.fn 73) [.ax [] 0 (.uniq 1)] H lo (.tuple []) H:=by
 refine HC eo WQ rfl (bb.refl _ _) fun Q bo=>?_;unfold TD;conv=>whnf
 refine ⟨by first | rfl | simp only [List.all_cons,List.all_nil,M_,Nh,M',Nb,Na,Nc,Nj,Ni,Kk,Nd,Nf,Ng,Bool.and_true,Bool.and_self],_,Pq 0 (by decide),?_⟩
 conv=>whnf
 refine ⟨_,_,HB afM,?_⟩;conv=>whnf
 exact bo _ _ _ ⟨.inl rfl,⟨by simp,fun j o aw=>.inr aw⟩,rfl⟩
theorem aci:Sem Go.Proofs.Tryz.prog (.fn 75) [.ax [] 0 .shared] H lo (.ax [] 0 (.uniq 1)) H:=by
 refine HC eo WS rfl (bb.refl _ _) fun Q bo=>?_;unfold TJ TK;conv=>whnf
 refine ⟨.dt,H,fun C=>by kernel_rfl,?_⟩;conv=>whnf
 refine ⟨?_,?_⟩
 ·conv=>whnf
  exact bo _ _ _ ⟨.inr rfl,⟨rfl,fun j o aw=>.inr aw⟩,rfl⟩
 ·conv=>whnf
  refine ⟨rfl,by omega,rfl,by omega,?_⟩;conv=>whnf
  exact bo _ _ _ ⟨.inr rfl,⟨rfl,fun j o aw=>.inr aw⟩,rfl⟩
theorem acq:Sem Go.Proofs.Tryz.prog (.fn 74) [.ax [] 0 (.uniq 1)] H lo (.ax [] 0 .shared) H:=by
 refine HC eo WR rfl (bb.refl _ _) fun Q bo=>?_;unfold TE Nk;obtain ⟨nj,Hl⟩:∃ c,OL=c:=⟨_,rfl⟩;rw [Hl];conv=>whnf
 refine .inr ⟨rfl,?_⟩;conv=>whnf
 exact bo _ _ _ ⟨.inr rfl,⟨rfl,fun j o aw=>.inr aw⟩,rfl⟩
end

theorem ag0 {b:p5} {rows:List Row} {k:Nat} (aU:q4 b=0) (av:k<rows.length) (aO:∀ r∈rows.take k,(Hg b r).2.2=0) (ag:(Hg b rows[k]).2.2≠0):H7 b rows=(0,(Hg b rows[k]).2.2):=by
 unfold H7;rw [if_neg (by simp [aU])]
 have:rows.find? (fun r=>decide ((Hg b r).2.2≠0))=some rows[k]:=by
  obtain ⟨x,ak⟩:∃ x,x=rows[k]:=⟨_,rfl⟩;have e:rows=rows.take k++x::rows.drop (k+1):=by rw [ak,←sQ av,uT]
  rw [←ak] at ag ⊢;conv=>lhs;rw [e]
  rw [List.find?_append,vm.2 (fun r aj=>by simpa using aO r aj),Option.none_or,List.find?_cons_of_pos (by simpa using ag)]
 rw [this]
theorem ag1 {b:p5} {rows:List Row} (aU:q4 b=0) (aO:∀ r∈rows,(Hg b r).2.2=0):H7 b rows=if ((rows.flatten).map (·.1)).Nodup then (if (rows.flatten).length≠b.2.length then ((0:Int),(15:Int)) else ((rows.length:Int),0)) else (0,11):=by
 unfold H7;rw [if_neg (by simp [aU]),vm.2 (fun r aj=>by simpa using aO r aj)]
theorem VC {l:List Int} (ai:l.Pairwise (·≤·)):∀ k,k≤l.length→((q5 l k).length=k↔(l.take k).Nodup)
 | 0,_=>by simp [q5]
 | k+1,av=>by
   have a9:=VC ai k (by omega);have hle:=RJ l k;(have JQ:k<l.length:=by omega);(have e1:l.getD k 0=l[k]:=by simp [JQ]);have aed:l.take (k+1)=l.take k++[l[k]]:=tO JQ;have jP:(l.take (k+1)).Nodup↔(l.take k).Nodup∧l[k] ∉ l.take k:=by
    rw [aed,tX];constructor
    ·rintro ⟨a,_,c⟩;exact ⟨a,fun hm=>c _ hm _ (by simp) rfl⟩
    ·rintro ⟨a,c⟩;exact ⟨a,by simp,fun x ak y aY e=>c (by simp at aY;subst aY;subst e;exact ak)⟩
   have kE:l[k]∈l.take k↔0<k∧l.getD k 0=l.getD (k-1) 0:=by
    constructor
    ·intro hm;obtain ⟨i,hi,e⟩:=List.getElem_of_mem hm;(have Wl:i<k:=by simp at hi;omega);rw [List.getElem_take] at e;(have C_:k-1<l.length:=by omega);refine ⟨by omega,?_⟩;rw [e1,show l.getD (k-1) 0=l[k-1] by simp [C_]];have ad:=ti.1 ai (k-1) k C_ JQ (by omega);have af:l[i]≤l[k-1]:=by
      rcases Nat.lt_or_ge i (k-1) with h | h
      ·exact ti.1 ai i (k-1) (by omega) C_ h
      ·have:i=k-1:=by omega
       subst this;exact Int.le_refl _
     omega
    ·rintro ⟨ad,af⟩;(have C_:k-1<l.length:=by omega);rw [e1,show l.getD (k-1) 0=l[k-1] by simp [C_]] at af;rw [af];exact List.mem_iff_getElem.2 ⟨k-1,by simp;omega,by rw [List.getElem_take]⟩
   rw [jP];simp only [q5];split
   ·rename_i h;constructor
    ·intro af;omega
    ·rintro ⟨_,aG⟩;exact absurd (kE.2 h) aG
   ·rename_i h;rw [sr,tZ];constructor
    ·intro af;exact ⟨a9.1 (by omega),fun hm=>h (kE.1 hm)⟩
    ·rintro ⟨aG,_⟩;rw [a9.2 aG]
theorem ahd (l:List Int):(r9 l).Pairwise (·≤·):=by
 have:=(OP Sort.swo_ltInt l).2;refine this.imp fun h=>?_;simp only [Sort.ltInt,decide_eq_false_iff_not] at h;omega
theorem acm (l:List Int):(q5 (r9 l) (r9 l).length).length<l.length↔¬ l.Nodup:=by
 have ad:=VC (ahd l) (r9 l).length (sd _);have af:=RJ (r9 l) (r9 l).length;have aG:=Qu l;rw [tC,(XR l).nodup_iff] at ad;rw [←ad];omega
theorem acd {n:Nat} (ai:UG n) (aN:n≤1000) {b:p5} {rows:List Row} (ag:b.2.length≤1000) (aj:rows.length≤1000) (Dw:∀ r∈rows,r.length≤1000) (ay:(∀ r∈rows,(Hg b r).2.2=0)→rows.flatten.length≤n) :
  qw 25 [(.agg [(hU b.1),(.ax (b.2.flatMap p2) b.2.length .shared)]),(.ax (rows.map (qJ p2)) rows.length .shared)] (.tuple [(hU (H7 b rows).1),(hU (H7 b rows).2)]):=by
 refine q7 eo aeH rfl (Jb (p1 rfl (p1 rfl rfl))) fun Q bo=>?_;have jB:∀ T H,ID [.tmp 4,.tmp 5] (.tuple [(hU (H7 b rows).1),(hU (H7 b rows).2)]) .ret T H→Q .ret T H:=fun T H bH=>bo _ T H bH;clear bo;have L6:∀ (x y:Int) T H,H7 b rows=(x,y)→ID [.tmp 4,.tmp 5] (.tuple [hU x,hU y]) .ret T H→Q .ret T H:=fun x y T H e h=>by
  rw [e] at jB;exact jB T H h
 unfold Xq;obtain ⟨ajY,V4⟩:∃ c,Tw=c:=⟨_,rfl⟩;rw [V4];conv=>whnf
 subst V4;unfold Tw;obtain ⟨a_,ca⟩:∃ c,Tu=c:=⟨_,rfl⟩;obtain ⟨abS,N3⟩:∃ c,Tv=c:=⟨_,rfl⟩;rw [ca,N3];conv=>whnf
 refine ⟨ql.pl,_,Y7 (QG b ag),?_⟩;conv=>whnf
 subst ca;unfold Tu;conv=>whnf
 by_cases aU:q4 b≠0
 ·rw [decide_eq_true aU];conv=>whnf
  exact L6 0 (q4 b) _ _ (if_pos aU) (KY rfl rfl)
 rw [decide_eq_false aU];have aU:=vl.1 aU;conv=>whnf
 subst N3;unfold Tv;obtain ⟨ni,Io⟩:∃ c,TC=c:=⟨_,rfl⟩;obtain ⟨B8,Kc⟩:∃ c,Qk=c:=⟨_,rfl⟩;obtain ⟨abR,MW⟩:∃ c,Qj=c:=⟨_,rfl⟩;rw [Io,Kc,MW];conv=>whnf
 have PU:∀ k,(rows.take k).flatten.length≤1000*rows.length:=fun k=>by
  refine sL (RP fun r aj=>Dw r (uw aj)) ?_;rw [ta];exact Nat.mul_le_mul_left _ (Nat.min_le_right _ _)
 have akg:1000*rows.length≤1000000:=by omega
 refine .intro (fun m T H=>∃ (k:Nat) (Y:List ar),k≤rows.length∧(∀ r∈rows.take k,(Hg b r).2.2=0)∧m=rows.length-k∧T=Hc 73 [(1,(.ax (rows.map (qJ p2)) rows.length .shared)),(2,.ptr 0 0),(7,.ax (((rows.take k).flatten.map (·.1)).map hU) ((rows.take k).flatten.map (·.1)).length (.uniq 1)),(20,(.ax (rows.map (qJ p2)) rows.length .shared)),(21,hU rows.length),(22,hU (k:Int))]∧H=ar.cells [(hU b.1),(.ax (b.2.flatMap p2) b.2.length .shared)]::Y) _ ⟨0,[],by omega,by simp,rfl,rfl,rfl⟩ ?_;rintro m T H ⟨k,Y,av,aO,rfl,rfl,rfl⟩;conv=>whnf
 refine I4 (fun h=>?_) (fun h=>?_)
 ·have JQ:k<rows.length:=by omega
  subst Io;unfold TC;obtain ⟨fW,HF⟩:∃ c,TB=c:=⟨_,rfl⟩;rw [HF];conv=>whnf
  refine ⟨⟨by omega,h⟩,?_⟩;rw [Hh (qJ p2) rows (k:Int) ⟨by omega,h⟩,q3 JQ];conv=>whnf
  subst HF;unfold TB;obtain ⟨ba,b5⟩:∃ c,Tx=c:=⟨_,rfl⟩;obtain ⟨dV,Cs⟩:∃ c,TA=c:=⟨_,rfl⟩;rw [b5,Cs];conv=>whnf
  refine ⟨ql.pl,_,aiR (aiN b rows[k] ag (Dw _ (sI JQ))),?_⟩;conv=>whnf
  subst b5;unfold Tx;conv=>whnf
  by_cases he:(Hg b rows[k]).2.2≠0
  ·rw [decide_eq_true he];(conv=>whnf);exact L6 0 _ _ _ (ag0 aU JQ aO he) (KY rfl rfl)
  rw [decide_eq_false he];have he:=vl.1 he;conv=>whnf
  subst Cs;unfold TA;obtain ⟨b8,iD⟩:∃ c,Tz=c:=⟨_,rfl⟩;rw [iD];conv=>whnf
  have akm:=Dw _ (sI JQ);have yZ:=PU k;refine .intro (fun m T H=>∃ (j:Nat) (Y:List ar),j≤rows[k].length∧m=rows[k].length-j∧T=Hc 73 [(1,(.ax (rows.map (qJ p2)) rows.length .shared)),(2,.ptr 0 0),(7,.ax ((((rows.take k).flatten++rows[k].take j).map (·.1)).map hU) (((rows.take k).flatten++rows[k].take j).map (·.1)).length (.uniq 1)),(20,(.ax (rows.map (qJ p2)) rows.length .shared)),(21,hU rows.length),(22,hU (k:Int)),(36,(.ax (rows[k].flatMap p2) rows[k].length .shared)),(37,hU rows[k].length),(38,hU (j:Int))]∧H=ar.cells [(hU b.1),(.ax (b.2.flatMap p2) b.2.length .shared)]::Y) _ ⟨0,Y,by omega,rfl,by rw [tj,sW];rfl,rfl⟩ ?_;rintro m T H ⟨j,re,aw,rfl,rfl,rfl⟩;conv=>whnf
  refine I4 (fun af=>?_) (fun af=>?_)
  ·(have jJ:j<rows[k].length:=by omega);subst iD;unfold Tz;obtain ⟨br,en⟩:∃ c,Ty=c:=⟨_,rfl⟩;rw [en];(conv=>whnf);refine ⟨⟨by omega,af⟩,?_⟩;rw [q' p2 2 qy rows[k] (j:Int) ⟨by omega,af⟩,q3 jJ];(conv=>whnf);refine Es (x:=ar.cells [(hU (0:Int)),(hU (0:Int))]) (by first | exact qn.h | rfl | (simp [se,I.settle];done)) ?_
   (conv=>whnf);obtain ⟨A,aL⟩:∃ A,A=((rows.take k).flatten++rows[k].take j).map (·.1):=⟨_,rfl⟩;have R5:A.length≤1002000:=by
    rw [aL,sX,sr,ta];omega
   have Cx:A++[rows[k][j].1]=((rows.take k).flatten++rows[k].take (j+1)).map (·.1):=by
    rw [tO jJ,←sD,s_,←aL];rfl
   rw [←aL];subst en;unfold Ty;(conv=>whnf);have UB:(A.length:Int)=(A.length:Int)∧0≤(A.length:Int)∧(A.length:Int)≤(A.length:Int):=⟨rfl,by omega,by omega⟩;refine ⟨UB,?_⟩;erw [XO hU A (A.length:Int) UB.2];rw [th,tC];(conv=>whnf);refine Es (x:=ar.cells [hU rows[k][j].1,hU rows[k][j].2]) (by first | exact qn.h | rfl | (simp [se,I.settle];done)) ?_
   (conv=>whnf);refine ⟨rfl,by omega,by omega,by omega,by simp,?_⟩;erw [LV hU A rows[k][j].1];rw [Cx];(conv=>whnf);exact ⟨rows[k].length-(j+1),by omega,j+1,re++[ar.cells [hU rows[k][j].1,hU rows[k][j].2]],by omega,rfl,by rw [←Ho j (by omega)];rfl,by rw [rK];rfl⟩
  ·(have fq:j=rows[k].length:=by omega);(have e:(rows.take k).flatten++rows[k].take j=(rows.take (k+1)).flatten:=by rw [fq,tC,tO JQ,vn];simp);rw [e];(conv=>whnf);refine ⟨rows.length-(k+1),by omega,k+1,re,by omega,fun r aj=>?_,rfl,by rw [←Ho k (by omega)];rfl,rfl⟩;rw [tO JQ] at aj;rcases sN.1 aj with aj | aj
   ·exact aO r aj
   ·rw [sO.1 aj];exact he
 ·obtain rfl:k=rows.length:=by omega
  rw [tC] at aO ⊢;have HJ:=ag1 aU aO;have hlen:=ay aO;obtain ⟨A,aL⟩:∃ A,A=rows.flatten.map (·.1):=⟨_,rfl⟩;have R5:A.length=rows.flatten.length:=by rw [aL,sX]
  rw [←aL] at HJ ⊢;obtain ⟨id,aE⟩:∃ id,id=(ar.cells [(hU b.1),(.ax (b.2.flatMap p2) b.2.length .shared)]::Y).length:=⟨_,rfl⟩;by_cases PJ:A=[]
  ·subst PJ;(conv=>whnf);refine .inr ⟨rfl,?_⟩;(conv=>whnf);refine ⟨_,_,HB ahc,?_⟩;(conv=>whnf);subst Kc;unfold Qk;obtain ⟨nj,Hl⟩:∃ c,OK=c:=⟨_,rfl⟩;rw [Hl];(conv=>whnf);refine ⟨_,_,Pt rfl aci,?_⟩;(conv=>whnf);refine ⟨_,_,HB acq,?_⟩;(conv=>whnf);subst Hl;unfold OK;(conv=>whnf);rw [if_pos (by simp)] at HJ;(have aj5:rows.flatten.length=0:=by rw [←R5];rfl);by_cases iG:(0:Int)<(b.2.length:Int)
   ·rw [show decide (((([]:List Int).length:Nat):Int)<(b.2.length:Int))=true from decide_eq_true iG];(conv=>whnf);exact L6 0 15 _ _ (by rw [HJ,if_pos (by omega)]) (KY rfl rfl)
   ·rw [show decide (((([]:List Int).length:Nat):Int)<(b.2.length:Int))=false from decide_eq_false iG];(conv=>whnf);subst MW;unfold Qj;(conv=>whnf);exact L6 _ 0 _ _ (by rw [HJ,if_neg (by omega)]) (KY rfl rfl)
  ·have cf:A.length≠0:=fun h=>PJ (tA.1 h);(conv=>whnf);refine .inl ⟨cf,?_⟩;(conv=>whnf);rw [←aE];obtain ⟨N,ad9⟩:=ai A (by omega) ((ar.cells [(hU b.1),(.ax (b.2.flatMap p2) b.2.length .shared)]::Y)++[ar.cells (A.map hU)]) id 0 (sC _) (by rw [aE];exact I7 _ _);refine ⟨_,_,HB ad9,?_⟩;rw [aE,rK,←aE];(conv=>whnf);subst Kc;unfold Qk;obtain ⟨nj,Hl⟩:∃ c,OK=c:=⟨_,rfl⟩;rw [Hl];(conv=>whnf);obtain ⟨S,cl⟩:∃ S,S=r9 A:=⟨_,rfl⟩;(have Sa:S.length=A.length:=by rw [cl,Qu]);have PT:=acm A;rw [←cl] at PT ⊢;rw [←Sa];rw [←Sa] at PT;refine ⟨_,_,Pt (rX (fun _=>rfl) _ _ _) (acj S [] (by omega) (by omega) (by rw [sW,aE];exact (sy (by simp)).trans (I7 _ _))),?_⟩;(conv=>whnf);refine ⟨_,_,HB (acr S (by omega) (by omega) (sC _)),?_⟩;(conv=>whnf);by_cases a2:((q5 S S.length).length:Int)<(S.length:Int)
   ·rw [decide_eq_true a2];(conv=>whnf);exact L6 0 11 _ _ (by rw [HJ,if_neg (PT.1 (by omega))]) (KY rfl rfl)
   rw [decide_eq_false a2];(conv=>whnf);subst Hl;unfold OK;(conv=>whnf);have jP:A.Nodup:=vl.1 fun h=>a2 (by have:=PT.2 h;omega);rw [if_pos jP] at HJ;have hle:rows.flatten.length≤b.2.length:=by
    rw [←R5];refine Mh jP fun x ak=>?_;rw [aL] at ak;obtain ⟨p,aB,rfl⟩:=sk.1 ak;obtain ⟨r,Dq,aB⟩:=uZ.1 aB;have:=OQ.1 ((aca (aO r Dq)).2.2.1 p aB);exact ⟨this.1,this.2.1⟩
   by_cases iG:(S.length:Int)<(b.2.length:Int)
   ·rw [decide_eq_true iG];(conv=>whnf);exact L6 0 15 _ _ (by rw [HJ,if_pos (by omega)]) (KY rfl rfl)
   ·rw [decide_eq_false iG];(conv=>whnf);subst MW;unfold Qj;(conv=>whnf);exact L6 _ 0 _ _ (by rw [HJ,if_neg (by omega)]) (KY rfl rfl)
def Ug (b:p5) (rows:List Row):Option (Int×Int):=p9 (b.2.length≤1000∧rows.length≤1000∧rows.flatten.length≤12) (some (H7 b rows))
theorem afu {α:Type} {R:List (List α)} {r:List α} (h:r∈R):r.length≤R.flatten.length:=by
 obtain ⟨s,t,rfl⟩:=vT h;simp;omega
theorem ai5 {b:p5} {rows:List Row} {v:Int×Int} (h:Ug b rows=some v):qw 25 [(.agg [(hU b.1),(.ax (b.2.flatMap p2) b.2.length .shared)]),(.ax (rows.map (qJ p2)) rows.length .shared)] (.tuple [(hU v.1),(hU v.2)]):=by
 obtain ⟨⟨ad,af,aG⟩,h⟩:=qB h;obtain rfl:=Option.some.inj h;exact acd ahf (by decide) ad af (fun r aj=>by have:=afu aj;omega) fun _=>aG
theorem ai4 {b:p5} {rows:List Row} (ad:b.2.length≤1000) (af:rows.length≤1000) (aG:rows.flatten.length≤12):Ug b rows=some (H7 b rows):=qg ⟨ad,af,aG⟩

noncomputable def Z4:fT :=
 pY [GC 1 [.jf 0] .box,qa 2 0,GC 3 [.lR (.bool false)] .mN] (pY [GC 11 [.sl 1] (.zx (.str 2)),GC 12 [.lR (.func 35 [] []),.sl 11] (.call 3),pX 10 12,rA 13 10 0,GC 14 [.Bs 10] (.ext 1),pX 4 13,pX 5 14] (pY [GC 16 [.sl 1] (.zx (.str 2)),GC 17 [.lR (.func 41 [] []),.sl 16] (.call 3),pX 15 17,rA 18 15 0,GC 19 [.Bs 15] (.ext 1),pX 6 18,pX 7 19] (.seq (pY [pX 20 5,qq 21 20 0 .neq,pX 22 21,cR 23 [.jf 7] 22 false .mN,cR 24 [.Bs 23,.lR (.int .i64 0)] 22 false (.bin .neq),GC 25 [.Bs 22,.lR (.bool true),.Bs 24] .pick,pX 26 25,cR 27 [.sl 6] 26 false .mN,⟨some 28,[.lR (.func 24 [] []),.sl 27],some (26,false),none,.call 3⟩,GC 29 [.Bs 26,.lR (.bool true),.Bs 28] .pick] (.cond (.sl 29) (pY [pX 30 4,pX 2 30,GC 3 [.lR (.bool false)] .mN] .ret) .skip)) (pY [GC 32 [.sl 1] (.zx (.str 2)),pZ 33 6,GC 34 [.lR (.func 25 [] []),.sl 32,.sl 33] (.call 3),pX 31 34,rA 35 31 0,GC 36 [.Bs 31] (.ext 1),pX 8 35,pX 5 36] (pY [GC 38 [.Bs 1] (.zx (.str 2)),pX 39 6,GC 40 [.lR (.func 26 [] []),.sl 38,.sl 39] (.call 3),pX 37 40,rA 41 37 0,GC 42 [.Bs 37] (.ext 1),pX 9 41,pX 7 42] (pY [pZ 43 4,pX 44 5,qq 45 44 0 .eql,pX 46 45,cR 47 [.jf 7] 46 true .mN,cR 48 [.Bs 47,.lR (.int .i64 0)] 46 true (.bin .eql),GC 49 [.Bs 46,.Bs 48,.lR (.bool false)] .pick,pX 50 49,cR 51 [.jf 8] 50 true .mN,cR 52 [.sl 4] 50 true .mN,cR 53 [.Bs 51,.Bs 52] 50 true (.bin .eql),GC 54 [.Bs 50,.Bs 53,.lR (.bool false)] .pick,pX 55 54,cR 56 [.jf 9] 55 true .mN,cR 57 [.jf 4] 55 true .mN,cR 58 [.Bs 56,.Bs 57] 55 true (.bin .eql),GC 59 [.Bs 55,.Bs 58,.lR (.bool false)] .pick,pX 2 43,pX 3 59] .ret))))))
theorem ae2:zD Tryz.prog U8 48=some (Z4,60,[.tmp 2,.tmp 3]):=by kernel_rfl
def IY (b:qe):Option (Int×Bool) :=
 (O1 b).bind fun r1 =>
 (O2 b).bind fun r2 =>
 if (decide (r1.2≠(0:Int)))=true then
  some (r1.1,false)
 else
  if (decide (r2.2≠(0:Int)))=true then
   some (r1.1,false)
  else
   (Nz r2.1).bind fun eI =>
   if eI=true then
    some (r1.1,false)
   else
    (Ug b r2.1).bind fun qR =>
    (OZ b r2.1).bind fun q6 =>
    if (decide (qR.2=(0:Int)))=true then
     if (decide (q6.2=(0:Int)))=true then
      if (decide (qR.1=r1.1))=true then
       some (r1.1,(decide (q6.1=r1.1)))
      else
       some (r1.1,false)
     else
      some (r1.1,false)
    else
     some (r1.1,false)
theorem Uk {b:qe} {v:(Int×Bool)} (h:IY b=some v):qw 48 [(.agg [(hU b.1),(.ax (b.2.flatMap p2) b.2.length .shared)])] (.tuple [(hU v.1),(B v.2)]):=by
 refine q7 eo ae2 rfl (Jb (p1 rfl (p1 rfl rfl))) fun Q bo=>?_;have jB:qK [.tmp 2,.tmp 3] Q (fun v=>(.tuple [(hU v.1),(B v.2)])) v:=fun T H bH=>bo _ T H bH;unfold IY at h;unfold Z4;conv=>whnf
 obtain ⟨r1,gD,h⟩:=qj h;refine ⟨ql.pl,_,aje gD,?_⟩;conv=>whnf
 obtain ⟨r2,gE,h⟩:=qj h;refine ⟨ql.pl,_,ajg gE,?_⟩;conv=>whnf
 refine bs h (fun qo h=>?_) fun qo h=>?_
 ·rw [qo];conv=>whnf
  exact qd h jB rfl rfl
 ·rw [qo];conv=>whnf
  refine bs h (fun qS h=>?_) fun qS h=>?_
  ·rw [qS];(conv=>whnf);exact qd h jB rfl rfl
  ·rw [qS];(conv=>whnf);obtain ⟨eI,qY,h⟩:=qj h;refine ⟨ql.pl,_,ai3 qY,?_⟩;(conv=>whnf);cases eI
   ·(conv=>whnf);replace h:=HX rfl h;obtain ⟨qR,rJ,h⟩:=qj h;refine ⟨ql.pl,_,ai5 rJ,?_⟩;(conv=>whnf);obtain ⟨q6,ra,h⟩:=qj h;refine ⟨ql.pl,_,ai9 ra,?_⟩;(conv=>whnf);refine bs h (fun q_ h=>?_) fun q_ h=>?_
    ·rw [q_];(conv=>whnf);refine bs h (fun rp h=>?_) fun rp h=>?_
     ·rw [rp];(conv=>whnf);refine bs h (fun qP h=>?_) fun qP h=>?_
      ·rw [qP];(conv=>whnf);exact qd h jB rfl rfl
      ·rw [qP];(conv=>whnf);exact qd h jB rfl rfl
     ·rw [rp];(conv=>whnf);exact qd h jB rfl rfl
    ·rw [q_];(conv=>whnf);exact qd h jB rfl rfl
   ·(conv=>whnf);replace h:=HY rfl h;exact qd h jB rfl rfl

end Go.Proofs.YtfakoboiahbhaaaGreat.Ab


namespace Go.Proofs.YtfakoboiahbhaaaGreat.Ab
open Go
section
variable {b:p5}
theorem MS.acS {R:List Row} (h:MS b R):R.flatten.length=b.2.length:=by
 have:=h.all.length_eq
 rwa [sX,Hx] at this
theorem Uj (p3:qA b):IY b=some ((JK b:Int),true):=by
 have di:=p3.len;obtain ⟨ad,qZ⟩:=Np p3;have ai:=qZ.short p3;have al:=acb p3 qZ.toRowsOf qZ.ne;rw [IY,ajd (by omega),sc,ajf (by omega),sc,VQ p3,if_pos (HU.2 p3)];rw [if_neg (by simp),if_neg (by simp),ai2 (by simp;omega) (fun r aj=>by have:=ai.2 r aj;omega),sc,if_neg (by decide),ai4 (by omega) (show (KX b).length≤1000 by omega) (show (KX b).flatten.length≤12 by have:=qZ.acS;omega),sc,ai6 (by omega) (show (KX b).length≤20 by omega) (fun r aj=>by have:=ai.2 r aj;omega),sc,al];simp [qZ.len]
end
end Go.Proofs.YtfakoboiahbhaaaGreat.Ab


namespace Go.Proofs.YtfakoboiahbhaaaGreat.Ab
open Go
set_option maxRecDepth 20000
set_option maxHeartbeats 4000000

end Go.Proofs.YtfakoboiahbhaaaGreat.Ab


namespace Go.Proofs.YtfakoboiahbhaaaGreat.Ab
open Go
section
variable {b:p5}
end
end Go.Proofs.YtfakoboiahbhaaaGreat.Ab


namespace Go.Proofs.YtfakoboiahbhaaaGreat.Ab
open Go
set_option maxRecDepth 20000
set_option maxHeartbeats 4000000
end Go.Proofs.YtfakoboiahbhaaaGreat.Ab


namespace Go.Proofs.YtfakoboiahbhaaaGreat.Ab
open Go
section
variable {b:p5}
def rest (b:p5) (e:Int):List Int:=(upto b.2.length).filter fun x=>decide (x≠e)
theorem Jy {e x:Int}:x∈rest b e↔x∈upto b.2.length∧x≠e:=by unfold rest;rw [sP,decide_eq_true_eq]
theorem Km {e:Int}:rD b (rest b e):=fun x ak=>rq.1 (Jy.1 ak).1
theorem VD {e f g:Int}:qT b (rest b e) f g↔rT b e f g:=by
 constructor
 ·intro h
  induction h with
  | refl=>exact rT.refl _
  | step i _ hi aC aI a9 =>
    refine a9.trans ?_;obtain ⟨ad,af⟩:=Jy.1 hi;have ad:=rq.1 ad;obtain ⟨j,rfl⟩:∃ j:Nat,i=(j:Int):=⟨i.toNat,by omega⟩;have he:=Ht.of (b:=b) (wo:=e) (i:=j) (by omega) af;rcases aC with rfl | rfl <;> rcases aI with rfl | rfl
    ·exact rT.refl _
    ·exact he.LZ
    ·exact he.symm.LZ
    ·exact rT.refl _
 ·rintro ⟨n,h⟩
  induction n generalizing g with
  | zero=>rw [show f=g from h];exact .refl
  | succ n a9 =>
    obtain ⟨c,ad,af⟩:=h;obtain ⟨i,hi,hw,aG⟩:=af.r3;refine .step (i:Int) (a9 ad) (Jy.2 ⟨rq.2 ⟨by omega,by omega⟩,hw⟩) ?_ ?_
    ·rcases aG with ⟨aG,_⟩ | ⟨aG,_⟩
     ·exact .inl aG
     ·exact .inr aG
    ·rcases aG with ⟨_,aG⟩ | ⟨_,aG⟩
     ·exact .inr aG
     ·exact .inl aG
section
variable {e:Int} (p3:qA b) (he:e∈upto b.2.length)
include p3 he
end
end
end Go.Proofs.YtfakoboiahbhaaaGreat.Ab
