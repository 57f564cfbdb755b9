
import Derived.Test.YtfakoboiahbhaaaGreatJb10
import Derived.Test.YtfakoboiahbhaaaGreatJb5
import Derived.Test.YtfakoboiahbhaaaGreatJb9
import Derived.KernelRfl
import Derived.Test.YtfakoboiahbhaaaGreatProg
import Derived.Test.YtfakoboiahbhaaaGreatJb6
set_option linter.unusedSimpArgs false
set_option linter.unusedVariables false
set_option linter.unusedSectionVars false

open Bool renaming and_true→uj,false_eq_true→ua
open List renaming all_cons→tJ,all_nil→ux,any_eq_true→vG,append_assoc→sH,append_nil→sW,append_of_mem→wc,drop_eq_getElem_cons→tn,drop_eq_nil_of_le→tB,drop_left'→wP,drop_zero→th,filter_append→uy,filter_cons→tx,filter_eq_self→uM,filter_nil→u_,flatten_cons→tO,getElem?_append→sy,getElem?_append_left→sQ,getElem?_append_right→s_,getElem?_drop→tr,getElem?_eq_getElem→sK,getElem?_eq_some_iff→sv,getElem?_map→sN,getElem?_replicate→vY,getElem?_set_ne→sJ,getElem?_set_self→sI,getElem_mem→sU,length_append→sC,length_cons→sV,length_eq_zero_iff→tu,length_filter_le→tW,length_map→td,length_pos_iff→tS,length_singleton→tz,length_take→tf,map_append→tj,map_cons→sG,map_drop→uC,map_map→uE,map_nil→tL,map_take→ur,mem_cons→sL,mem_cons_of_mem→uw,mem_filter→tc,mem_flatten→uG,mem_map→sM,mem_map_of_mem→uA,nil_append→t_,not_mem_nil→uL,pairwise_cons→tK,perm_ext_iff_of_nodup→uR,replicate_zero→we,set_getElem_self→u5,set_set→te,sum_cons→tX,take_append_drop→uW,take_left'→vK,take_length→tU,take_succ_cons→vo,take_succ_eq_append_getElem→tT,take_zero→tD
open Nat renaming ble_eq_true_of_le→uF,le_refl→sB,le_trans→tb,lt_succ_self→sA,min_eq_left→tI,mul_one→ud,pos_of_ne_zero→vv,sub_self→tY,zero_add→tg,zero_le→sP
open Option renaming bind_some→sx,map_some→sD
namespace Go.Proofs.YtfakoboiahbhaaaGreat.Ab
open Go
def M8 (l:Row):Row:=(l.map fun p=>(p.1,1-p.2)).reverse
section
variable {b:p9} {S:List Int}
theorem ajH {p:Int×Int} (h:0≤p.2∧p.2≤1):qE b (p.1,1-p.2)=fin b p∧fin b (p.1,1-p.2)=qE b p:=by
 unfold qE fin;rcases show p.2=0∨p.2=1 by omega with e | e
 ·simp [e]
 ·simp [e]
theorem Zd:∀ (l:Row) (a c:Int),(∀ p∈l,0≤p.2∧p.2≤1)→qN b a l=some c→qN b c (M8 l)=some a
 | [],a,c,_,h=>by
   have:a=c:=by simpa [qN] using h
   subst this;rfl
 | p::l,a,c,ad,h=>by
   obtain ⟨cb,b6⟩:=Jh.1 h;have a_:=Zd l _ c (fun q a0=>ad q (by simp [a0])) b6;have ay:=ajH (b:=b) (ad p (by simp));unfold M8 at a_ ⊢;rw [sG,List.reverse_cons,JG,a_,sx];exact Kh.2 ⟨ay.1,by rw [ay.2];exact cb⟩
theorem adE (l:Row):((M8 l).map (·.1)).Perm (l.map (·.1)):=by
 unfold M8;rw [List.map_reverse,uE];exact List.reverse_perm _
theorem U5:∀ (l:Row) (a c:Int),qN b a l=some c→∀ p∈l,rT b (l.map (·.1)) a (qE b p)∧rT b (l.map (·.1)) a (fin b p)
 | [],_,_,_,p,aB=>by simp at aB
 | q::l,a,c,h,p,aB=>by
   obtain ⟨cb,b6⟩:=Jh.1 h;have a0:rT b ((q::l).map (·.1)) a (fin b q):=.one (i:=q.1) (by simp) ((Ju q a).2 (.inl cb)) ((Ju q _).2 (.inr rfl));rcases sL.1 aB with rfl | aB
   ·exact ⟨by rw [cb];exact .refl,a0⟩
   ·have a_:=U5 l _ c b6 p aB;(have hm:∀ x∈l.map (·.1),x∈(q::l).map (·.1):=fun x ak=>by simp only [sG,sL];exact .inr ak);exact ⟨a0.trans (a_.1.mono hm),a0.trans (a_.2.mono hm)⟩
theorem Zf {l:Row} {a c:Int} (h:qN b a l=some c):L0 b (l.map (·.1)):=by
 intro x ak y aZ f g aP aO;obtain ⟨p,aB,rfl⟩:=sM.1 ak;obtain ⟨q,a0,rfl⟩:=sM.1 aZ;have al:∀ p∈l,∀ f,rb b p.1 f→rT b (l.map (·.1)) a f:=fun p aB f aP=>by
  rcases (Ju p f).1 aP with rfl | rfl
  ·exact (U5 l a c h p aB).1
  ·exact (U5 l a c h p aB).2
 exact (al p aB f aP).symm.trans (al q a0 g aO)
theorem L0.perm {S S':List Int} (h:L0 b S) (aB:S.Perm S'):L0 b S':=fun x ak y aZ f g aP aO=>(h x (aB.mem_iff.2 ak) y (aB.mem_iff.2 aZ) f g aP aO).mono fun z bk=>aB.mem_iff.1 bk
def K0 (b:p9) (S:List Int) (f:Int):Prop:=S=[]∨(L0 b S∧(∃ i∈S,rb b i f)∧(rF b S=[]∨((rF b S).length=2∧f∈rF b S)))
structure IH (b:p9) (S:List Int) (a c:Int) (l:Row):Prop where
 ok:∀ p∈l,Hx b p
 go:qN b a l=some c
 all:(l.map (·.1)).Perm S
theorem PE (p5:qS b) {p:Int×Int} (aB:Hx b p):(0≤qE b p∧qE b p<b.1)∧0≤fin b p∧fin b p<b.1:=by
 have hm:=HP.2 ⟨aB.1,aB.2.1⟩;exact ⟨PL p5 hm ((Ju p _).2 (.inl rfl)),PL p5 hm ((Ju p _).2 (.inr rfl))⟩
theorem Ze:∀ (l:Row) (a c:Int),l≠[]→qN b a l=some c→∃ p∈l,fin b p=c
 | [],_,_,h,_=>absurd rfl h
 | [p],a,c,_,h=>⟨p,by simp,(Kh.1 h).2⟩
 | p::q::l,a,c,_,h=>by
   obtain ⟨r,aj,e⟩:=Ze (q::l) _ c (by simp) (Jh.1 h).2;exact ⟨r,uw _ aj,e⟩
theorem IH.ends (p5:qS b) {a c:Int} {l:Row} (h:IH b S a c l) (aV:l≠[]):(0≤a∧a<b.1)∧(0≤c∧c<b.1)∧(∃ i∈S,rb b i a)∧∃ i∈S,rb b i c:=by
 obtain ⟨p,aB,e⟩:=Ze l a c aV h.go
 match l,aV,h with
 | q::l,_,h =>
   have ca:=(Jh.1 h.go).1;have ad:=PE p5 (h.ok q (by simp));have af:=PE p5 (h.ok p aB);rw [ca] at ad;rw [e] at af;exact ⟨ad.1,af.2,⟨q.1,h.all.mem_iff.1 (by simp),(Ju q _).2 (.inl ca)⟩,⟨p.1,h.all.mem_iff.1 (uA aB),(Ju p _).2 (.inr e)⟩⟩
theorem IH.TD (p5:qS b) {a c:Int} {l:Row} (h:IH b S a c l) (aV:l≠[]):(a=c→rF b S=[])∧(a≠c→(rF b S).Perm [a,c]):=by
 have XW:=fun v=>NN l a c v h.go;have bT:=p5.f6;obtain ⟨cc,al,_,_⟩:=h.ends p5 aV;have a3:∀ v,ru b (l.map (·.1)) v=ru b S v:=fun v=>M_ h.all v;constructor
 ·rintro rfl;refine List.eq_nil_iff_forall_not_mem.2 fun v ae=>?_;have ad:=(Nr.1 ae).2;have af:=XW v;rw [a3] at af;split at af <;> omega
 ·intro bO;refine (uR ((TE S).imp fun h e=>by omega) (by simp [bO])).2 fun v=>?_;have af:=XW v;rw [a3] at af;rw [Nr];simp only [sL,uL,or_false];constructor
  ·rintro ⟨_,ad⟩;by_cases e1:a=v
   ·exact .inl e1.symm
   ·by_cases ca:c=v
    ·exact .inr ca.symm
    ·rw [if_neg e1,if_neg ca] at af;omega
  ·rintro (rfl | rfl)
   ·rw [if_pos rfl,if_neg (Ne.symm bO)] at af;exact ⟨⟨cc.1,by omega⟩,by omega⟩
   ·rw [if_pos rfl,if_neg bO] at af;exact ⟨⟨al.1,by omega⟩,by omega⟩
theorem IH.back {a c:Int} {l:Row} (h:IH b S a c l):IH b S c a (M8 l):=by
 refine ⟨fun p aB=>?_,Zd l a c (fun p aB=>(h.ok p aB).2.2) h.go,(adE l).trans h.all⟩;unfold M8 at aB;obtain ⟨q,a0,rfl⟩:=sM.1 (List.mem_reverse.1 aB);have:=h.ok q a0;exact ⟨this.1,this.2.1,by simp only;have:=this.2.2;omega,by simp only;have:=this.2.2;omega⟩
theorem IH.aiG {a f:Int} {l:Row} (h:IH b S a a l) (aP:∃ i∈S,rb b i f):∃ l',IH b S f f l':=by
 obtain ⟨i,hi,nE⟩:=aP;obtain ⟨p,aB,rfl⟩:=sM.1 (h.all.mem_iff.2 hi);obtain ⟨dL,kV,rfl⟩:=wc aB;have HH:=h.go;rw [JG] at HH;obtain ⟨c,cb,b6⟩:=qm HH;obtain ⟨er,iF⟩:=Jh.1 b6;have mk:∀ {x y:Row} {f:Int},x++y=dL++p::kV→qN b a x=some f→qN b f y=some a→IH b S f f (y++x):=fun {x y f} e ad af=>by
  have JB:(y++x).Perm (dL++p::kV):=by rw [←e];exact List.perm_append_comm
  exact ⟨fun q a0=>h.ok q (JB.mem_iff.1 a0),by rw [JG,af];exact ad,(JB.map _).trans h.all⟩
 rcases (Ju p f).1 nE with rfl | rfl
 ·exact ⟨_,mk (x:=dL) (y:=p::kV) rfl (by rw [er];exact cb) (by rw [er];exact b6)⟩
 ·exact ⟨_,mk (x:=dL++[p]) (y:=kV) (by simp) (by rw [JG,cb];exact Kh.2 ⟨er,rfl⟩) iF⟩
theorem ae1 (p5:qS b) (cm:sa b S) (ao:S.length≤990) (aV:S≠[]) (bI:L0 b S):∃ R,VR b S R:=by
 obtain ⟨l,a,ad,af,aG⟩:=round_part p5 cm ao aV bI;exact ⟨_,YF p5 cm aV af aG⟩
theorem RowsOf.single {R:List Row} (h:RowsOf b S R) (ad:R.length=1):∃ l a c,R=[l]∧IH b S a c l:=by
 obtain ⟨l,rfl⟩:=List.length_eq_one_iff.1 ad;obtain ⟨a,c,aO⟩:=h.go l (by simp);exact ⟨l,a,c,rfl,h.ok l (by simp),aO,by simpa using h.all⟩
theorem SE (p5:qS b) (cm:sa b S) (ao:S.length≤990) {f:Int}:K0 b S f↔∃ l c,IH b S f c l:=by
 constructor
 ·rintro (rfl | ⟨bI,aP,aq⟩)
  ·exact ⟨[],f,fun p aB=>absurd aB (by simp),rfl,by simp⟩
  ·(have aV:S≠[]:=fun e=>by obtain ⟨i,hi,_⟩:=aP;rw [e] at hi;simp at hi);obtain ⟨R,jD⟩:=ae1 p5 cm ao aV bI;have hlen:=jD.len;have ad:R.length=1:=by
    rw [hlen];rcases aq with aq | aq
    ·rw [aq];rfl
    ·rw [aq.1];rfl
   obtain ⟨l,a,c,XK,bX⟩:=jD.toRowsOf.single ad;have jN:l≠[]:=jD.ne l (by rw [XK];simp);have JA:=bX.TD p5 jN;rcases aq with aq | ⟨af,afi⟩
   ·have:a=c:=Classical.byContradiction fun bO=>by
     have:=(JA.2 bO).length_eq;rw [aq] at this;simp at this
    subst this;obtain ⟨l',l5⟩:=bX.aiG aP;exact ⟨l',f,l5⟩
   ·(have bO:a≠c:=fun e=>by have:=JA.1 e;rw [this] at af;simp at af);have:=(JA.2 bO).mem_iff.1 afi;simp only [sL,uL,or_false] at this;rcases this with rfl | rfl
    ·exact ⟨l,c,bX⟩
    ·exact ⟨_,_,bX.back⟩
 ·rintro ⟨l,c,bX⟩;by_cases aV:l=[]
  ·subst aV;left;have:=bX.all.length_eq;simp at this;exact tu.1 this.symm
  ·right;refine ⟨(Zf bX.go).perm bX.all,(bX.ends p5 aV).2.2.1,?_⟩;have JA:=bX.TD p5 aV;by_cases e:f=c
   ·exact .inl (JA.1 e)
   ·exact .inr ⟨(JA.2 e).length_eq,(JA.2 e).mem_iff.2 (by simp)⟩
theorem aaO {s:List Int} {v:Int} (ai:s.length≤1000):∀ (m i:Nat) (z:Int),z=i→i≤s.length→s.length-i<m→Mz s v (fun _=>some (-1:Int)) m z=some (posOf (fun x=>decide (v=x)) (s.drop i) i)
 | 0,i,_,_,_,h=>absurd h (by omega)
 | m+1,i,_,rfl,hi,hm=>by
   rw [Mz];by_cases h:i<s.length
   ·rw [Kc h,H5 h,ry h,tn h,posOf];by_cases aB:v=s[i]
    ·rw [if_pos (decide_eq_true aB),if_pos (decide_eq_true aB)]
    ·rw [if_neg (by simpa using aB),if_neg (by simpa using aB),sm i (by omega),aaO ai m (i+1) _ rfl (by omega) (by omega)]
   ·rw [Kb h,tB (by omega)];rfl
theorem aku {s:List Int} {v:Int} (ai:s.length≤1000):Pf s v=some (decide (v∈s)):=by
 have:=aaO (v:=v) ai qc 0 0 rfl (sP _) (r6 (by omega));rw [th] at this;rw [Pf,Q5,this,sx,OW];congr 1;rw [Bool.eq_iff_iff];simp
def Mi (b:p9) (f i:Int):Bool:=decide ((ix b.2 i).1=f) || decide ((ix b.2 i).2=f)
theorem afh {f i:Int}:Mi b f i=true↔rb b i f:=by unfold Mi rb;simp
theorem akn (p5:qS b) (cm:sa b S) (aN:S.Nodup) (f:Int):∃ r:Bool,Mx b S f=some r∧(r=true↔K0 b S f):=by
 have ao:S.length≤b.2.length:=Lx aN cm;have dm:=p5.len;have amo:(rF b S).length≤6:=tb (tW _ _) (by rw [r_];omega);have mc:=Qm p5 cm;obtain ⟨out,ad,af,_⟩:=abl (b:=b) (S:=S) p5.len aN cm;rw [Mx,abi p5 cm (by omega),sx];by_cases aV:S=[]
 ·rw [if_pos (by simp [aV])];exact ⟨true,rfl,by simp [K0,aV]⟩
 ·rw [if_neg (by simpa using aV)];have ev:=af.one aV
  have XR:Ld S (fun qV=>N1 qV b f)=some (S.any (Mi b f)):=VF (fun x ak=>by
   have nS:=cm x ak;rw [N1,qz nS,qz nS];unfold Mi
   split <;> simp [*]) (by omega)
  have P2:S.any (Mi b f)=true↔∃ i∈S,rb b i f:=by
   rw [vG];simp only [afh]
  by_cases aG:2<(rF b S).length
  ·rw [if_pos (by simp;omega)];refine ⟨false,rfl,?_⟩;simp only [ua,false_iff];rintro (h | ⟨_,_,h | h⟩)
   ·exact aV h
   ·rw [h] at aG;simp at aG
   ·omega
  ·rw [if_neg (by simp;omega)];by_cases a6:(rF b S).length=2
   ·rw [if_pos (by simp [a6]),aku (by omega),sx];by_cases bM:f∈rF b S
    ·rw [if_pos (decide_eq_true bM),XR,sx];by_cases bT:S.any (Mi b f)=true
     ·rw [if_pos bT,ad,sx];refine ⟨_,rfl,?_⟩;rw [decide_eq_true_eq,show ((out.length:Int)=1↔out.length=1) by omega,ev];exact ⟨fun h=>.inr ⟨h,P2.1 bT,.inr ⟨a6,bM⟩⟩,fun h=>h.elim (fun h=>absurd h aV) fun h=>h.1⟩
     ·rw [if_neg bT];exact ⟨false,rfl,by simp only [ua,false_iff];exact fun h=>h.elim aV fun h=>bT (P2.2 h.2.1)⟩
    ·rw [if_neg (by simpa using bM)];refine ⟨false,rfl,?_⟩;simp only [ua,false_iff];rintro (h | ⟨_,_,h | h⟩)
     ·exact aV h
     ·rw [h] at a6;simp at a6
     ·exact bM h.2
   ·have cJ:rF b S=[]:=tu.1 (by omega);rw [if_neg (by simp;omega),XR,sx];by_cases bT:S.any (Mi b f)=true
    ·rw [if_pos bT,ad,sx];refine ⟨_,rfl,?_⟩;rw [decide_eq_true_eq,show ((out.length:Int)=1↔out.length=1) by omega,ev];exact ⟨fun h=>.inr ⟨h,P2.1 bT,.inl cJ⟩,fun h=>h.elim (fun h=>absurd h aV) fun h=>h.1⟩
    ·rw [if_neg bT];exact ⟨false,rfl,by simp only [ua,false_iff];exact fun h=>h.elim aV fun h=>bT (P2.2 h.2.1)⟩
end
end Go.Proofs.YtfakoboiahbhaaaGreat.Ab


namespace Go.Proofs.YtfakoboiahbhaaaGreat.Ab
open Go
set_option maxRecDepth 20000
set_option maxHeartbeats 4000000

end Go.Proofs.YtfakoboiahbhaaaGreat.Ab


namespace Go.Proofs.YtfakoboiahbhaaaGreat.Ab
open Go
set_option maxRecDepth 20000
set_option maxHeartbeats 4000000
end Go.Proofs.YtfakoboiahbhaaaGreat.Ab


namespace Go.Proofs.YtfakoboiahbhaaaGreat.Ab
open Go
def sr (S:List Int) (i:Int):List Int:=S.filter fun x=>decide (x≠i)
def Lp (b:p9) (S:List Int) (f:Int):Bool:=(Mx b S f).getD false
def Hs (b:p9) (S:List Int) (at_:Int) (p:Int×Int):Bool:=(decide (at_<0) || decide (qE b p=at_)) && Lp b (sr S p.1) (fin b p)
def IX (b:p9) (S:List Int) (at_ i:Int):Row:=[(i,0),(i,1)].filter (Hs b S at_)
def HU (b:p9) (S:List Int) (at_:Int):Row:=S.flatMap (IX b S at_)
def LB (b:p9):Nat→List Int→Row→Int→Row
 | 0,_,out,_=>out
 | m+1,S,out,at_=>match HU b S at_ with
   | []=>out
   | p::_=>LB b m (sr S p.1) (out++[p]) (fin b p)
def HX (b:p9):Row:=LB b (b.2.length+1) (upto b.2.length) [] (-1)
section
variable {b:p9} {S:List Int}
theorem SD (p5:qS b) (cm:sa b S) (aN:S.Nodup) (f:Int):Mx b S f=some (Lp b S f)∧(Lp b S f=true↔K0 b S f):=by
 obtain ⟨r,ad,af⟩:=akn p5 cm aN f
 have:Lp b S f=r:=by unfold Lp;rw [ad];rfl
 rw [this];exact ⟨ad,af⟩
theorem NY (cm:sa b S) (i:Int):sa b (sr S i):=fun x ak=>cm x (tc.1 ak).1
theorem Pc (aN:S.Nodup) (i:Int):(sr S i).Nodup:=aN.filter _
theorem Q3 (aN:S.Nodup) {i:Int} (hi:i∈S):S.Perm (i::sr S i):=by
 refine (uR aN ?_).2 fun x=>?_
 ·rw [List.nodup_cons];refine ⟨fun h=>?_,Pc aN i⟩;have:=(tc.1 h).2;simp at this
 ·rw [sL,sr,tc];constructor
  ·intro h;by_cases e:x=i
   ·exact .inl e
   ·exact .inr ⟨h,by simpa using e⟩
  ·rintro (rfl | h)
   ·exact hi
   ·exact h.1
theorem Qj {at_:Int} {p:Int×Int}:p∈HU b S at_↔p.1∈S∧(p.2=0∨p.2=1)∧Hs b S at_ p=true:=by
 unfold HU IX;rw [List.mem_flatMap];constructor
 ·rintro ⟨i,hi,h⟩;rw [tc] at h;obtain ⟨ad,af⟩:=h;simp only [sL,uL,or_false] at ad;rcases ad with rfl | rfl
  ·exact ⟨hi,.inl rfl,af⟩
  ·exact ⟨hi,.inr rfl,af⟩
 ·rintro ⟨ad,af,aG⟩;refine ⟨p.1,ad,tc.2 ⟨?_,aG⟩⟩;obtain ⟨bS,bZ⟩:=p;rcases af with af | af
  ·simp only at af;subst af;simp
  ·simp only at af;subst af;simp
def RS (b:p9) (S:List Int) (at_:Int):Prop:=(at_<0∧∃ f,K0 b S f)∨(0≤at_∧K0 b S at_)
theorem RS.next (p5:qS b) (cm:sa b S) (aN:S.Nodup) {at_:Int} (h:RS b S at_) (aV:S≠[]):HU b S at_≠[]:=by
 have ao:S.length≤990:=tb (Lx aN cm) (by have:=p5.len;omega);obtain ⟨f,aP,aO⟩:∃ f,(at_<0∨f=at_)∧K0 b S f:=by
  rcases h with ⟨ad,f,af⟩ | ⟨_,af⟩
  ·exact ⟨f,.inl ad,af⟩
  ·exact ⟨_,.inr rfl,af⟩
 obtain ⟨l,c,bX⟩:=(SE p5 cm ao).1 aO
 match l,bX with
 | [],bX =>
   have:=bX.all.length_eq;simp at this;exact absurd (tu.1 this.symm) aV
 | p::l,bX =>
   obtain ⟨cb,b6⟩:=Jh.1 bX.go;have aB:=bX.ok p (by simp);have P':p.1∈S:=bX.all.mem_iff.1 (by simp);have JB:(l.map (·.1)).Perm (sr S p.1):=by
    have:=bX.all.trans (Q3 aN P');rw [sG] at this;exact this.cons_inv
   have HH:K0 b (sr S p.1) (fin b p):=(SE p5 (NY cm _) (tb (tW _ _) ao)).2 ⟨l,c,fun q a0=>bX.ok q (by simp [a0]),b6,JB⟩
   have hm:p∈HU b S at_:=Qj.2 ⟨P',by have:=aB.2.2;omega,by
    unfold Hs;rw [(SD p5 (NY cm _) (Pc aN _) _).2.2 HH];rcases aP with aP | rfl
    ·simp [aP]
    ·simp [cb]⟩
   intro e;rw [e] at hm;simp at hm
theorem YA (p5:qS b):∀ (m:Nat) (S:List Int) (out:Row) (at_:Int),S.length<m→sa b S→S.Nodup→RS b S at_→∃ l f c,LB b m S out at_=out++l∧IH b S f c l∧(0≤at_→f=at_)
 | 0,_,_,_,h,_,_,_=>absurd h (by omega)
 | m+1,S,out,at_,hm,cm,aN,aO=>by
   rw [LB];by_cases aV:S=[]
   ·subst aV;refine ⟨[],at_,at_,by simp [HU],⟨fun p aB=>absurd aB (by simp),rfl,by simp⟩,fun _=>rfl⟩
   ·have bO:=aO.next p5 cm aN aV
    match he:HU b S at_,bO with
    | p::r,_ =>
      have aB:=Qj.1 (show p∈HU b S at_ by rw [he];simp);obtain ⟨ad,af,aG⟩:=aB;unfold Hs at aG;rw [Bool.and_eq_true,Bool.or_eq_true,decide_eq_true_eq,decide_eq_true_eq] at aG;have HH:=(SD p5 (NY cm p.1) (Pc aN p.1) (fin b p)).2.1 aG.2;have bQ:Hx b p:=⟨(cm _ ad).1,(cm _ ad).2,by omega,by omega⟩;have aS:=(Q3 aN ad).length_eq;rw [sV] at aS;obtain ⟨l,f,c,e1,ca,dx⟩:=YA p5 m (sr S p.1) (out++[p]) (fin b p) (by omega) (NY cm _) (Pc aN _) (.inr ⟨(PE p5 bQ).2.1,HH⟩);have dx:=dx (PE p5 bQ).2.1;subst dx;refine ⟨p::l,qE b p,c,by simp only;rw [e1];simp,⟨fun q a0=>?_,Jh.2 ⟨rfl,ca.go⟩,?_⟩,fun h=>?_⟩
      ·rcases sL.1 a0 with rfl | a0
       ·exact bQ
       ·exact ca.ok q a0
      ·rw [sG];exact (ca.all.cons _).trans (Q3 aN ad).symm
      ·rcases aG.1 with aG | aG
       ·omega
       ·exact aG
theorem ahk (p5:qS b) (aV:0<b.2.length) (ad:H2 b≤1):∃ f,K0 b (upto b.2.length) f:=by
 obtain ⟨R,jD,rN⟩:=Re p5;have hlen:=rN.len;have Mk:0<R.length:=by
  refine vv fun e=>?_;have:=rN.all.length_eq;rw [tu.1 e,r_] at this;simp at this;omega
 obtain ⟨l,a,c,_,bX⟩:=rN.toRowsOf.single (by omega);have dm:=p5.len;exact ⟨a,(SE p5 LK (by rw [r_];omega)).2 ⟨l,c,bX⟩⟩
theorem YB (p5:qS b) (aV:0<b.2.length) (ad:H2 b≤1):∃ f c,IH b (upto b.2.length) f c (HX b):=by
 obtain ⟨l,f,c,e,bX,_⟩:=YA p5 (b.2.length+1) (upto b.2.length) [] (-1) (by rw [r_];omega) LK (IQ _) (.inl ⟨by omega,ahk p5 aV ad⟩);refine ⟨f,c,?_⟩;unfold HX;rw [e,t_];exact bX
def IB (b:p9):Int:=if rQ b≠0 then rQ b else if b.2.length=0 then 5 else if 1<H2 b then 27 else 0
def Ns (b:p9):Row×Int:=if IB b≠0 then ([],IB b) else (HX b,0)
theorem TF:IB b=0↔qS b∧0<b.2.length∧H2 b≤1:=by
 rw [←I'];unfold IB;split
 ·rename_i h;exact ⟨fun e=>absurd e h,fun e=>absurd e.1 h⟩
 ·rename_i h;have h:rQ b=0:=by omega
  split
  ·constructor
   ·intro h;omega
   ·rintro ⟨_,h,_⟩;omega
  ·split
   ·constructor
    ·intro h;omega
    ·rintro ⟨_,_,h⟩;omega
   ·exact ⟨fun _=>⟨h,by omega,by omega⟩,fun _=>rfl⟩
end
end Go.Proofs.YtfakoboiahbhaaaGreat.Ab


namespace Go.Proofs.YtfakoboiahbhaaaGreat.Ab
open Go
section
variable {b:p9} {S:List Int}
def I1 (r:List Int):Row→Bool
 | []=>false
 | p::_=>decide (p.1∈r)
theorem RowsOf.X4 {P:List (List Int)} {R:List Row} (CD:rE b (upto b.2.length) P) {q:Row} {a c:Int} (bQ:∀ p∈q,Hx b p) (aO:qN b a q=some c) {r:List Int} (aj:r∈P) {p KM:Int×Int} (aB:p∈q) (P_:KM∈q) (h:p.1∈r):KM.1∈r:=by
 have JC:∀ x∈q.map (·.1),x∈upto b.2.length:=fun x ak=>by
  obtain ⟨p,aB,rfl⟩:=sM.1 ak;exact HP.2 ⟨(bQ p aB).1,(bQ p aB).2.1⟩
 have al:=(Zf aO) p.1 (uA aB) KM.1 (uA P_) (qE b p) (qE b KM) ((Ju p _).2 (.inl rfl)) ((Ju KM _).2 (.inl rfl));exact CD.closed aj h ((Ju p _).2 (.inl rfl)) (al.mono JC) KM.1 (JC _ (uA P_)) ((Ju KM _).2 (.inl rfl))
theorem aez {R:List Row} {q:Row→Bool}:(((R.filter q).flatten).map (·.1)).Sublist (R.flatten.map (·.1)):=by
 refine List.Sublist.map _ ?_
 induction R with
 | nil=>simp
 | cons r R a_ =>
   rw [tx];split
   ·rw [tO,tO];exact List.Sublist.append (List.Sublist.refl _) a_
   ·rw [tO];exact a_.trans (List.sublist_append_right _ _)
theorem ahr {P:List (List Int)} {R:List Row} (CD:rE b (upto b.2.length) P) (jD:RowsOf b (upto b.2.length) R) {r:List Int} (aj:r∈P):RowsOf b r (R.filter (I1 r)):=by
 refine ⟨fun q a0=>jD.ok q (tc.1 a0).1,fun q a0=>jD.go q (tc.1 a0).1,?_⟩;have jR:(R.flatten.map (·.1)).Nodup:=jD.all.nodup_iff.2 (IQ _);refine (uR (aez.nodup jR) ((CD.so r aj).imp fun h e=>by omega)).2 fun x=>?_;constructor
 ·intro ak;obtain ⟨p,aB,rfl⟩:=sM.1 ak;obtain ⟨q,a0,Lw⟩:=uG.1 aB;obtain ⟨KJ,bI⟩:=tc.1 a0;obtain ⟨a,c,aO⟩:=jD.go q KJ
  match q,Lw,bI,KJ,aO with
  | Nu::fT,Lw,bI,KJ,aO =>
    have bI:Nu.1∈r:=of_decide_eq_true bI;exact RowsOf.X4 (R:=R) CD (jD.ok _ KJ) aO aj (by simp) Lw bI
 ·intro ak;have Mn:=(CD.mem x).2 ⟨r,aj,ak⟩;obtain ⟨p,aB,rfl⟩:=sM.1 (jD.all.mem_iff.2 Mn);obtain ⟨q,KJ,Lw⟩:=uG.1 aB;refine uA (uG.2 ⟨q,tc.2 ⟨KJ,?_⟩,Lw⟩);obtain ⟨a,c,aO⟩:=jD.go q KJ
  match q,Lw,KJ,aO with
  | Nu::fT,Lw,KJ,aO=>exact decide_eq_true (RowsOf.X4 (R:=R) CD (jD.ok _ KJ) aO aj Lw (by simp) ak)
theorem afg {P:List (List Int)} (a3:P.Pairwise fun r q=>∀ x∈r,x ∉ q) (q:Row):(P.map fun r=>if I1 r q=true then 1 else 0).sum≤1:=by
 induction P with
 | nil=>simp
 | cons r P a_ =>
   obtain ⟨ad,af⟩:=tK.1 a3;rw [sG,tX];by_cases h:I1 r q=true
   ·rw [if_pos h]
    have:(P.map fun r=>if I1 r q=true then 1 else 0).sum=0:=by
     have:∀ r'∈P,I1 r' q=false:=fun r' nL=>by
      match q,h with
      | p::fT,h =>
        have h:p.1∈r:=of_decide_eq_true h;exact decide_eq_false (ad r' nL _ h)
     clear a_ a3 ad af
     induction P with
     | nil=>rfl
     | cons r' P a_ =>
       rw [sG,tX,this r' (by simp),a_ fun ahJ afH=>this ahJ (by simp [afH])];rfl
    omega
   ·rw [if_neg h];have:=a_ af;omega
theorem Zn {P:List (List Int)} (a3:P.Pairwise fun r q=>∀ x∈r,x ∉ q):∀ R:List Row,(P.map fun r=>(R.filter (I1 r)).length).sum≤R.length
 | []=>by
   have:∀ P:List (List Int),(P.map fun r=>(([]:List Row).filter (I1 r)).length).sum=0:=fun P=>by
    induction P with
    | nil=>rfl
    | cons r P a_=>rw [sG,tX,a_];rfl
   rw [this];exact sP _
 | q::R=>by
   have a_:=Zn a3 R;have ad:=afg a3 q;have add:∀ P:List (List Int),(P.map fun r=>((q::R).filter (I1 r)).length).sum=(P.map fun r=>if I1 r q=true then 1 else 0).sum+(P.map fun r=>(R.filter (I1 r)).length).sum:=fun P=>by
    induction P with
    | nil=>rfl
    | cons r P a_ =>
      rw [sG,tX,a_,sG,tX,sG,tX,tx];by_cases h:I1 r q=true
      ·rw [if_pos h,if_pos h,sV];omega
      ·rw [if_neg h,if_neg h];omega
   rw [add,sV];omega
theorem Zy {α:Type} (f g:α→Nat):∀ l:List α,(∀ x∈l,f x≤g x)→(l.map f).sum≤(l.map g).sum
 | [],_=>sB _
 | x::l,h=>by
   rw [sG,sG,tX,tX];have ad:=h x (by simp);have af:=Zy f g l fun y aZ=>h y (by simp [aZ]);omega
theorem Xh (p5:qS b) {R:List Row} (jD:RowsOf b (upto b.2.length) R):H2 b≤R.length:=by
 have CD:=(VB p5).2.1;refine tb (Zy _ (fun r=>(R.filter (I1 r)).length) _ fun r aj=>?_) (Zn CD.rS R);have ai:=ahr CD jD aj;have ad:=ai.few;have af:((R.filter (I1 r)).filter fun r:Row=>!r.isEmpty).length≤(R.filter (I1 r)).length:=tW _ _;have aG:0<(R.filter (I1 r)).length:=by
  refine vv fun e=>CD.ne r aj ?_;have:=ai.all.length_eq;rw [tu.1 e] at this;simp at this;exact tu.1 this.symm
 unfold JY;omega
theorem So:∀ (r pre:Row),((pre++r).map (·.1)).Nodup→HM pre r=false
 | [],_,_=>rfl
 | p::r,pre,h=>by
   rw [HM,if_neg]
   ·exact So r (pre++[p]) (by simpa using h)
   ·intro ak;obtain ⟨q,a0,e⟩:=vG.1 ak;have e:=of_decide_eq_true e;rw [tj,List.nodup_append] at h;exact h.2.2 q.1 (uA a0) p.1 (by simp) e
theorem PH (p5:qS b) {r:Row} {a c:Int} (aV:r≠[]) (bQ:∀ p∈r,Hx b p) (aN:(r.map (·.1)).Nodup) (aO:qN b a r=some c):rM b r=(a,c,0):=by
 unfold rM;rw [if_neg (by rw [I'.2 p5];simp)]
 match r,aV,bQ,aN,aO with
 | p::r,_,bQ,aN,aO =>
   have ad:((p::r).any (Hr b))=false:=by
    rw [List.any_eq_false];intro q a0;rw [Bool.not_eq_true];exact Mv.2 (bQ q a0)
   have af:HM [] (p::r)=false:=So _ _ (by simpa using aN);have aG:=(Jh.1 aO).1;dsimp only;rw [if_neg (by rw [ad];simp),if_neg (by rw [af];simp),aG,aO]
def IY (b:p9) (rows:List Row):Int×Int:=if rQ b≠0 then (0,rQ b) else match rows.find? fun r=>decide ((rM b r).2.2≠0) with
 | some r=>(0,(rM b r).2.2)
 | none=>if ((rows.flatten).map (·.1)).Nodup then (if (rows.flatten).length≠b.2.length then (0,15) else (rows.length,0)) else (0,11)
theorem ad1 (p5:qS b) {R:List Row} (jD:RowsOf b (upto b.2.length) R) (bO:∀ r∈R,r≠[]):IY b R=((R.length:Int),0):=by
 have jR:((R.flatten).map (·.1)).Nodup:=jD.all.nodup_iff.2 (IQ _);have ao:=jD.all.length_eq;rw [td,r_] at ao;unfold IY;have aP:(R.find? fun r=>decide ((rM b r).2.2≠0))=none:=List.find?_eq_none.2 fun r aj=>by
  obtain ⟨a,c,aO⟩:=jD.go r aj;have zj:(r.map (·.1)).Sublist ((R.flatten).map (·.1)):=by
   refine List.Sublist.map _ ?_;obtain ⟨s,t,rfl⟩:=wc aj;simp
  rw [PH p5 (bO r aj) (jD.ok r aj) (zj.nodup jR) aO];simp
 rw [if_neg (by rw [I'.2 p5];simp),aP];simp only;rw [if_pos jR,if_neg (by omega)]
end
end Go.Proofs.YtfakoboiahbhaaaGreat.Ab


namespace Go.Proofs.YtfakoboiahbhaaaGreat.Ab
open Go
set_option maxRecDepth 20000
set_option maxHeartbeats 4000000
noncomputable def Ry:fW :=
 .loop (some (qb false [1,2,3,2,57])) (.seq (pZ [p1 17 7,p1 18 1,qI 19 18,qT 20 17 19 .lss] (.cond (.sl 20) .skip (.exit 0))) (.seq (.block 1 (.seq (sj [GC 24 [.sl 2] (.zy (.str 2)),p1 25 1,p1 26 7,qZ 27 25 26 1,qo 28 27,GC 29 [.lT (.func 19 [] []),.sl 24,.sl 28] (.call 3),pY 23 29,rI 30 23 0,rI 31 23 1,rI 32 23 2,pY 8 30,pY 9 31,pY 10 32]) (.seq (pZ [p1 33 10,qA 34 33 0 .neq] (.cond (.sl 34) (pZ [pY 35 10,qd 4 0,pY 5 35] .ret) .skip)) (qK [pY 36 6,p1 37 1,p1 38 7,qZ 39 37 38 1,qo 40 39,GC 41 [.jh 36,.jh 40] (.app 2 16),pY 6 41])))) (qK [pY 21 7,qU 22 21 1,pY 7 22])))
noncomputable def Rz:fW :=
 .loop (some (qb false [1,2,3,1,4,1,53])) (.seq (pZ [p1 42 11,p1 43 6,qI 44 43,qT 45 42 44 .lss] (.cond (.sl 45) .skip (.exit 2))) (.seq (.block 3 (.seq (sj [p1 48 6,p1 49 11,GC 50 [.jh 48,.jh 49] (.Bh 2 false true false),p1 51 6,p1 52 11,qZ 53 51 52 2,qW 54 53 0,qo 55 54,GC 56 [.lT (.func 69 [] []),.sl 50,.sl 55] (.call 3)]) (.cond (.sl 56) (pZ [qd 4 0,qd 5 11] .ret) .skip))) (qK [pY 46 11,qU 47 46 1,pY 11 47])))
noncomputable def abT:fW :=
 pZ [GC 2 [.jh 0] .box,qd 4 0,qd 5 0] (.seq (pZ [GC 12 [.sl 2] (.zy (.str 2)),GC 13 [.lT (.func 21 [] []),.sl 12] (.call 3),qA 14 13 0 .neq] (.cond (.sl 14) (pZ [GC 15 [.Bt 2] (.zy (.str 2)),GC 16 [.lT (.func 21 [] []),.sl 15] (.call 3),qd 4 0,pY 5 16] .ret) .skip)) (pZ [GC 6 [.lT (.ax [] 0 .full)] (.nil 2)] (.seq (pZ [qd 7 0] (.block 0 Ry)) (.seq (pZ [qd 11 0] (.block 2 Rz)) (.seq (pZ [pY 57 6,qI 58 57,qW 59 2 1,qo 60 59,qI 61 60,qT 62 58 61 .neq] (.cond (.sl 62) (pZ [qd 4 0,qd 5 15] .ret) .skip)) (pZ [pY 63 1,qI 64 63,pY 4 64,qd 5 0] .ret))))))
theorem agC:zE Tryz.prog Pz 26=some (abT,65,[.tmp 4,.tmp 5]):=by kernel_rfl
def MI (b:qn) (rows:qh) (qq:p8→Option (Int×Int)):Nat→p8→Int→Option (Int×Int)
 | 0,_,_=>none
 | m+1,s1,s2 =>
   if (decide (s2<(rows.length:Int)))=true then
    qg (0≤s2∧s2<(rows.length:Int)) <|
    (MC b (ix rows s2)).bind fun eL =>
    if (decide (eL.2.2≠(0:Int)))=true then
     some ((0:Int),eL.2.2)
    else
     qg (0≤s2∧s2<(rows.length:Int)) <|
     qg ((s1.length+(ix rows s2).length)*16≤140737488355328) <|
     MI b rows qq m (s1++(ix rows s2)) (w (s2+(1:Int)))
   else
    qq s1
def MJ (yh:p8) (qM:Unit→Option (Int×Int)):Nat→Int→Option (Int×Int)
 | 0,_=>none
 | m+1,di =>
   if (decide (di<(yh.length:Int)))=true then
    qg (0≤di∧di≤(yh.length:Int)) <|
    qg (0≤di∧di<(yh.length:Int)) <|
    (ML (yh.take di.toNat) ((ix yh di).1)).bind fun q6 =>
    if q6=true then
     some ((0:Int),(11:Int))
    else
     MJ yh qM m (w (di+(1:Int)))
   else
    qM ()
def Pm (b:qn) (rows:qh):Option (Int×Int) :=
 (KR b).bind fun aT =>
 if (decide (aT≠(0:Int)))=true then
  (KR b).bind fun r2 =>
  some ((0:Int),r2)
 else
  MI b rows (fun yh =>
    MJ yh (fun _ =>
      if (decide ((yh.length:Int)≠(b.2.length:Int)))=true then
       some ((0:Int),(15:Int))
      else
       some ((rows.length:Int),(0:Int))) qc (0:Int)) qc ([]:List (Int×Int)) (0:Int)
theorem akQ {b:qn} {rows:qh} {qq:p8→Option (Int×Int)} {s1:p8} {s2:Int} {v:(Int×Int)} {Q:rf}   (jD:qR [.tmp 4,.tmp 5] Q (fun v=>(.tuple [(hW v.1),(hW v.2)])) v) (r9:∀ (yh:p8) (p7:List I),qq yh=some v→qQ 65 [(1,(.ax (rows.map (qk p0)) rows.length .shared)),(2,(.ptr 0 0)),(6,(p4 yh (.uniq 2)))] p7→Q (.exit 0) p7 [qD b]) {T:List I} (bX:e0 (qb false [1,2,3,2,57]) T=Hc 65 [(1,(.ax (rows.map (qk p0)) rows.length .shared)),(2,(.ptr 0 0)),(6,(p4 s1 (.uniq 2))),(7,(hW s2))]) (h:MI b rows qq qc s1 s2=some v) :
  dR Tryz.prog Pz 26 0 none Ry T [qD b] Q:=by
 unfold Ry;refine wp_loop bX ?_;refine .intro (fun m T H=>∃ (s1:p8) (s2:Int),T=Hc 65 [(1,(.ax (rows.map (qk p0)) rows.length .shared)),(2,(.ptr 0 0)),(6,(p4 s1 (.uniq 2))),(7,(hW s2))]∧H=[qD b]∧MI b rows qq m s1 s2=some v) qc ⟨s1,s2,rfl,rfl,h⟩ ?_;clear h bX;rintro m T H ⟨s1,s2,rfl,rfl,h⟩;cases m
 ·exact rj h
 rename_i m;rw [MI.eq_2] at h;conv=>whnf
 refine bs h (fun qF h=>?_) fun qF h=>?_
 ·rw [qF];conv=>whnf
  refine qx h id fun qH h=>?_;rw [se (qk p0) rows s2 qH];conv=>whnf
  obtain ⟨eL,ra,h⟩:=qm h;refine ⟨qw.pl,_,akG ra,HS,?_⟩;conv=>whnf
  refine bs h (fun q7 h=>?_) fun q7 h=>?_
  ·rw [q7];(conv=>whnf);exact qi h jD rfl rfl
  ·rw [q7];(conv=>whnf);refine qx h id fun q8 h=>?_;rw [se (qk p0) rows s2 q8];(conv=>whnf);obtain ⟨rp,h⟩:=qC h;refine ⟨by first | rfl | (simp;done) | exact rz p0 _ qv _,by have:=rp;omega,rfl,rp,?_⟩
   erw [PC p0 s1 (ix rows s2)];(conv=>whnf);exact ⟨m,sA m,(s1++(ix rows s2)),(w (s2+(1:Int))),rfl,rfl,h⟩
 ·rw [qF];conv=>whnf
  exact r9 _ _ h ⟨rfl,rfl⟩
theorem akR {yh:p8} {qM:Unit→Option (Int×Int)} {di:Int} {b:qn} {rows:qh} {v:(Int×Int)} {Q:rf}   {Im:hv} (jD:qR [.tmp 4,.tmp 5] Q (fun v=>(.tuple [(hW v.1),(hW v.2)])) v) (Ie:∀ (p7:List I),qM ()=some v→qQ 65 [(1,(.ax (rows.map (qk p0)) rows.length .shared)),(2,(.ptr 0 0)),(6,(p4 yh (.own 2)))] p7→Q (.exit 2) p7 [qD b]) (Me:(Im=(.uniq 2)∨Im=(.own 2))) {T:List I} (bX:e0 (qb false [1,2,3,1,4,1,53]) T=Hc 65 [(1,(.ax (rows.map (qk p0)) rows.length .shared)),(2,(.ptr 0 0)),(6,(.ax (yh.flatMap p0) yh.length Im)),(11,(hW di))]) (h:MJ yh qM qc di=some v) :
  dR Tryz.prog Pz 26 0 none Rz T [qD b] Q:=by
 unfold Rz;refine wp_loop bX ?_;refine .intro (fun m T H=>∃ (di:Int) (Im:hv),(Im=(.uniq 2)∨Im=(.own 2))∧T=Hc 65 [(1,(.ax (rows.map (qk p0)) rows.length .shared)),(2,(.ptr 0 0)),(6,(.ax (yh.flatMap p0) yh.length Im)),(11,(hW di))]∧H=[qD b]∧MJ yh qM m di=some v) qc ⟨di,_,Me,rfl,rfl,h⟩ ?_;clear h bX;rintro m T H ⟨di,Im,Me,rfl,rfl,h⟩;cases m
 ·exact rj h
 rename_i m;rw [MJ.eq_2] at h;rcases Me with rfl | rfl
 ·conv=>whnf
  refine bs h (fun qP h=>?_) fun qP h=>?_
  ·rw [qP];(conv=>whnf);refine qx h id fun rq h=>?_;erw [NP p0 2 qv yh di rq];(conv=>whnf);refine qx h id fun rV h=>?_;rw [qX p0 2 qv yh di rV];(conv=>whnf);obtain ⟨q6,rD,h⟩:=qm h;refine ⟨qw.pl,_,Kn rD,HS,?_⟩;(conv=>whnf);cases q6
   ·(conv=>whnf);replace h:=Hl rfl h;exact ⟨m,sA m,(w (di+(1:Int))),_,(.inr rfl),rfl,rfl,h⟩
   ·(conv=>whnf);replace h:=Hm rfl h;exact qi h jD rfl rfl
  ·rw [qP];(conv=>whnf);exact Ie  _ h ⟨rfl,rfl⟩
 ·conv=>whnf
  refine bs h (fun qP h=>?_) fun qP h=>?_
  ·rw [qP];(conv=>whnf);refine qx h id fun rq h=>?_;erw [NP p0 2 qv yh di rq];(conv=>whnf);refine qx h id fun rV h=>?_;rw [qX p0 2 qv yh di rV];(conv=>whnf);obtain ⟨q6,rD,h⟩:=qm h;refine ⟨qw.pl,_,Kn rD,HS,?_⟩;(conv=>whnf);cases q6
   ·(conv=>whnf);replace h:=Hl rfl h;exact ⟨m,sA m,(w (di+(1:Int))),_,(.inr rfl),rfl,rfl,h⟩
   ·(conv=>whnf);replace h:=Hm rfl h;exact qi h jD rfl rfl
  ·rw [qP];(conv=>whnf);exact Ie  _ h ⟨rfl,rfl⟩
theorem akS {b:qn} {rows:qh} {v:(Int×Int)} (h:Pm b rows=some v):qB 26 [(.agg [(hW b.1),(.ax (b.2.flatMap p0) b.2.length .shared)]),(.ax (rows.map (qk p0)) rows.length .shared)] (.tuple [(hW v.1),(hW v.2)]):=by
 refine q5 et agC rfl (JZ (p2 rfl (p2 rfl rfl))) fun Q bp=>?_;have jD:qR [.tmp 4,.tmp 5] Q (fun v=>(.tuple [(hW v.1),(hW v.2)])) v:=fun T H bI=>bp _ T H bI;unfold Pm at h;unfold abT;obtain ⟨II,q'⟩:∃ c,Ry=c:=⟨_,rfl⟩;rw [q'];obtain ⟨L7,Hj⟩:∃ c,Rz=c:=⟨_,rfl⟩;rw [Hj];conv=>whnf
 obtain ⟨aT,gG,h⟩:=qm h;refine ⟨qw.pl,_,Pl gG,?_⟩;conv=>whnf
 refine bs h (fun gH h=>?_) fun gH h=>?_
 ·rw [gH];conv=>whnf
  obtain ⟨r2,qs,h⟩:=qm h;refine ⟨qw.pl,_,Pl qs,?_⟩;conv=>whnf
  exact qi h jD rfl rfl
 ·rw [gH];conv=>whnf
  subst q';refine akQ ?_ ?_ (by exact rfl) h
  ·exact fun T H bI=>jD T H bI
  ·intro yh p7 h qe;obtain ⟨qG,rfl⟩:=qe.ex;(conv=>whnf);subst Hj;refine akR ?_ ?_ (.inl rfl) (by exact rfl) h
   ·exact fun T H bI=>jD T H bI
   ·intro  p7 h qe;obtain ⟨qG,rfl⟩:=qe.ex;(conv=>whnf);refine bs h (fun HF h=>?_) fun HF h=>?_
    ·rw [HF];(conv=>whnf);exact qi h jD rfl rfl
    ·rw [HF];(conv=>whnf);exact qi h jD rfl rfl

noncomputable def Rx:fW :=
 .loop (some (qb false [0,1,2,2,17])) (.seq (pZ [p1 7 4,p1 8 0,qI 9 8,qT 10 7 9 .lss] (.cond (.sl 10) .skip (.exit 0))) (.seq (.block 1 (qK [pY 13 3,p1 14 0,p1 15 4,qZ 16 14 15 1,qo 17 16,qI 18 17,GC 19 [.jh 13,.jh 18] .max,pY 3 19])) (qK [pY 11 4,qU 12 11 1,pY 4 12])))
noncomputable def abS:fW :=
 pZ [GC 2 [.lT (.bool false)] .mP] (pZ [p1 5 0,qI 6 5,pY 3 6] (.seq (pZ [qd 4 0] (.block 0 Rx)) (pZ [pY 20 3,qA 21 20 14 .gtr,pY 2 21] .ret)))
theorem agB:zE Tryz.prog R4 24=some (abS,22,[.tmp 2]):=by kernel_rfl
def MH (l:qh) (qq:Int→Option Bool):Nat→Int→Int→Option Bool
 | 0,_,_=>none
 | m+1,s1,s2 =>
   if (decide (s2<(l.length:Int)))=true then
    qg (0≤s2∧s2<(l.length:Int)) <|
    MH l qq m (max s1 ((ix l s2).length:Int)) (w (s2+(1:Int)))
   else
    qq s1
def N3 (l:qh):Option Bool :=
 MH l (fun yh =>
   some (decide ((14:Int)<yh))) qc (l.length:Int) (0:Int)
theorem akK {l:qh} {qq:Int→Option Bool} {s1:Int} {s2:Int} {v:Bool} {Q:rf}   (r9:∀ (yh:Int) (p7:List I),qq yh=some v→qQ 22 [(3,(hW yh))] p7→Q (.exit 0) p7 []) {T:List I} (bX:e0 (qb false [0,1,2,2,17]) T=Hc 22 [(0,(.ax (l.map (qk p0)) l.length .shared)),(3,(hW s1)),(4,(hW s2))]) (h:MH l qq qc s1 s2=some v) :
  dR Tryz.prog R4 24 0 none Rx T [] Q:=by
 unfold Rx;refine wp_loop bX ?_;refine .intro (fun m T H=>∃ (s1 s2:Int),T=Hc 22 [(0,(.ax (l.map (qk p0)) l.length .shared)),(3,(hW s1)),(4,(hW s2))]∧H=[]∧MH l qq m s1 s2=some v) qc ⟨s1,s2,rfl,rfl,h⟩ ?_;clear h bX;rintro m T H ⟨s1,s2,rfl,rfl,h⟩;cases m
 ·exact rj h
 rename_i m;rw [MH.eq_2] at h;conv=>whnf
 refine bs h (fun gG h=>?_) fun gG h=>?_
 ·rw [gG];conv=>whnf
  refine qx h id fun gH h=>?_;rw [se (qk p0) l s2 gH];conv=>whnf
  exact ⟨m,sA m,(max s1 ((ix l s2).length:Int)),(w (s2+(1:Int))),rfl,rfl,h⟩
 ·rw [gG];conv=>whnf
  exact r9 _ _ h ⟨rfl,rfl⟩
theorem akM {l:qh} {v:Bool} (h:N3 l=some v):qB 24 [(.ax (l.map (qk p0)) l.length .shared)] (B v):=by
 refine q5 et agB rfl rfl fun Q bp=>?_;have jD:qR [.tmp 2] Q (fun v=>(B v)) v:=fun T H bI=>bp _ T H bI;unfold N3 at h;unfold abS;obtain ⟨II,q'⟩:∃ c,Rx=c:=⟨_,rfl⟩;rw [q'];conv=>whnf
 subst q';refine akK ?_ (by exact rfl) h;intro yh p7 h qe;obtain ⟨qG,rfl⟩:=qe.ex;conv=>whnf
 exact qi h jD rfl rfl

end Go.Proofs.YtfakoboiahbhaaaGreat.Ab


namespace Go.Proofs.YtfakoboiahbhaaaGreat.Ab
open Go
set_option maxRecDepth 20000
set_option maxHeartbeats 4000000
end Go.Proofs.YtfakoboiahbhaaaGreat.Ab


namespace Go.Proofs.YtfakoboiahbhaaaGreat.Ab
open Go
section
variable {b:p9}
theorem aa0 {yh:Row} (bk:yh.length≤100000) (ai:∀ i:Nat,i<yh.length→(yh.take i).length≤1000) {k:Unit→Option (Int×Int)}:∀ (m i:Nat) (z:Int),z=i→i≤yh.length→yh.length-i<m→MJ yh k m z=if HM (yh.take i) (yh.drop i)=true then some (0,11) else k ()
 | 0,_,_,_,_,h=>absurd h (by omega)
 | m+1,i,_,rfl,hi,hm=>by
   rw [MJ];by_cases h:(i:Int)<(yh.length:Int)
   ·(have rn:i<yh.length:=by omega);rw [if_pos (decide_eq_true h),qz ⟨by omega,by omega⟩,qz ⟨by omega,h⟩,ry rn,Int.toNat_natCast,Vx _ _ (ai i rn),sx,tn rn,HM];by_cases a3:((yh.take i).any fun q=>decide (q.1=yh[i].1))=true
    ·rw [if_pos a3,if_pos a3,if_pos rfl]
    ·rw [if_neg a3,if_neg a3,sm i (by omega),aa0 bk ai m (i+1) _ rfl (by omega) (by omega),LJ rn]
   ·rw [if_neg (by simpa using h),tB (by omega),HM,if_neg (by simp)]
theorem aaZ (ag:b.2.length≤1000) {rows:List Row} (aj:rows.length≤1000) (Dw:∀ r∈rows,r.length≤1000) {k:Row→Option (Int×Int)}:∀ (m i:Nat) (z:Int) (acc:Row),z=i→i≤rows.length→rows.length-i<m→acc.length≤1000*i →
  MI b rows k m acc z=match (rows.drop i).find? fun r=>decide ((rM b r).2.2≠0) with | some r=>some (0,(rM b r).2.2) | none=>k (acc++(rows.drop i).flatten)
 | 0,_,_,_,_,_,h,_=>absurd h (by omega)
 | m+1,i,_,acc,rfl,hi,hm,cc=>by
   rw [MI];by_cases h:(i:Int)<(rows.length:Int)
   ·(have rn:i<rows.length:=by omega);have ao:=Dw _ (sU rn);rw [if_pos (decide_eq_true h),qz ⟨by omega,h⟩,ry rn,akC b _ ag ao,sx,tn rn,List.find?_cons];by_cases al:(rM b rows[i]).2.2≠0
    ·rw [if_pos (decide_eq_true al),decide_eq_true al]
    ·rw [if_neg (by simpa using al),decide_eq_false al,qz ⟨by omega,h⟩,qz (by omega),sm i (by omega),aaZ ag aj Dw m (i+1) _ _ rfl (by omega) (by omega) (by rw [sC];omega),tO,sH]
   ·rw [if_neg (by simpa using h),tB (by omega)];simp
theorem Su:∀ {rows:List Row} {n:Nat},(∀ r∈rows,r.length≤n)→rows.flatten.length≤n*rows.length
 | [],_,_=>by simp
 | r::rows,n,h=>by
   have ad:=h r (by simp);have af:=Su fun q a0=>h q (uw _ a0);rw [tO,sC,sV,Nat.mul_add];omega
theorem akP (ag:b.2.length≤1000) {rows:List Row} (aj:rows.length≤20) (Dw:∀ r∈rows,r.length≤20):Pm b rows=some (IY b rows):=by
 rw [Pm,Vq b ag,sx];unfold IY;by_cases h:rQ b=0
 ·have pz:=Su Dw;rw [if_neg (by simp [h]),if_neg (by simp [h]),aaZ ag (by omega) (fun r aj=>tb (Dw r aj) (by omega)) qc 0 0 [] rfl (by omega) (r6 (by omega)) (by simp),th];cases (rows.find? fun r=>decide ((rM b r).2.2≠0)) with
  | some r=>rfl
  | none =>
    simp only [t_];rw [aa0 (by omega) (fun i _=>by rw [tf];omega) qc 0 0 rfl (by omega) (r6 (by omega)),tD,th];by_cases aN:(rows.flatten.map (·.1)).Nodup
    ·rw [if_pos aN,So _ _ (by simpa using aN),if_neg (by simp)];by_cases ao:rows.flatten.length≠b.2.length
     ·rw [if_pos ao,if_pos (show decide ((rows.flatten.length:Int)≠(b.2.length:Int))=true by simp only [decide_eq_true_eq];omega)]
     ·rw [if_neg ao,if_neg (show ¬ decide ((rows.flatten.length:Int)≠(b.2.length:Int))=true by simp only [decide_eq_true_eq];omega)]
    ·rw [if_neg aN]
     have:HM [] rows.flatten=true:=by
      cases a3:HM [] rows.flatten with
      | true=>rfl
      | false=>exact absurd (by simpa using Sn _ _ a3 (by simp)) aN
     rw [this,if_pos rfl]
 ·rw [if_pos (by simpa using h),if_pos h,sx]
theorem aaY {l:List Row} (ao:l.length≤9223372036854775807) {k:Int→Option Bool}:∀ (m i:Nat) (z a:Int),z=i→i≤l.length→l.length-i<m →
  ∃ aM,MH l k m a z=k aM∧(14<aM↔14<a∨∃ r∈l.drop i,14<r.length)
 | 0,_,_,_,_,_,h=>absurd h (by omega)
 | m+1,i,_,a,rfl,hi,hm=>by
   rw [MH];by_cases h:(i:Int)<(l.length:Int)
   ·(have rn:i<l.length:=by omega);rw [if_pos (decide_eq_true h),qz ⟨by omega,h⟩,ry rn,sm i (by omega)];obtain ⟨aM,ad,af⟩:=aaY ao (k:=k) m (i+1) _ (max a (l[i].length:Int)) rfl (by omega) (by omega);refine ⟨aM,ad,?_⟩;rw [af,tn rn];constructor
    ·rintro (h | ⟨r,aj,h⟩)
     ·by_cases al:14<a
      ·exact .inl al
      ·exact .inr ⟨_,List.mem_cons_self,by omega⟩
     ·exact .inr ⟨r,uw _ aj,h⟩
    ·rintro (h | ⟨r,aj,h⟩)
     ·exact .inl (by omega)
     ·rcases sL.1 aj with rfl | aj
      ·exact .inl (by omega)
      ·exact .inr ⟨r,aj,h⟩
   ·rw [if_neg (by simpa using h),tB (by omega)];exact ⟨a,rfl,by simp⟩
theorem akJ {l:List Row} (ao:l.length≤9223372036854775807):∃ r:Bool,N3 l=some r∧(r=true↔14<l.length∨∃ q∈l,14<q.length):=by
 rw [N3];obtain ⟨aM,ad,af⟩:=aaY ao (k:=fun yh=>some (decide ((14:Int)<yh))) qc 0 0 (l.length:Int) rfl (by omega) (r6 (by omega));refine ⟨_,ad,?_⟩;rw [decide_eq_true_eq,af,th];constructor
 ·rintro (h | h)
  ·exact .inl (by omega)
  ·exact .inr h
 ·rintro (h | h)
  ·exact .inl (by omega)
  ·exact .inr h
theorem akL {l:List Row} (ao:l.length≤14) (h:∀ r∈l,r.length≤14):N3 l=some false:=by
 obtain ⟨r,ad,af⟩:=akJ (l:=l) (by omega);rw [ad];cases r with
 | false=>rfl
 | true =>
   rcases af.1 rfl with aG | ⟨q,a0,aG⟩
   ·omega
   ·have:=h q a0;omega
end
end Go.Proofs.YtfakoboiahbhaaaGreat.Ab


namespace Go.Proofs.YtfakoboiahbhaaaGreat.Ab
open Go
def R8:dd:={ ops:=[[],[],[{},{},{ takes:=[true],mode:=1 }],[],[{},{ takes:=[true] },{ takes:=[true] }],[],[],[],[{},{ takes:=[true] },{},{ takes:=[false,true] }],[{},{},{},{ takes:=[false,true,true],mode:=1 },{ takes:=[true],mode:=2 }],[],[],[{},{ takes:=[true] }],[{},{ takes:=[true] },{ takes:=[true,true] },{},{ takes:=[false,true] }],[{},{},{ mode:=3 },{ takes:=[true] },{},{ takes:=[true] },{ takes:=[true] },{ takes:=[true] }],[{},{ takes:=[true] },{ takes:=[true] },{ takes:=[true] },{},{ takes:=[true,true] },{ takes:=[true,false,true] },{ takes:=[true] },{},{},{ takes:=[true] },{ mode:=3 },{ takes:=[true,true] }],[{ takes:=[true] },{ takes:=[true] },{ takes:=[true] },{ takes:=[true,true] },{ takes:=[true] }],[{ takes:=[true] },{ takes:=[true] }],[{ takes:=[true] },{ takes:=[true] }],[{},{ takes:=[true] },{ takes:=[true] }],[{ takes:=[true] },{ takes:=[true] }],[{ takes:=[true] },{ mode:=3 },{},{ takes:=[false,true] }],[{ takes:=[true] },{},{ takes:=[true] },{ takes:=[true,true] },{ takes:=[true] }],[{ takes:=[true] },{},{ takes:=[false,true,true],mode:=1 },{ takes:=[true] }],[{},{ takes:=[true] },{ mode:=3 },{ takes:=[true] },{},{ takes:=[true] },{ takes:=[true] }],[{ takes:=[true] },{ takes:=[true] }]],ia:=[(0,(qb false [0,1,2,3,75])),(2,(qb false [0,1,2,4,13,3,58])),(4,(qb false [0,1,2,4,1,2,10,3,7,1,50]))] }
noncomputable def UF:fW :=
 pZ [GC 5 [] (.yv 0 1 [.int .i64 0] []),pY 6 0,GC 7 [.jh 5,.jh 6] (.app 1 8),pY 2 7] .ret
noncomputable def UE:fW :=
 pZ [GC 2 [.lT (.ax [] 0 .full)] (.nil 1)] (.seq (pZ [p1 3 0, GC 4 [.Bt 3, .lT (.ax [] 0 .full)] (.other (Oper.mk (some 4) (Op.binOp .eql 38 (Operand.tmp 3) (Operand.const (Value.slice none 0 0)) 38) 4 "slices.go:357" (Array.mk [Edge.mk 0 Ground.data]) none) 0)] (.cond (.sl 4) (pZ [GC 2 [.lT (.ax [] 0 .full)] (.nil 1)] .ret) .skip)) UF)
theorem Yl:zE Go.Proofs.Tryz.prog WI 75=some (UE,8,[.tmp 2]):=by kernel_rfl
noncomputable def QF:fW :=
 .oj false [pY 55 6,GC 56 [.Bt 11] (.zy (.str 2)),GC 57 [.Bt 56] (.yv 1 2 [.int .i64 0,.int .i64 0] [0]),GC 58 [.jh 55,.jh 57] (.app 2 16),pY 6 58]
noncomputable def UT:fW :=
 pZ [p1 42 5,qA 43 42 0 .lss,pY 44 43,cS 45 [.jh 12] 44 false .mP,cS 46 [.sl 5] 44 false .mP,cS 47 [.Bt 45,.Bt 46] 44 false (.bin .eql),GC 48 [.Bt 44,.lT (.bool true),.Bt 47] .pick,pY 49 48,cS 50 [.sl 0] 49 true .mP,cS 51 [.sl 9] 49 true .mP,cS 52 [.jh 13] 49 true .mP,⟨some 53,[.lT (.func 109 [] []),.sl 50,.sl 51,.sl 52],some (49,true),none,.call 3⟩,GC 54 [.Bt 49,.Bt 53,.lT (.bool false)] .pick] (.cond (.sl 54) QF .skip)
noncomputable def UU:fW :=
 pZ [p1 37 0,GC 38 [.sl 11] (.zy (.str 2)),GC 39 [.lT (.func 68 [] []),.sl 37,.sl 38] (.call 3),pY 36 39,rI 40 36 0,GC 41 [.Bt 36] (.ext 1),pY 12 40,pY 13 41] UT
noncomputable def UW:fW :=
 pZ [GC 33 [.sl 8] (.zy .one),pY 34 10,GC 35 [.Bt 33,.Bt 34] (.build [.int .i64 0,.int .i64 0] [(0,1),(1,1)]),GC 11 [] (.alloc [.int .i64 0,.int .i64 0]),⟨none,[.sl 11,.jh 35],none,none,.st 2⟩] UU
noncomputable def UX:fW :=
 .block 5 (pZ [p1 32 30,pY 10 32] UW)
noncomputable def QH:fW :=
 pZ [qd 30 0] (.block 4 (.loop (some (qb false [0,1,2,4,1,2,10,3,7,1,50])) (pZ [GC 31 [.sl 30,.lT (.int .i64 2)] (.bin .lss)] (.seq (.cond (.sl 31) .skip (.exit 4)) (.seq UX (qK [qU 59 30 1,pY 30 59]))))))
noncomputable def UY:fW :=
 pZ [p1 26 4, GC 27 [.lT (.func 75 [] []), .sl 26] (.call 0), GC 28 [.sl 8] (.zS 108 0 1), GC 29 [.lT (.func 107 [] []), .jh 27, .jh 28] (.call 1), ⟨some 9, [.jh 29], none, some 29, .other (Oper.mk (some 9) (Op.assign (Operand.tmp 29)) 38 "table.go:204" (Array.mk [Edge.mk 3 Ground.data, Edge.mk 3 Ground.chain, Edge.mk 0 Ground.phase, Edge.mk 1 Ground.phase, Edge.mk 2 Ground.phase, Edge.mk 3 Ground.phase]) none) 2⟩] QH
noncomputable def UZ:fW :=
 .block 3 (pZ [GC 24 [.sl 20,.sl 22] (.kR 1),qo 25 24,GC 8 [] (.alloc [.int .i64 0]),⟨none,[.sl 8,.jh 25],none,none,.st 1⟩] UY)
noncomputable def U0:fW :=
 .oj false [p1 75 0,GC 76 [.Bt 14] (.zy (.str 2)),GC 77 [.lT (.func 68 [] []),.sl 75,.sl 76] (.call 3),pY 74 77,rI 78 74 0,GC 79 [.Bt 74] (.ext 1),pY 5 79]
noncomputable def UN:fW :=
 pZ [pY 71 4,GC 72 [.sl 14] (.zS 112 0 1),GC 73 [.lT (.func 107 [] []),.jh 71,.jh 72] (.call 1),pY 4 73] U0
noncomputable def UO:fW :=
 pZ [pY 67 3,GC 68 [.sl 14] (.zy (.str 2)),GC 69 [.Bt 68] (.yv 1 2 [.int .i64 0,.int .i64 0] [0]),GC 70 [.jh 67,.jh 69] (.app 2 16),pY 3 70] UN
noncomputable def UP:fW :=
 pZ [pY 65 6,GC 66 [.lT (.func 110 [] []),.sl 65,.lT (.func 111 [] [])] (.call 3),GC 14 [] (.alloc [.int .i64 0,.int .i64 0]),⟨none,[.sl 14,.jh 66],none,none,.st 2⟩] UO
noncomputable def UQ:fW :=
 .seq (pZ [p1 61 6,qI 62 61,qA 63 62 0 .eql] (.cond (.sl 63) (pZ [pY 64 3,pY 2 64] .ret) .skip)) UP
noncomputable def QG:fW :=
 .seq (pZ [p1 20 4,GC 21 [.sl 20] .zD,qd 22 0] (.block 2 (.loop (some (qb false [0,1,2,4,13,3,58])) (pZ [GC 23 [.sl 22,.sl 21] (.bin .lss)] (.seq (.cond (.sl 23) .skip (.exit 2)) (.seq UZ (qK [qU 60 22 1,pY 22 60]))))))) UQ
noncomputable def UR:fW :=
 .seq (pZ [p1 17 4,qI 18 17,qA 19 18 0 .gtr] (.cond (.sl 19) .skip (.exit 0))) (.block 1 (pZ [GC 6 [.lT (.ax [] 0 .full)] (.nil 2)] QG))
noncomputable def Y4:fW :=
 .block 0 (.loop (some (qb false [0,1,2,3,75])) UR)
noncomputable def US:fW :=
 pZ [p1 15 0,GC 16 [.lT (.func 77 [] []),.sl 15] (.call 0),⟨some 4,[.jh 16],none,some 16,.Br⟩] (pZ [qd 5 (-1)] (.seq Y4 (pZ [pY 80 3,pY 2 80] .ret)))
noncomputable def Y3:fW :=
 pZ [GC 2 [.lT (.ax [] 0 .full)] (.nil 2)] (pZ [GC 3 [.lT (.ax [] 0 .full)] (.nil 2)] US)
theorem agf:zE Go.Proofs.Tryz.prog R8 85=some (Y3,81,[.tmp 2]):=by kernel_rfl
noncomputable def Up:fW :=
 pZ [p1 17 6,qA 18 17 0 .neq] (.cond (.sl 18) (pZ [pY 19 6,qd 4 0,pY 5 19] .ret) .skip)
noncomputable def Us:fW :=
 pZ [p1 33 12,qA 34 33 0 .neq] (.cond (.sl 34) (pZ [pY 35 12,qd 4 0,pY 5 35] .ret) .skip)
noncomputable def Ut:fW :=
 .oj true [p1 42 7,p1 43 7,qI 44 43,p1 45 7,qI 46 45,GC 47 [.jh 42,.jh 44,.jh 46] (.Bh 1 false true true),qW 48 14 0,qo 49 48,GC 50 [.Bt 49] (.yv 1 1 [.int .i64 0] [0]),GC 51 [.jh 47,.jh 50] (.app 1 8),pY 7 51]
noncomputable def Uu:fW :=
 .block 3 (pZ [GC 40 [.sl 36,.sl 38] (.kR 2),GC 41 [.Bt 40] (.zy (.str 2)),GC 14 [] (.alloc [.int .i64 0,.int .i64 0]),⟨none,[.sl 14,.jh 41],none,none,.st 2⟩] Ut)
noncomputable def Uv:fW :=
 pZ [pY 36 9,GC 37 [.sl 36] .zD,qd 38 0] (.block 2 (.loop (some (qb false [1,2,4,1,12,3,13,3,34])) (pZ [GC 39 [.sl 38,.sl 37] (.bin .lss)] (.seq (.cond (.sl 39) .skip (.exit 2)) (.seq Uu (qK [qU 52 38 1,pY 38 52]))))))
noncomputable def Uw:fW :=
 .seq (pZ [GC 27 [.sl 2] (.zy (.str 2)),p1 28 9,GC 29 [.lT (.func 18 [] []),.sl 27,.sl 28] (.call 3),pY 26 29,rI 30 26 0,rI 31 26 1,GC 32 [.Bt 26] (.ext 2),pY 10 30,pY 11 31,pY 12 32] Us) Uv
noncomputable def Ux:fW :=
 .block 1 (pZ [GC 24 [.sl 20,.sl 22] (.kR 1),qo 25 24,pY 9 25] Uw)
noncomputable def O8:fW :=
 pZ [pY 65 7,qI 66 65,qW 67 2 1,qo 68 67,qI 69 68,qT 70 66 69 .lss,pY 64 70] (.cond (.sl 64) (pZ [qd 4 0,qd 5 15] .ret) .skip)
noncomputable def QB:fW :=
 .block 4 (pZ [p1 57 7,GC 58 [.lT (.func 75 [] []),.sl 57] (.call 0),GC 59 [.lT (.func 74 [] []),.jh 58] (.call 1),qI 60 59,p1 61 7,qI 62 61,qT 63 60 62 .lss,pY 56 63] (.cond (.sl 56) (pZ [qd 4 0,qd 5 11] .ret) O8))
noncomputable def QA:fW :=
 pZ [pY 71 1,qI 72 71,pY 4 72,qd 5 0] .ret
noncomputable def Uq:fW :=
 .seq (pZ [p1 20 1,GC 21 [.sl 20] .zD,qd 22 0] (.block 0 (.loop (some (qb false [1,2,4,1,12,3,50])) (pZ [GC 23 [.sl 22,.sl 21] (.bin .lss)] (.seq (.cond (.sl 23) .skip (.exit 0)) (.seq Ux (qK [qU 53 22 1,pY 22 53]))))))) (pZ [⟨some 54,[.jh 7],none,some 7,.Br⟩,GC 55 [.lT (.func 73 [] []),.jh 54] (.call 1)] (.seq QB QA))
noncomputable def Ur:fW :=
 .seq (pZ [GC 15 [.sl 2] (.zy (.str 2)),GC 16 [.lT (.func 20 [] []),.sl 15] (.call 3),pY 6 16] Up) (pZ [GC 7 [.lT (.ax [] 0 .full)] (.nil 1)] Uq)
noncomputable def YY:fW :=
 pZ [GC 2 [.jh 0] .box,qd 4 0,qd 5 0] Ur
theorem agd:zE Go.Proofs.Tryz.prog Wp 25=some (YY,73,[.tmp 4,.tmp 5]):=by kernel_rfl
end Go.Proofs.YtfakoboiahbhaaaGreat.Ab


namespace Go.Proofs.YtfakoboiahbhaaaGreat.Ab
open Go
set_option maxRecDepth 20000
set_option maxHeartbeats 4000000
theorem Y5 (z:I):∀ n:Nat,e8 n [z]=List.replicate n z
 | 0=>rfl
 | n+1=>by simp [e8,Y5 z n,List.replicate_succ]
theorem Y9 {H:List ar} {id:Nat} (l r:List Int) (h:H[id]?=some (.cells ((l++r).map hW))):rowOf H (.ref id 0 l.length none 1)=some (l.map hW):=by
 simp only [rowOf,h,tg,ud,td,sC,Nat.le_add_right,if_true,th];rw [tj,vK (by simp),uE];rfl
theorem Sk (lo id off len:Nat) (H:List ar) (l:List I) (bC:lo≤id) (ah:H[id]?=some (.cells l)) (h:off+len≤l.length) :
  k4 Go.Proofs.Tryz.prog lo #[38] H [.ref id off len none 1]=some (.tuple [],H.set id (.cells (l.take off++List.replicate len (hW 0)++l.drop (off+len)))):=by
 have e1:((#[38]:Array TypeId)[0]?).bind Go.Proofs.Tryz.prog.underlying=some (.slice 3):=by kernel_rfl
 have ca:bD Go.Proofs.Tryz.prog 3=some 1:=by kernel_rfl
 have dx:zeroCells Go.Proofs.Tryz.prog 3=some [.int .i64 0]:=by kernel_rfl
 have lV:setCells off (e8 len [I.int .i64 0]) l=l.take off++List.replicate len (hW 0)++l.drop (off+len):=by
  apply List.ext_getElem?;intro j;rw [m5 _ _ _ _ (by rw [ik];simp;omega),ik,Y5];simp only [tz,ud];by_cases aw:j<off
  ·rw [if_neg (by omega),sH,sQ (by simp;omega),List.getElem?_take_of_lt aw]
  ·by_cases ft:j<off+len
   ·rw [if_pos ⟨by omega,ft⟩,sQ (by simp;omega),s_ (by simp;omega),vY,vY,tf,if_pos (by omega),if_pos (by omega)]
   ·rw [if_neg (by omega),s_ (by simp;omega),tr];congr 1;simp;omega
 unfold k4;simp only [e1,ca,dx,hg,ah,sD,if_pos bC];rw [if_pos ⟨trivial,rfl,by decide⟩,if_pos (by omega),lV];rfl
theorem WS (A cur rest:List Int) (x:Nat) (h:A.length≤x) (ak:x<cur.length):((A++cur.drop A.length++rest).map hW)[x]?=some (hW (cur.getD x 0)):=by
 rw [sN,sQ (by simp;omega),s_ h,tr,show A.length+(x-A.length)=x by omega,sK ak];simp [ak]
theorem Zk (cur rest A:List Int) (v:Int) (h:A.length<cur.length):((A++cur.drop A.length++rest).map hW).set A.length (hW v)=((A++[v])++cur.drop (A++[v]).length++rest).map hW:=by
 rw [sH,tj,List.set_append_right _ _ (by simp),td,tY,tn h,List.cons_append,sG,List.set_cons_zero];simp
theorem QP {X:List ar} {id:Nat} (l r:List Int) (h:X[id]?=some (.cells ((l++r).map hW))):ir X (.ref id 0 l.length none 1)=oN l:=by
 simp only [ir,hP,ke,Y9 l r h];rfl
theorem QO {X:List ar} {Hu:FuncId} {sf cs:List I} (h:sf.map (hP X)=cs):ir X (.func Hu [] sf)=.func Hu [] cs:=by
 simp only [ir,tL];rw [←h]
theorem aaM (s:List Int) (p:Int→Bool) (ai:s.length≤1000):N0 s (fun x=>some (p x))=some (posOf p s 0):=by
 have:=Vn (s:=s) (f:=fun x=>some (p x)) (p:=p) (fun _ _=>rfl) (by omega) qc 0 0 rfl (sP _) (r6 (by omega));rw [th] at this;rw [N0];exact this
theorem TL (p:Int→Bool):∀ (l:List Int) (i:Nat),(posOf p l i=-1∧∀ x∈l,p x=false)∨∃ k,∃ (h:k<l.length),posOf p l i=((i+k:Nat):Int)∧p l[k]=true∧∀ x∈l.take k,p x=false
 | [],i=>.inl ⟨rfl,by simp⟩
 | x::l,i=>by
   by_cases ak:p x=true
   ·exact .inr ⟨0,by simp,by simp [posOf,ak],ak,by simp⟩
   ·rcases TL p l (i+1) with ⟨ad,af⟩ | ⟨k,h,ad,af,aG⟩
    ·exact .inl ⟨by rw [posOf,if_neg ak];exact ad,fun y aZ=>(sL.1 aZ).elim (fun e=>by rw [e];simpa using ak) (af y)⟩
    ·refine .inr ⟨k+1,by simp;omega,by rw [posOf,if_neg ak,ad];omega,by simpa using af,?_⟩;intro y aZ;rw [vo] at aZ;rcases sL.1 aZ with rfl | aZ
     ·simpa using ak
     ·exact aG y aZ
section
variable {id lo:Nat} {H:List ar} {Hu:FuncId} {sf cs:List I} {p:Int→Bool} {cur rest:List Int}
theorem aeh (bC:lo≤id) (aP:∀ c:ar,sf.map (ir (H.set id c))=cs) (CU:sf.map (hP H)=cs) (K4:sk cs) (al:cur.length≤1000) (av:∀ x,qB Hu (hW x::cs) (B (p x))) (ah:H[id]?=some (.cells ((cur++rest).map hW))) :
  Sem Go.Proofs.Tryz.prog (.fn 107) [.ref id 0 cur.length none 1,.func Hu [] sf] H lo (.ref id 0 (cur.filter fun x=>!p x).length none 1) (H.set id (.cells ((cur.filter (fun x=>!p x)++List.replicate (cur.length-(cur.filter fun x=>!p x).length) 0++rest).map hW))):=by
 have aE:=(sv.1 ah).1;have gs:∀ c:ar,(H.set id c)[id]?=some c:=fun c=>by rw [sI aE]
 have same:H.set id (.cells ((cur++rest).map hW))=H:=by
  obtain ⟨ad,af⟩:=sv.1 ah;rw [←af,u5]
 refine HB et Ye rfl ⟨by simp,fun j ad af=>by rw [sJ (by omega)]⟩ fun Q bp=>?_;unfold T_ Ua;obtain ⟨nk,HC⟩:∃ c,O5=c:=⟨_,rfl⟩;rw [HC];conv=>whnf
 refine ⟨_,_,call6 (bs:=oN cur::[.func Hu [] cs]) ?_ ?_ (Vo K4 (f:=fun x=>some (p x)) (fun y r aj=>by obtain rfl:=Option.some.inj aj;exact av y) (aaM cur p (by omega))) rfl,?_⟩
 ·simp only [sG,tL,QP cur rest ah,QO CU];show [I.cr (oN cur),I.cr (.func Hu [] cs)]=_;rfl
 ·simp only [sG,tL,QP cur rest ah,QO CU,tJ,ux,K4.OV,uj];exact r7 (fun _=>rfl) _ _ _
 conv=>whnf
 subst HC;unfold O5;obtain ⟨b9,iF⟩:∃ c,O2=c:=⟨_,rfl⟩;obtain ⟨fZ,Hg⟩:∃ c,O4=c:=⟨_,rfl⟩;rw [iF,Hg];rcases TL p cur 0 with ⟨q1,aX⟩ | ⟨i,hi,q1,aX,cy⟩
 ·rw [q1];conv=>whnf
  have e:cur.filter (fun x=>!p x)=cur:=uM.2 fun x ak=>by rw [aX x ak];rfl
  rw [e,tY,we,sW,same] at bp;exact bp _ _ _ ⟨.inr rfl,⟨rfl,fun j o aw=>.inr aw⟩,rfl⟩
 ·rw [q1,tg];conv=>whnf
  have f':(cur.take i).filter (fun x=>!p x)=cur.take i:=uM.2 fun x ak=>by rw [cy x ak];rfl
  have e1:(cur.take (i+1)).filter (fun x=>!p x)=cur.take i:=by
   rw [tT hi,uy,f'];simp [aX]
  rw [rJ i (by omega)];refine .intro (fun m T H'=>∃ j,i+1≤j∧j≤cur.length∧m=cur.length-j∧((cur.take j).filter (fun x=>!p x)).length+1≤j∧T=Hc 42 [(0,.ref id 0 cur.length none 1),(1,.func Hu [] sf),(5,hW ((cur.take j).filter (fun x=>!p x)).length),(6,hW (j:Nat))]∧H'=H.set id (.cells (((cur.take j).filter (fun x=>!p x)++cur.drop ((cur.take j).filter (fun x=>!p x)).length++rest).map hW))) _ ⟨i+1,sB _,hi,rfl,?_,?_,?_⟩ ?_
  ·rw [e1,tf];omega
  ·rw [e1,tf,tI (by omega)];rfl
  ·rw [e1,tf,tI (by omega),uW];exact same.symm
  rintro m T H' ⟨j,h4,ft,rfl,hw,rfl,rfl⟩;subst iF;unfold O2 T';obtain ⟨bb,b6⟩:∃ c,O1=c:=⟨_,rfl⟩;rw [b6];conv=>whnf
  refine Ip (fun h=>?_) (fun h=>?_)
  ·(have h5:j<cur.length:=by omega);(conv=>whnf);refine ⟨by omega,?_⟩;(conv=>whnf);refine Es (gs _) ?_;(conv=>whnf);refine Es (x:=hW (cur.getD j 0)) (by rw [show 0+(j:Int).toNat*1=j by simp];exact WS _ cur rest j (by omega) h5) ?_;(conv=>whnf);subst b6;refine I5 fun nd KC=>?_;unfold O1;obtain ⟨a',cb⟩:∃ c,O0=c:=⟨_,rfl⟩;rw [cb];(conv=>whnf);refine ⟨_,_,call6 (bs:=hW (cur.getD j 0)::cs) ?_ ?_ (av (cur.getD j 0)) rfl,?_⟩
   ·show (_::sf.map (ir _)).map I.cr=_;rw [aP,sG,K4.cr];rfl
   ·show (_::sf.map (ir _)).all (cj 8)=true;rw [aP];exact p2 rfl K4.M5
   (conv=>whnf);(have Sp:cur.getD j 0=cur[j]:=by simp [h5]);have ca:(cur.take (j+1)).filter (fun x=>!p x)=(cur.take j).filter (fun x=>!p x)++if (!p (cur.getD j 0))=true then [cur.getD j 0] else []:=by
    rw [tT h5,uy,Sp];simp only [tx,u_]
   cases ag:p (cur.getD j 0) with
   | false =>
     rw [ag,if_pos (show (!false)=true from rfl)] at ca;(conv=>whnf);subst cb;unfold O0;(conv=>whnf);refine ⟨by omega,?_⟩;(conv=>whnf);rw [show Nat.ble lo id=true from uF bC];(conv=>whnf);refine Es (gs _) ?_;(conv=>whnf);refine Gm (by simp;omega) ?_;(conv=>whnf);refine KC _ _ _ ?_;(conv=>whnf);refine ⟨cur.length-(j+1),by omega,j+1,by omega,by omega,rfl,by rw [ca,sC,tz];omega,?_,?_⟩
     ·rw [ca,sC,tz,←rJ j (by omega),←rJ ((cur.take j).filter (fun x=>!p x)).length (by omega)];rfl
     ·rw [te,ca,show 0+(((cur.take j).filter (fun x=>!p x)).length:Int).toNat*1=((cur.take j).filter (fun x=>!p x)).length by simp,Zk cur rest ((cur.take j).filter (fun x=>!p x)) _ (by omega)]
   | true =>
     rw [ag,if_neg (by decide),sW] at ca;(conv=>whnf);refine KC _ _ _ ?_;(conv=>whnf);refine ⟨cur.length-(j+1),by omega,j+1,by omega,by omega,rfl,by rw [ca];omega,?_,by rw [ca]⟩;rw [ca,←rJ j (by omega)];rfl
  ·(obtain rfl:j=cur.length:=by omega);rw [tU] at hw ⊢;(conv=>whnf);subst Hg;unfold O4;obtain ⟨dY,Cs⟩:∃ c,O3=c:=⟨_,rfl⟩;rw [Cs];(conv=>whnf);refine ⟨rfl,⟨by omega,by omega⟩,fun _=>?_,fun h=>absurd h (by omega)⟩;(conv=>whnf);refine ⟨_,_,fun C=>(OT rfl).trans (Sk lo id _ _ _ _ bC (gs _) (by simp <;> omega)),?_⟩;(conv=>whnf);subst Cs;unfold O3;(conv=>whnf);refine ⟨rfl,⟨by omega,by omega⟩,?_⟩;(conv=>whnf);refine bp _ _ _ ⟨.inr rfl,?_,rfl⟩;rw [te];generalize cur.filter (fun x=>!p x)=A at hw bp ⊢;have e:(List.take (0+(A.length:Int).toNat*1) ((A++cur.drop A.length++rest).map hW)++List.replicate (cur.length-(A.length:Int).toNat) (hW 0)++List.drop (0+(A.length:Int).toNat*1+(cur.length-(A.length:Int).toNat)) ((A++cur.drop A.length++rest).map hW))=(A++List.replicate (cur.length-A.length) 0++rest).map hW:=by
    rw [show 0+(A.length:Int).toNat*1=A.length by simp,show (A.length:Int).toNat=A.length by simp];rw [←ur,←uC,sH A,vK rfl,show A.length+(cur.length-A.length)=cur.length by omega,←sH,wP (by simp;omega)];simp
   rw [e];exact ⟨rfl,fun j o aw=>.inr aw⟩
theorem aek {Lh:List ar} (HN:H=Lh++[.cells (cur.map hW)]) (pE:id=Lh.length) (aj:rest=[]) (aV:cur.length≠0) (bC:lo≤id) (aP:∀ c:ar,sf.map (ir (H.set id c))=cs) (CU:sf.map (hP H)=cs) (K4:sk cs) (al:cur.length≤1000) (av:∀ x,qB Hu (hW x::cs) (B (p x))) :
  Sem Go.Proofs.Tryz.prog (.fn 107) [.ax (cur.map hW) cur.length (.uniq 1),.func Hu [] sf] Lh lo (.ref id 0 (cur.filter fun x=>!p x).length none 1) (H.set id (.cells ((cur.filter (fun x=>!p x)++List.replicate (cur.length-(cur.filter fun x=>!p x).length) 0++rest).map hW))):=by
 have ah:H[id]?=some (.cells ((cur++rest).map hW)):=by rw [HN,pE,aj,sW];simp
 have aE:=(sv.1 ah).1;have gs:∀ c:ar,(H.set id c)[id]?=some c:=fun c=>by rw [sI aE]
 have same:H.set id (.cells ((cur++rest).map hW))=H:=by
  obtain ⟨ad,af⟩:=sv.1 ah;rw [←af,u5]
 refine HB et Ye rfl ⟨by rw [HN];simp,fun j ad af=>by rw [sJ (by omega),HN,sQ (by omega)]⟩ fun Q bp=>?_;unfold T_ Ua;obtain ⟨nk,HC⟩:∃ c,O5=c:=⟨_,rfl⟩;rw [HC];conv=>whnf
 refine .inl ⟨aV,?_⟩;rw [←HN,←pE];conv=>whnf
 refine ⟨_,_,call6 (bs:=oN cur::[.func Hu [] cs]) ?_ ?_ (Vo K4 (f:=fun x=>some (p x)) (fun y r aj=>by obtain rfl:=Option.some.inj aj;exact av y) (aaM cur p (by omega))) rfl,?_⟩
 ·simp only [sG,tL,QP cur rest ah,QO CU];show [I.cr (oN cur),I.cr (.func Hu [] cs)]=_;rfl
 ·simp only [sG,tL,QP cur rest ah,QO CU,tJ,ux,K4.OV,uj];exact r7 (fun _=>rfl) _ _ _
 conv=>whnf
 subst HC;unfold O5;obtain ⟨b9,iF⟩:∃ c,O2=c:=⟨_,rfl⟩;obtain ⟨fZ,Hg⟩:∃ c,O4=c:=⟨_,rfl⟩;rw [iF,Hg];rcases TL p cur 0 with ⟨q1,aX⟩ | ⟨i,hi,q1,aX,cy⟩
 ·rw [q1];conv=>whnf
  have e:cur.filter (fun x=>!p x)=cur:=uM.2 fun x ak=>by rw [aX x ak];rfl
  rw [e,tY,we,sW,same] at bp;exact bp _ _ _ ⟨.inr rfl,⟨rfl,fun j o aw=>.inr aw⟩,rfl⟩
 ·rw [q1,tg];conv=>whnf
  have f':(cur.take i).filter (fun x=>!p x)=cur.take i:=uM.2 fun x ak=>by rw [cy x ak];rfl
  have e1:(cur.take (i+1)).filter (fun x=>!p x)=cur.take i:=by
   rw [tT hi,uy,f'];simp [aX]
  rw [rJ i (by omega)];refine .intro (fun m T H'=>∃ j,i+1≤j∧j≤cur.length∧m=cur.length-j∧((cur.take j).filter (fun x=>!p x)).length+1≤j∧T=Hc 42 [(0,.ref id 0 cur.length none 1),(1,.func Hu [] sf),(5,hW ((cur.take j).filter (fun x=>!p x)).length),(6,hW (j:Nat))]∧H'=H.set id (.cells (((cur.take j).filter (fun x=>!p x)++cur.drop ((cur.take j).filter (fun x=>!p x)).length++rest).map hW))) _ ⟨i+1,sB _,hi,rfl,?_,?_,?_⟩ ?_
  ·rw [e1,tf];omega
  ·rw [e1,tf,tI (by omega)];rfl
  ·rw [e1,tf,tI (by omega),uW];exact same.symm
  rintro m T H' ⟨j,h4,ft,rfl,hw,rfl,rfl⟩;subst iF;unfold O2 T';obtain ⟨bb,b6⟩:∃ c,O1=c:=⟨_,rfl⟩;rw [b6];conv=>whnf
  refine Ip (fun h=>?_) (fun h=>?_)
  ·(have h5:j<cur.length:=by omega);(conv=>whnf);refine ⟨by omega,?_⟩;(conv=>whnf);refine Es (gs _) ?_;(conv=>whnf);refine Es (x:=hW (cur.getD j 0)) (by rw [show 0+(j:Int).toNat*1=j by simp];exact WS _ cur rest j (by omega) h5) ?_;(conv=>whnf);subst b6;refine I5 fun nd KC=>?_;unfold O1;obtain ⟨a',cb⟩:∃ c,O0=c:=⟨_,rfl⟩;rw [cb];(conv=>whnf);refine ⟨_,_,call6 (bs:=hW (cur.getD j 0)::cs) ?_ ?_ (av (cur.getD j 0)) rfl,?_⟩
   ·show (_::sf.map (ir _)).map I.cr=_;rw [aP,sG,K4.cr];rfl
   ·show (_::sf.map (ir _)).all (cj 8)=true;rw [aP];exact p2 rfl K4.M5
   (conv=>whnf);(have Sp:cur.getD j 0=cur[j]:=by simp [h5]);have ca:(cur.take (j+1)).filter (fun x=>!p x)=(cur.take j).filter (fun x=>!p x)++if (!p (cur.getD j 0))=true then [cur.getD j 0] else []:=by
    rw [tT h5,uy,Sp];simp only [tx,u_]
   cases ag:p (cur.getD j 0) with
   | false =>
     rw [ag,if_pos (show (!false)=true from rfl)] at ca;(conv=>whnf);subst cb;unfold O0;(conv=>whnf);refine ⟨by omega,?_⟩;(conv=>whnf);rw [show Nat.ble lo id=true from uF bC];(conv=>whnf);refine Es (gs _) ?_;(conv=>whnf);refine Gm (by simp;omega) ?_;(conv=>whnf);refine KC _ _ _ ?_;(conv=>whnf);refine ⟨cur.length-(j+1),by omega,j+1,by omega,by omega,rfl,by rw [ca,sC,tz];omega,?_,?_⟩
     ·rw [ca,sC,tz,←rJ j (by omega),←rJ ((cur.take j).filter (fun x=>!p x)).length (by omega)];rfl
     ·rw [te,ca,show 0+(((cur.take j).filter (fun x=>!p x)).length:Int).toNat*1=((cur.take j).filter (fun x=>!p x)).length by simp,Zk cur rest ((cur.take j).filter (fun x=>!p x)) _ (by omega)]
   | true =>
     rw [ag,if_neg (by decide),sW] at ca;(conv=>whnf);refine KC _ _ _ ?_;(conv=>whnf);refine ⟨cur.length-(j+1),by omega,j+1,by omega,by omega,rfl,by rw [ca];omega,?_,by rw [ca]⟩;rw [ca,←rJ j (by omega)];rfl
  ·(obtain rfl:j=cur.length:=by omega);rw [tU] at hw ⊢;(conv=>whnf);subst Hg;unfold O4;obtain ⟨dY,Cs⟩:∃ c,O3=c:=⟨_,rfl⟩;rw [Cs];(conv=>whnf);refine ⟨rfl,⟨by omega,by omega⟩,fun _=>?_,fun h=>absurd h (by omega)⟩;(conv=>whnf);refine ⟨_,_,fun C=>(OT rfl).trans (Sk lo id _ _ _ _ bC (gs _) (by simp <;> omega)),?_⟩;(conv=>whnf);subst Cs;unfold O3;(conv=>whnf);refine ⟨rfl,⟨by omega,by omega⟩,?_⟩;(conv=>whnf);refine bp _ _ _ ⟨.inr rfl,?_,rfl⟩;rw [te];generalize cur.filter (fun x=>!p x)=A at hw bp ⊢;have e:(List.take (0+(A.length:Int).toNat*1) ((A++cur.drop A.length++rest).map hW)++List.replicate (cur.length-(A.length:Int).toNat) (hW 0)++List.drop (0+(A.length:Int).toNat*1+(cur.length-(A.length:Int).toNat)) ((A++cur.drop A.length++rest).map hW))=(A++List.replicate (cur.length-A.length) 0++rest).map hW:=by
    rw [show 0+(A.length:Int).toNat*1=A.length by simp,show (A.length:Int).toNat=A.length by simp];rw [←ur,←uC,sH A,vK rfl,show A.length+(cur.length-A.length)=cur.length by omega,←sH,wP (by simp;omega)];simp
   rw [e];exact ⟨rfl,fun j o aw=>.inr aw⟩
end

section
variable {id lo:Nat} {H:List ar}
theorem W6 (l r:List Int) (aV:0<l.length) (ao:l.length≤1000) (ah:H[id]?=some (.cells ((l++r).map hW))) :
  Sem Go.Proofs.Tryz.prog (.fn 75) [.ref id 0 l.length none 1] H lo (.ax (l.map hW) l.length (.uniq 1)) H:=by
 refine HB et Yl rfl ⟨sB _,fun j _ _=>rfl⟩ fun Q bp=>?_;unfold UE UF;conv=>whnf
 refine ⟨.bool false,H,fun C=>by kernel_rfl,?_⟩;conv=>whnf
 refine Es ah ?_;conv=>whnf
 refine ⟨by simp,?_⟩;rw [show List.map I.view (List.take (l.length*1) (List.drop 0 (List.map hW (l++r))))=l.map hW by rw [th,ud,tj,vK (by simp),uE];rfl];conv=>whnf
 refine ⟨by simp,by omega,rfl,by omega,?_⟩;conv=>whnf
 exact bp _ _ _ ⟨.inr rfl,⟨rfl,fun j o aw=>.inr aw⟩,by rw [tg];rfl⟩
theorem acv {t:p9} (aV:0<t.2.length) (ao:t.2.length≤1000) :
  Sem Go.Proofs.Tryz.prog (.fn 77) [Hy t] H lo (.ax ((upto t.2.length).map hW) t.2.length (.uniq 1)) H:=by
 refine HB et Yo rfl ⟨sB _,fun j _ _=>rfl⟩ fun Q bp=>?_;unfold VM Pv;conv=>whnf
 refine .intro (fun m T H'=>∃ i:Nat,i≤t.2.length∧m=t.2.length-i∧T=Hc 20 [(3,(.ax ((upto i).map hW) (upto i).length (.uniq 1))),(10,(hW (t.2.length:Int))),(11,(hW (i:Int)))]∧H'=H) _ ⟨0,by omega,rfl,rfl,rfl⟩ ?_;rintro m T H' ⟨i,hi,rfl,rfl,rfl⟩;conv=>whnf
 refine Ip (fun h=>?_) (fun h=>?_)
 ·conv=>whnf
  refine ⟨rfl,by omega,rfl,?_,?_⟩
  ·rw [r_];omega
  erw [Kx hW (upto i) (i:Int)];conv=>whnf
  refine ⟨t.2.length-(i+1),by omega,i+1,by omega,rfl,?_,rfl⟩;rw [←rJ i (by omega),NU];rfl
 ·obtain rfl:i=t.2.length:=by omega
  conv=>whnf
  exact bp _ _ _ ⟨.inr rfl,⟨rfl,fun j o aw=>.inr aw⟩,by rw [r_];rfl⟩
theorem aeJ {P:Program} {C:b8} {o:Oper} {x:Operand} {l r:List Int} (aq:o.op=.assign x) (bC:lo≤id) (ah:H[id]?=some (.cells ((l++r).map hW))) :
  a5 P C lo o 2 [.ref id 0 l.length none 1] H=some (.ax (l.map hW) l.length .shared,H.set id .dead):=by
 unfold a5;rw [aq];show eY P lo 2 o.type x H [.ref id 0 l.length none 1]=_;unfold eY;simp only [bC,if_true,Y9 l r ah,sx,lenOf,sD,g2]
end

noncomputable def Rp:fW :=
 .loop (some (qb false [1,1,2,2,6,3,10])) (pZ [GC 15 [.sl 14,.sl 13] (.bin .lss)] (.seq (.cond (.sl 15) .skip (.exit 0)) (.seq (.block 1 (pZ [GC 16 [.sl 12,.sl 14] (.kR 2),GC 17 [.Bt 16] (.zy (.str 2)),GC 7 [] (.alloc [.int .i64 0,.int .i64 0]),⟨none,[.sl 7,.jh 17],none,none,.st 2⟩] (pZ [p1 18 1,GC 19 [.sl 7] (.zy (.str 2)),GC 20 [.sl 5] (.zy (.str 2)),GC 21 [.sl 18,.sl 19,.sl 20] (.call 6)] (.cond (.sl 21) (qK [GC 22 [.Bt 7] (.zy (.str 2)),⟨none,[.sl 5,.jh 22],none,none,.st 2⟩]) .skip)))) (qK [qU 23 14 1,pY 14 23]))))
noncomputable def abF:fW :=
 pZ [GC 4 [] (.alloc [.int .i64 0,.int .i64 0])] (pZ [p1 8 0,GC 9 [.Bt 8,.lT (.int .i64 0)] (.kR 2),GC 10 [.Bt 9] (.zy (.str 2)),GC 5 [] (.alloc [.int .i64 0,.int .i64 0]),⟨none,[.sl 5,.jh 10],none,none,.st 2⟩] (.seq (pZ [pY 11 0,GC 12 [.jh 11,.lT (.int .i64 1)] (.Bh 2 true false false),GC 13 [.sl 12] .zD,qd 14 0] (.block 0 Rp)) (pZ [GC 24 [.Bt 5] (.zy (.str 2)),⟨none,[.sl 4,.jh 24],none,none,.st 2⟩] .ret)))
theorem ago:zE Tryz.prog R0 110=some (abF,25,[.cell 4 (.str 2)]):=by kernel_rfl
def LN (l:p8) (better:((Int×Int)→(Int×Int)→Option Bool)) (qq:Int→Int→Option (Int×Int)):Nat→Int→Int→Int→Option (Int×Int)
 | 0,_,_,_=>none
 | m+1,s1,s2,di =>
   if (decide (s1<((l.drop (1:Int).toNat).length:Int)))=true then
    qg (0≤s1∧s1<((l.drop (1:Int).toNat).length:Int)) <|
    (better (ix (l.drop (1:Int).toNat) s1) (s2,di)).bind fun aT =>
    if aT=true then
     LN l better qq m (w (s1+(1:Int))) ((ix (l.drop (1:Int).toNat) s1).1) ((ix (l.drop (1:Int).toNat) s1).2)
    else
     LN l better qq m (w (s1+(1:Int))) s2 di
   else
    qq s2 di
def Q4 (l:p8) (better:((Int×Int)→(Int×Int)→Option Bool)):Option (Int×Int) :=
 qg (0≤(0:Int)∧(0:Int)<(l.length:Int)) <|
 qg (0≤(1:Int)∧(1:Int)≤(l.length:Int)) <|
 LN l better (fun yh oJ =>
   some (yh,oJ)) qc (0:Int) ((ix l (0:Int)).1) ((ix l (0:Int)).2)
theorem ako {l:p8} {better:((Int×Int)→(Int×Int)→Option Bool)} {qq:Int→Int→Option (Int×Int)} {s1:Int} {s2:Int} {di:Int} {Np:FuncId} {K1:List I} (Ng:sk K1) (Th:∀ (qV:(Int×Int)) (BD:(Int×Int)) (r:Bool),better qV BD=some r→qB Np ((.agg [(hW qV.1),(hW qV.2)])::(.agg [(hW BD.1),(hW BD.2)])::K1) (B r)) {v:(Int×Int)} {Q:rf}   (r9:∀ (yh oJ:Int) (ql:List ar) (p7:List I),qq yh oJ=some v→qQ 25 [(4,(.ptr 0 0)),(5,(.ptr 1 0))] p7→Q (.exit 0) p7 (ar.cells [(hW (0:Int)),(hW (0:Int))]::ar.cells [(hW yh),(hW oJ)]::ql)) {T:List I} (bX:e0 (qb false [1,1,2,2,6,3,10]) T=Hc 25 [(1,(.func Np [] K1)),(4,(.ptr 0 0)),(5,(.ptr 1 0)),(12,(p4 (l.drop (1:Int).toNat) .shared)),(13,(hW ((l.drop (1:Int).toNat).length:Int))),(14,(hW s1))]) (h:LN l better qq qc s1 s2 di=some v) :
  dR Tryz.prog R0 110 0 none Rp T [ar.cells [(hW (0:Int)),(hW (0:Int))],ar.cells [(hW s2),(hW di)]] Q:=by
 unfold Rp;refine wp_loop bX ?_;refine .intro (fun m T H=>∃ (s1 s2 di:Int) (VX:List ar),T=Hc 25 [(1,(.func Np [] K1)),(4,(.ptr 0 0)),(5,(.ptr 1 0)),(12,(p4 (l.drop (1:Int).toNat) .shared)),(13,(hW ((l.drop (1:Int).toNat).length:Int))),(14,(hW s1))]∧H=(ar.cells [(hW (0:Int)),(hW (0:Int))]::ar.cells [(hW s2),(hW di)]::VX)∧LN l better qq m s1 s2 di=some v) qc ⟨s1,s2,di,[],rfl,rfl,h⟩ ?_;clear h bX;rintro m T H ⟨s1,s2,di,VX,rfl,rfl,h⟩;cases m
 ·exact rj h
 rename_i m;rw [LN.eq_2] at h;conv=>whnf
 refine bs h (fun qs h=>?_) fun qs h=>?_
 ·rw [qs];conv=>whnf
  refine qx h id fun qF h=>?_;rw [qX p0 2 qv (l.drop (1:Int).toNat) s1 qF];conv=>whnf
  refine Es (x:=ar.cells [(hW (0:Int)),(hW (0:Int))]) (by first | exact qy.h | rfl | (simp [sy,I.settle];done)) ?_
  conv=>whnf
  rw [rB];refine Es (x:=ar.cells [(hW (ix (l.drop (1:Int).toNat) s1).1),(hW (ix (l.drop (1:Int).toNat) s1).2)]) (by first | exact qy.h | rfl | (simp [sy,I.settle];done)) ?_
  conv=>whnf
  obtain ⟨aT,qH,h⟩:=qm h;refine ⟨_,_,call6 (bs:=((.agg [(hW (ix (l.drop (1:Int).toNat) s1).1),(hW (ix (l.drop (1:Int).toNat) s1).2)])::(.agg [(hW s2),(hW di)])::K1)) (by simp only [sG,Ng.ir,Ng.cr];rfl) (by simp only [sG,Ng.ir];exact (p2 (Kf (p2 rfl (p2 rfl rfl))) (p2 (Kf (p2 rfl (p2 rfl rfl))) Ng.M5))) (Th _ _ _ qH) rfl,?_⟩;conv=>whnf
  cases aT
  ·(conv=>whnf);replace h:=Hl rfl h;exact ⟨m,sA m,(w (s1+(1:Int))),s2,di,_,rfl,rfl,h⟩
  ·(conv=>whnf);replace h:=Hm rfl h;refine Es (x:=ar.cells [(hW (ix (l.drop (1:Int).toNat) s1).1),(hW (ix (l.drop (1:Int).toNat) s1).2)]) (by first | exact qy.h | rfl | (simp [sy,I.settle];done)) ?_
   (conv=>whnf);exact ⟨m,sA m,(w (s1+(1:Int))),(ix (l.drop (1:Int).toNat) s1).1,(ix (l.drop (1:Int).toNat) s1).2,_,rfl,rfl,h⟩
 ·rw [qs];conv=>whnf
  exact r9 _ _ _ _ h ⟨rfl,rfl⟩
theorem akp {l:p8} {better:((Int×Int)→(Int×Int)→Option Bool)} {Np:FuncId} {K1:List I} (Ng:sk K1) (Th:∀ (qV:(Int×Int)) (BD:(Int×Int)) (r:Bool),better qV BD=some r→qB Np ((.agg [(hW qV.1),(hW qV.2)])::(.agg [(hW BD.1),(hW BD.2)])::K1) (B r)) {v:(Int×Int)} (h:Q4 l better=some v):qB 110 [(.ax (l.flatMap p0) l.length .shared),(.func Np [] K1)] (.agg [(hW v.1),(hW v.2)]):=by
 refine q5 et ago rfl (Kf (p2 rfl (p2 rfl rfl))) fun Q bp=>?_;have jD:qR [.cell 4 (.str 2)] Q (fun v=>(.agg [(hW v.1),(hW v.2)])) v:=fun T H bI=>bp _ T H bI;unfold Q4 at h;unfold abF;obtain ⟨II,q'⟩:∃ c,Rp=c:=⟨_,rfl⟩;rw [q'];conv=>whnf
 refine qx h id fun gG h=>?_;rw [qX p0 2 qv l (0:Int) gG];conv=>whnf
 refine qx h id fun gH h=>?_;erw [QQ p0 2 qv l (1:Int) gH];conv=>whnf
 subst q';refine ako Ng Th ?_ (by exact rfl) h;intro yh oJ ql p7 h qe;obtain ⟨qG,rfl⟩:=qe.ex;conv=>whnf
 exact qi h jD rfl rfl

noncomputable def abD:fW :=
 pZ [GC 3 [.lT (.bool false)] .mP] (pZ [pY 4 0,qo 5 1,qT 6 4 5 .eql,pY 3 6] .ret)
theorem agm:zE Tryz.prog V_ 108=some (abD,7,[.tmp 3]):=by kernel_rfl
def aaJ (k c0:Int):Option Bool :=
 some (decide (k=c0))
theorem akm {k:Int} {c0:Int} {v:Bool} (h:aaJ k c0=some v):qB 108 [(hW k),(.bU [(hW c0)])] (B v):=by
 refine q5 et agm rfl rfl fun Q bp=>?_;have jD:qR [.tmp 3] Q (fun v=>(B v)) v:=fun T H bI=>bp _ T H bI;unfold aaJ at h;unfold abD;conv=>whnf
 exact qi h jD rfl rfl

noncomputable def abG:fW :=
 pZ [GC 2 [.jh 0] .box,GC 3 [.jh 1] .box,GC 4 [.lT (.bool false)] .mP] (pZ [qW 5 2 0,qo 6 5,qW 7 3 0,qo 8 7,qT 9 6 8 .lss,pY 4 9] .ret)
theorem agp:zE Tryz.prog Wa 111=some (abG,10,[.tmp 4]):=by kernel_rfl
def Pe (x:(Int×Int)) (y:(Int×Int)):Option Bool :=
 some (decide (x.1<y.1))
theorem akq {x:(Int×Int)} {y:(Int×Int)} {v:Bool} (h:Pe x y=some v):qB 111 [(.agg [(hW x.1),(hW x.2)]),(.agg [(hW y.1),(hW y.2)])] (B v):=by
 refine q5 et agp rfl rfl fun Q bp=>?_;have jD:qR [.tmp 4] Q (fun v=>(B v)) v:=fun T H bI=>bp _ T H bI;unfold Pe at h;unfold abG;conv=>whnf
 exact qi h jD rfl rfl

noncomputable def abH:fW :=
 pZ [GC 3 [.lT (.bool false)] .mP] (pZ [pY 4 0,qW 5 1 0,qo 6 5,qT 7 4 6 .eql,pY 3 7] .ret)
theorem agq:zE Tryz.prog Wb 112=some (abH,8,[.tmp 3]):=by kernel_rfl
def aaL (k:Int) (c0:(Int×Int)):Option Bool :=
 some (decide (k=c0.1))
theorem akr {k:Int} {c0:(Int×Int)} {v:Bool} (h:aaL k c0=some v):qB 112 [(hW k),(.bU [(hW c0.1),(hW c0.2)])] (B v):=by
 refine q5 et agq rfl rfl fun Q bp=>?_;have jD:qR [.tmp 3] Q (fun v=>(B v)) v:=fun T H bI=>bp _ T H bI;unfold aaL at h;unfold abH;conv=>whnf
 exact qi h jD rfl rfl

theorem Qt (t:p9):cj 8 (Hy t)=true:=by
 show (([hW t.1,.ax (t.2.flatMap p0) t.2.length .shared]:List I).all (cj 7))=true;exact p2 rfl (p2 (q4 (fun _=>(p2 rfl (p2 rfl rfl))) _ _ _) rfl)
section
variable {t:p9} {S:List Int} {H:List ar} {bi k:Nat} {at_ i:Int} {can out:Row} {Q1 ajI ajJ:I} {K:cA→List I→List ar→Prop}
theorem ahl (p5:qS t) (cm:sa t S) (aN:S.Nodup) (hi:i∈S) (al:can.length≤1000) (ag:H[bi]?=some (.cells [hW i]))
 (fI:∀ (Y:List ar),K .normal (Hc 81 [(0,Hy t),(3,.ax (out.flatMap p0) out.length (.uniq 2)),(4,.ref 0 0 S.length none 1),(5,hW at_),(6,.ax ((can++IX t S at_ i).flatMap p0) (can++IX t S at_ i).length (.uniq 2)),(8,.ptr bi 0),(9,.ax ((sr S i).map hW) (sr S i).length .shared),(20,.ref 0 0 S.length none 1),(21,hW S.length),(22,hW (k:Int)),(30,hW 2),(31,B false)]) (H++Y)) :
  dR Tryz.prog R8 85 0 none QH (Hc 81 [(0,Hy t),(3,.ax (out.flatMap p0) out.length (.uniq 2)),(4,.ref 0 0 S.length none 1),(5,hW at_),(6,.ax (can.flatMap p0) can.length (.uniq 2)),(8,.ptr bi 0),(9,.ax ((sr S i).map hW) (sr S i).length .shared),(20,.ref 0 0 S.length none 1),(21,hW S.length),(22,hW (k:Int)),(23,Q1),(26,ajI),(29,ajJ)]) H K:=by
 have g6:=cm i hi;unfold QH;obtain ⟨dY,Cs⟩:∃ c,UX=c:=⟨_,rfl⟩;rw [Cs];conv=>whnf
 refine .intro (fun m T H'=>∃ (e:Nat) (Y:List ar),e≤2∧m=2-e∧T=Hc 81 [(0,Hy t),(3,.ax (out.flatMap p0) out.length (.uniq 2)),(4,.ref 0 0 S.length none 1),(5,hW at_),(6,.ax ((can++([(i,0),(i,1)].take e).filter (Hs t S at_)).flatMap p0) (can++([(i,0),(i,1)].take e).filter (Hs t S at_)).length (.uniq 2)),(8,.ptr bi 0),(9,.ax ((sr S i).map hW) (sr S i).length .shared),(20,.ref 0 0 S.length none 1),(21,hW S.length),(22,hW (k:Int)),(30,hW (e:Int))]∧H'=H++Y) 2 ⟨0,[],by omega,rfl,?_,by simp⟩ ?_
 ·rw [tD,u_,sW];rfl
 rintro m T H' ⟨e,Y,he,rfl,rfl,rfl⟩;conv=>whnf
 refine Ip (fun h=>?_) (fun h=>?_)
 ·subst Cs;unfold UX;obtain ⟨b9,iF⟩:∃ c,UW=c:=⟨_,rfl⟩;rw [iF];conv=>whnf
  subst iF;unfold UW;obtain ⟨bt,er⟩:∃ c,UU=c:=⟨_,rfl⟩;rw [er];conv=>whnf
  refine Es (qY ag) ?_;conv=>whnf
  refine Es (x:=ar.cells [(hW (0:Int)),(hW (0:Int))]) (by first | exact qy.h | rfl | (simp [sy,I.settle];done)) ?_
  conv=>whnf
  rw [rB];subst er;unfold UU;obtain ⟨bb,b6⟩:∃ c,UT=c:=⟨_,rfl⟩;rw [b6];conv=>whnf
  refine Es (x:=ar.cells [hW i,hW (e:Int)]) (by first | exact qy.h | rfl | (simp [sy,I.settle];done)) ?_
  conv=>whnf
  refine ⟨p2 (Qt t) (p2 rfl rfl),_,KT (Km (p:=(i,(e:Int))) g6),?_⟩;conv=>whnf
  subst b6;unfold UT;obtain ⟨a',cb⟩:∃ c,QF=c:=⟨_,rfl⟩;rw [cb];conv=>whnf
  have HH:Mx t (sr S i) (fin t (i,(e:Int)))=some (Lp t (sr S i) (fin t (i,(e:Int)))):=(SD p5 (NY cm i) (Pc aN i) _).1;have DF:∀ q:Bool,Hs t S at_ (i,(e:Int))=q→([(i,0),(i,1)].take (e+1)).filter (Hs t S at_)=([(i,0),(i,1)].take e).filter (Hs t S at_)++if q=true then [(i,(e:Int))] else []:=fun q a0=>by
   subst a0;rcases (show e=0∨e=1 by omega) with rfl | rfl
   ·simp [tx]
   ·simp only [vo,tD,tx,u_];split <;> simp
  have Ts:Hs t S at_ (i,(e:Int))=true→_:=fun a0=>DF true a0;have eV:Hs t S at_ (i,(e:Int))=false→([(i,0),(i,1)].take (e+1)).filter (Hs t S at_)=([(i,0),(i,1)].take e).filter (Hs t S at_):=fun a0=>by
   have:=DF false a0;rw [if_neg (by decide),sW] at this;exact this
  rw [if_pos rfl] at Ts;have cB:(can++([(i,0),(i,1)].take e).filter (Hs t S at_)).length≤1002:=by
   have ad:=tW (Hs t S at_) ([(i,0),(i,1)].take e);rw [tf] at ad;simp only [sC,sV,List.length_nil] at ad ⊢;omega
  rcases Jr (decide (at_<0)) with gG | gG
  ·rw [gG];(conv=>whnf);refine ⟨p2 (Qt t) (p2 (r7 (fun _=>rfl) _ _ _) (p2 rfl rfl)),_,aaK HH,?_⟩;(conv=>whnf);rcases Jr (Lp t (sr S i) (fin t (i,(e:Int)))) with gH | gH
   ·rw [gH];(have a0:Hs t S at_ (i,(e:Int))=true:=by unfold Hs;rw [gG,gH];rfl);(conv=>whnf);subst cb;unfold QF;(conv=>whnf);refine Es (x:=ar.cells [hW i,hW (e:Int)]) (by first | exact qy.h | rfl | (simp [sy,I.settle];done)) ?_
    (conv=>whnf);refine ⟨rfl,by omega,rfl,by omega,?_⟩;erw [rK p0 _ (i,(e:Int))];(conv=>whnf);exact ⟨2-(e+1),by omega,e+1,Y++[ar.cells [hW i,hW (e:Int)]],by omega,rfl,by rw [Ts a0,←sH,←rJ e (by omega)] <;> rfl,by rw [sH] <;> rfl⟩
   ·rw [gH];(have a0:Hs t S at_ (i,(e:Int))=false:=by unfold Hs;rw [gG,gH];rfl);(conv=>whnf);exact ⟨2-(e+1),by omega,e+1,Y++[ar.cells [hW i,hW (e:Int)]],by omega,rfl,by rw [eV a0,←rJ e (by omega)] <;> rfl,by rw [sH] <;> rfl⟩
  ·rw [gG];(conv=>whnf);rcases Jr (decide (qE t (i,(e:Int))=at_)) with qs | qs
   ·rw [qs];(conv=>whnf);refine ⟨p2 (Qt t) (p2 (r7 (fun _=>rfl) _ _ _) (p2 rfl rfl)),_,aaK HH,?_⟩;(conv=>whnf);rcases Jr (Lp t (sr S i) (fin t (i,(e:Int)))) with gH | gH
    ·rw [gH];(have a0:Hs t S at_ (i,(e:Int))=true:=by unfold Hs;rw [gG,gH,qs];rfl);(conv=>whnf);subst cb;unfold QF;(conv=>whnf);refine Es (x:=ar.cells [hW i,hW (e:Int)]) (by first | exact qy.h | rfl | (simp [sy,I.settle];done)) ?_
     (conv=>whnf);refine ⟨rfl,by omega,rfl,by omega,?_⟩;erw [rK p0 _ (i,(e:Int))];(conv=>whnf);exact ⟨2-(e+1),by omega,e+1,Y++[ar.cells [hW i,hW (e:Int)]],by omega,rfl,by rw [Ts a0,←sH,←rJ e (by omega)] <;> rfl,by rw [sH] <;> rfl⟩
    ·rw [gH];(have a0:Hs t S at_ (i,(e:Int))=false:=by unfold Hs;rw [gG,gH,qs];rfl);(conv=>whnf);exact ⟨2-(e+1),by omega,e+1,Y++[ar.cells [hW i,hW (e:Int)]],by omega,rfl,by rw [eV a0,←rJ e (by omega)] <;> rfl,by rw [sH] <;> rfl⟩
   ·rw [qs];(have a0:Hs t S at_ (i,(e:Int))=false:=by unfold Hs;rw [gG,qs];rfl);(conv=>whnf);exact ⟨2-(e+1),by omega,e+1,Y++[ar.cells [hW i,hW (e:Int)]],by omega,rfl,by rw [eV a0,←rJ e (by omega)] <;> rfl,by rw [sH] <;> rfl⟩
 ·obtain rfl:e=2:=by omega
  conv=>whnf
  exact fI Y
theorem Zo {G:List ar} {bi:Nat} {cs:List I} (h:G[bi]?=some (.cells cs)) (aB:(cs.map I.view).map (ke G)=cs):[I.ptr bi 0].map (ir G)=[.bU cs]:=by
 simp only [sG,tL,ir,hP,h,th];rw [aB]
theorem Zp {G:List ar} {bi:Nat} {cs:List I} (h:G[bi]?=some (.cells cs)) (aB:(cs.map I.view).map (ke G)=cs):[I.ptr bi 0].map (hP G)=[.bU cs]:=by
 simp only [sG,tL,hP,h,th];rw [aB]
theorem WX {cs:List I} (h:cs.all (cj 6)=true):sk [.bU cs]:=⟨by
 simp only [tJ,ux,uj];show cs.all (cj 6)=true
 exact h,by simp⟩
theorem aaE (S:List Int) (i:Int):(S.filter fun x=>!decide (x=i))=sr S i:=by
 unfold sr;congr 1;funext x;simp
theorem U7 (G:List ar) (a c:ar):(G++[a]).set G.length c=G++[c]:=rB G a c
theorem Sh {b:p9} {S:List Int} {at_:Int}:∀ L:List Int,(L.flatMap (IX b S at_)).length≤2*L.length
 | []=>by simp
 | i::L=>by
   have a_:=Sh (b:=b) (S:=S) (at_:=at_) L;have ad:(IX b S at_ i).length≤2:=tW _ _;rw [List.flatMap_cons,sC,sV];omega
theorem adQ {b:p9} {S:List Int} {at_:Int} (ai:S.Pairwise (·<·)):(HU b S at_).Pairwise fun p q=>p.1≤q.1:=by
 unfold HU;have ad:∀ i,∀ x∈IX b S at_ i,x.1=i:=fun i x ak=>by
  have:=(tc.1 ak).1;simp only [sL,uL,or_false] at this;rcases this with rfl | rfl <;> rfl
 refine List.pairwise_flatMap.2 ⟨fun i _=>?_,ai.imp fun jF x ak y aZ=>?_⟩
 ·exact List.Pairwise.sublist List.filter_sublist (by simp)
 ·rw [ad _ x ak,ad _ y aZ];omega
theorem WV {l:Row} (ao:l.length≤1000) {p:Int×Int}:∀ (m i:Nat) (z:Int),z=i→i≤(l.drop 1).length→(l.drop 1).length-i<m→(∀ q∈l.drop 1,p.1≤q.1)→LN l Pe (fun yh oJ=>some (yh,oJ)) m z p.1 p.2=some p
 | 0,_,_,_,_,h,_=>absurd h (by omega)
 | m+1,i,_,rfl,hi,hm,a0=>by
   rw [LN,show (1:Int).toNat=1 from rfl];by_cases h:(i:Int)<((l.drop 1).length:Int)
   ·(have rn:i<(l.drop 1).length:=by omega);have hle:=a0 _ (sU rn);(have GV:(l.drop 1).length≤1000:=by simp;omega);rw [if_pos (decide_eq_true h),qz ⟨by omega,h⟩,ry rn,Pe,sx,if_neg (by simp;simpa using hle),sm i (by omega)];exact WV ao m (i+1) _ rfl (by omega) (by omega) a0
   ·rw [if_neg (by simpa using h)]
theorem adH {b:p9} {S:List Int} {at_:Int} (ai:S.Pairwise (·<·)) {p:Int×Int} {r:Row} (h:HU b S at_=p::r) (ao:(p::r).length≤1000):Q4 (HU b S at_) Pe=some p:=by
 have aj:=adQ (b:=b) (at_:=at_) ai;rw [h] at aj ⊢;have jN:0<(p::r).length:=by simp
 have a0:∀ q∈(p::r).drop 1,p.1≤q.1:=(tK.1 aj).1;rw [Q4,qz ⟨by omega,by omega⟩,qz ⟨by omega,by omega⟩];have CS:((p::r).drop 1).length≤(p::r).length:=by simp
 exact WV ao qc 0 0 rfl (by omega) (r6 (by omega)) a0
theorem ahj (p5:qS t) (cm:sa t S) (ai:S.Pairwise (·<·)) (aV:S≠[]) {Z:List Int} (ah:H[0]?=some (.cells ((S++Z).map hW))) (aq:out.length≤1000)
 (Hv:∀ (ba:List I) (G:List ar),HU t S at_=[]→(j' G ba [.tmp 2]).map hl=some (.ax (out.flatMap p0) out.length (.uniq 2))→K .ret ba G)
 (KC:∀ (p:Int×Int) (r:Row) (RY:List Int) (RR:List ar) (Z_ Z' aab Q1 aac aae aaf aag aah:I),HU t S at_=p::r→RR[0]?=some (.cells ((sr S p.1++RY).map hW))→K .normal (Hc 81 [(0,Hy t),(3,.ax ((out++[p]).flatMap p0) (out++[p]).length (.uniq 2)),(4,.ref 0 0 (sr S p.1).length none 1),(5,hW (fin t p)),(20,Z_),(21,Z'),(22,aab),(23,Q1),(63,aae),(65,aac),(75,aaf),(76,aag),(78,aah)]) RR) :
  dR Tryz.prog R8 85 0 none QG (Hc 81 [(0,Hy t),(3,.ax (out.flatMap p0) out.length (.uniq 2)),(4,.ref 0 0 S.length none 1),(5,hW at_),(6,.ax [] 0 (.uniq 2))]) H K:=by
 have aN:S.Nodup:=ai.imp fun h e=>by omega
 have PZ:S.length≤10:=tb (Lx aN cm) p5.len;unfold QG;obtain ⟨alX,Xv⟩:∃ c,UQ=c:=⟨_,rfl⟩;obtain ⟨nm,Hi⟩:∃ c,UZ=c:=⟨_,rfl⟩;rw [Xv,Hi];conv=>whnf
 refine .intro (fun m T H'=>∃ (k:Nat) (Y:List ar),k≤S.length∧m=S.length-k∧T=Hc 81 [(0,Hy t),(3,.ax (out.flatMap p0) out.length (.uniq 2)),(4,.ref 0 0 S.length none 1),(5,hW at_),(6,.ax (((S.take k).flatMap (IX t S at_)).flatMap p0) ((S.take k).flatMap (IX t S at_)).length (.uniq 2)),(20,.ref 0 0 S.length none 1),(21,hW S.length),(22,hW (k:Int))]∧H'=H++Y) _ ⟨0,[],by omega,rfl,rfl,by simp⟩ ?_;rintro m T H' ⟨k,Y,av,rfl,rfl,rfl⟩;conv=>whnf
 refine Ip (fun h=>?_) (fun h=>?_)
 ·have I2:k<S.length:=by omega
  subst Hi;unfold UZ;obtain ⟨nk,HC⟩:∃ c,UY=c:=⟨_,rfl⟩;rw [HC];conv=>whnf
  refine ⟨by omega,?_⟩;conv=>whnf
  refine Es (qY ah) ?_;conv=>whnf
  refine Es (x:=hW S[k]) (by rw [show 0+(k:Int).toNat*1=k by simp,tj,sQ (by simpa using I2),sN,sK I2];rfl) ?_;conv=>whnf
  refine Es (x:=ar.cells [(hW (0:Int))]) (by first | exact qy.h | rfl | (simp [sy,I.settle];done)) ?_
  conv=>whnf
  rw [rB];subst HC;unfold UY;obtain ⟨fZ,Hg⟩:∃ c,QH=c:=⟨_,rfl⟩;rw [Hg];conv=>whnf
  refine ⟨_,_,M9 (r7 (fun _=>rfl) _ _ _) (W6 S Z (by omega) (by omega) (qY (qY ah))),?_⟩;conv=>whnf
  obtain ⟨bi,Nf⟩:∃ bi,bi=(H++Y).length:=⟨_,rfl⟩;obtain ⟨G,HN⟩:∃ G,G=H++Y++[ar.cells [I.int .i64 S[k]]]:=⟨_,rfl⟩;have Nc:G[bi]?=some (.cells [hW S[k]]):=by rw [HN,Nf];simp
  rw [←HN,←Nf];have aP:∀ c:ar,[I.ptr bi 0].map (ir ((G++[ar.cells (S.map hW)]).set G.length c))=[.bU [hW S[k]]]:=fun c=>by
   rw [U7];exact Zo (qY Nc) rfl
  have CU:[I.ptr bi 0].map (hP (G++[ar.cells (S.map hW)]))=[.bU [hW S[k]]]:=Zp (qY Nc) rfl;refine ⟨_,_,HL (aek (id:=G.length) (rest:=[]) (cur:=S) (p:=fun x=>decide (x=S[k])) rfl rfl rfl (by omega) (sP _) aP CU (WX rfl) (by omega) fun x=>akm rfl),?_⟩;rw [U7,aaE];conv=>whnf
  refine ⟨_,_,fun C=>aeJ (l:=sr S S[k]) (r:=List.replicate (S.length-(sr S S[k]).length) 0++[]) (id:=G.length) (H:=G++[ar.cells ((sr S S[k]++List.replicate (S.length-(sr S S[k]).length) 0++[]).map hW)]) rfl (sP _) (by simp),?_⟩;rw [U7];conv=>whnf
  subst Hg;refine ahl (k:=k) (can:=(S.take k).flatMap (IX t S at_)) (out:=out) (at_:=at_) p5 cm aN (sU I2) ?_ (qY Nc) fun rL=>?_
  ·have:=Sh (b:=t) (S:=S) (at_:=at_) (S.take k);rw [tf] at this;omega
  conv=>whnf
  have afc:(S.take (k+1)).flatMap (IX t S at_)=(S.take k).flatMap (IX t S at_)++IX t S at_ S[k]:=by
   rw [tT I2,List.flatMap_append];simp
  refine ⟨S.length-(k+1),by omega,k+1,Y++[ar.cells [I.int .i64 S[k]]]++[ar.dead]++rL,by omega,rfl,by rw [afc,←rJ k (by omega)] <;> rfl,by rw [HN];simp only [sH]⟩
 ·obtain rfl:k=S.length:=by omega
  conv=>whnf
  rw [tU,show S.flatMap (IX t S at_)=HU t S at_ from rfl];subst Xv;unfold UQ;obtain ⟨adI,Ox⟩:∃ c,UP=c:=⟨_,rfl⟩;rw [Ox];conv=>whnf
  rcases Jr (decide (((HU t S at_).length:Int)=0)) with gG | gG
  ·rw [gG];(conv=>whnf);exact Hv _ _ (tu.1 (by have:=of_decide_eq_true gG;omega)) rfl
  ·rw [gG];(conv=>whnf);have gG:=of_decide_eq_false gG;obtain ⟨p,r,Ml⟩:∃ p r,HU t S at_=p::r:=by
    cases e:HU t S at_ with
    | nil=>rw [e] at gG;exact absurd rfl gG
    | cons p r=>exact ⟨p,r,rfl⟩
   have aB:=Qj.1 (show p∈HU t S at_ by rw [Ml];simp);have P':=cm p.1 aB.1;subst Ox;unfold UP;obtain ⟨WZ,Lm⟩:∃ c,UO=c:=⟨_,rfl⟩;rw [Lm];(conv=>whnf);refine ⟨p2 (q4 (fun _=>(p2 rfl (p2 rfl rfl))) _ _ _) (p2 rfl rfl),_,akp sk.nil (fun qV BD r h=>akq h) (adH ai Ml (by have:=Sh (b:=t) (S:=S) (at_:=at_) S;rw [show S.flatMap (IX t S at_)=HU t S at_ from rfl,Ml] at this;omega)),?_⟩;(conv=>whnf);refine Es (x:=ar.cells [(hW (0:Int)),(hW (0:Int))]) (by first | exact qy.h | rfl | (simp [sy,I.settle];done)) ?_
   (conv=>whnf);rw [rB];subst Lm;unfold UO;obtain ⟨WY,K2⟩:∃ c,UN=c:=⟨_,rfl⟩;rw [K2];(conv=>whnf);refine Es (x:=ar.cells [hW p.1,hW p.2]) (by first | exact qy.h | rfl | (simp [sy,I.settle];done)) ?_
   (conv=>whnf);refine ⟨rfl,by omega,rfl,by omega,?_⟩;erw [rK p0 _ p];(conv=>whnf);subst K2;unfold UN;obtain ⟨B8,JS⟩:∃ c,U0=c:=⟨_,rfl⟩;rw [JS];(conv=>whnf);have gF:0<H.length:=(sv.1 ah).1;obtain ⟨bi,Nf⟩:∃ bi,bi=(H++Y).length:=⟨_,rfl⟩;(have afb:bi≠0:=by rw [Nf,sC];omega);obtain ⟨G,HN⟩:∃ G,G=H++Y++[ar.cells [(hW p.1).g0.settle,(hW p.2).g0.settle]]:=⟨_,rfl⟩;(have Nc:G[bi]?=some (.cells [hW p.1,hW p.2]):=by rw [HN,Nf];simp;exact ⟨rfl,rfl⟩);(have K3:G[0]?=some (.cells ((S++Z).map hW)):=by rw [HN];exact qY (qY ah));(have XH:∀ c:ar,(G.set 0 c)[bi]?=some (.cells [hW p.1,hW p.2]):=fun c=>by rw [sJ (Ne.symm afb)];exact Nc);rw [←HN,←Nf];have aP:∀ c:ar,[I.ptr bi 0].map (ir (G.set 0 c))=[.bU [hW p.1,hW p.2]]:=fun c=>Zo (XH c) rfl;have CU:[I.ptr bi 0].map (hP G)=[.bU [hW p.1,hW p.2]]:=Zp Nc rfl;refine ⟨_,_,HL (aeh (id:=0) (cur:=S) (rest:=Z) (p:=fun x=>decide (x=p.1)) (sP _) aP CU (WX rfl) (by omega) (fun x=>akr (c0:=p) rfl) K3),?_⟩;rw [aaE];(conv=>whnf);subst JS;unfold U0;(conv=>whnf);refine Es (XH _) ?_;(conv=>whnf);refine ⟨p2 (Qt t) (p2 rfl rfl),_,KT (Km (p:=p) P'),?_⟩;(conv=>whnf);exact KC p r (List.replicate (S.length-(sr S p.1).length) 0++Z) _ _ _ _ _ _ _ _ _ _ Ml (by rw [←sH];exact sI (sv.1 K3).1)
def Rf (t:p9):Option Row:=if rQ t=0∧0<t.2.length then some (HX t) else none
theorem alz {v:Row} (h:Rf t=some v):qB 85 [Hy t] (.ax (v.flatMap p0) v.length .shared):=by
 unfold Rf at h;split at h
 ·rename_i al;obtain rfl:=Option.some.inj h;have p5:=I'.1 al.1;have dm:=p5.len;clear h;refine q5 et agf rfl (q4 (fun _=>(p2 rfl (p2 rfl rfl))) _ _ _) fun Q bp=>?_;have jD:∀ T H,I9 [.tmp 2] (.ax ((HX t).flatMap p0) (HX t).length .shared) .ret T H→Q .ret T H:=fun T H bI=>bp _ T H bI;unfold Y3;obtain ⟨al0,Xy⟩:∃ c,US=c:=⟨_,rfl⟩;rw [Xy];conv=>whnf
  subst Xy;unfold US Y4;obtain ⟨alZ,Xx⟩:∃ c,UR=c:=⟨_,rfl⟩;rw [Xx];conv=>whnf
  refine ⟨_,_,M9 (r7 (fun _=>rfl) _ _ _) (acv al.2 (by omega)),?_⟩;conv=>whnf
  refine .inl ⟨by omega,?_⟩;conv=>whnf
  refine .intro (fun m T H'=>∃ (S Z:List Int) (out:Row) (at_:Int),S.length<m∧LB t m S out at_=HX t∧sa t S∧S.Pairwise (·<·)∧out.length+S.length≤10∧T=Hc 81 [(0,Hy t),(3,.ax (out.flatMap p0) out.length (.uniq 2)),(4,.ref 0 0 S.length none 1),(5,hW at_)]∧H'[0]?=some (.cells ((S++Z).map hW))) (t.2.length+1) ⟨upto t.2.length,[],[],-1,by rw [r_];omega,rfl,LK,aaj _,by rw [r_];simpa using dm,by rw [r_] <;> rfl,by rw [sW];rfl⟩ ?_;rintro m T H' ⟨S,Z,out,at_,hm,ae,cm,ai,aq,rfl,ah⟩;obtain ⟨m,rfl⟩:∃ hd,m=hd+1:=⟨m-1,by omega⟩;subst Xx;unfold UR;obtain ⟨alY,Xw⟩:∃ c,QG=c:=⟨_,rfl⟩;rw [Xw];conv=>whnf
  rcases Jr (decide ((0:Int)<(S.length:Int))) with gG | gG
  ·rw [gG];(conv=>whnf);subst Xw;(have aV:S≠[]:=fun e=>by rw [e] at gG;simp at gG);refine ahj (at_:=at_) (out:=out) p5 cm ai aV ah (by omega) ?_ ?_
   ·intro ba G al aj;(conv=>whnf);(have bf:out=HX t:=by rw [LB,al] at ae;exact ae);rw [bf] at aj;obtain ⟨vs,ad,af⟩:=Option.map_eq_some_iff.1 aj;exact jD _ _ ⟨.inr rfl,vs,ad,_,by rw [af];exact o' (q4 (fun _=>(p2 rfl (p2 rfl rfl))) _ _ _),rfl⟩
   ·intro p r RY RR Z_ Z' aab Q1 aac aae aaf aag aah Ml HN;(conv=>whnf);have aB:=(Qj.1 (show p∈HU t S at_ by rw [Ml];simp)).1;(have aN:S.Nodup:=ai.imp fun h e=>by omega);have aS:=(Q3 aN aB).length_eq;rw [sV] at aS;refine ⟨m,by omega,sr S p.1,RY,out++[p],fin t p,by omega,?_,NY cm _,ai.filter _,by simp only [sC,tz];omega,rfl,HN⟩;rw [LB,Ml] at ae;exact ae
  ·rw [gG];(conv=>whnf);have aV:S=[]:=tu.1 (by have:=of_decide_eq_false gG;omega);(have bf:out=HX t:=by rw [LB,aV] at ae;exact ae);rw [bf];exact jD _ _ ⟨.inr rfl,_,rfl,_,o' (q4 (fun _=>(p2 rfl (p2 rfl rfl))) _ _ _),rfl⟩
 ·cases h
end

noncomputable def abV:fW :=
 pZ [GC 1 [.jh 0] .box,GC 2 [.lT (.ax [] 0 .full)] (.nil 2),qd 3 0] (pZ [GC 7 [.sl 1] (.zy (.str 2)),GC 8 [.lT (.func 64 [] []),.sl 7] (.call 3),pY 6 8,rI 9 6 0,GC 10 [.Bt 6] (.ext 1),pY 4 9,pY 5 10] (.seq (.block 0 (pZ [p1 12 5,qA 13 12 0 .neq,pY 11 13] (.cond (.sl 11) (pZ [pY 14 5,GC 2 [.lT (.ax [] 0 .full)] (.nil 2),pY 3 14] .ret) (pZ [qW 16 1 1,qo 17 16,qI 18 17,qA 19 18 0 .eql,pY 15 19] (.cond (.sl 15) (pZ [GC 2 [.lT (.ax [] 0 .full)] (.nil 2),qd 3 5] .ret) (pZ [p1 21 4,GC 22 [.lT (.func 83 [] []),.sl 21] (.call 3),qI 23 22,qA 24 23 1 .gtr,pY 20 24] (.cond (.sl 20) (pZ [GC 2 [.lT (.ax [] 0 .full)] (.nil 2),qd 3 27] .ret) .skip))))))) (pZ [pY 25 4,GC 26 [.lT (.func 85 [] []),.sl 25] (.call 3),pY 2 26,qd 3 0] .ret)))
theorem agE:zE Tryz.prog Wr 37=some (abV,27,[.tmp 2,.tmp 3]):=by kernel_rfl
def Pn (b:qn):Option (p8×Int) :=
 (Kl b).bind fun aT =>
 match aT with
 | (none,q1) =>
   if (decide (q1≠(0:Int)))=true then
    some ([],q1)
   else
    if (decide ((b.2.length:Int)=(0:Int)))=true then
     some ([],(5:Int))
    else
     none
 | (some bS,q1) =>
   if (decide (q1≠(0:Int)))=true then
    some ([],q1)
   else
    if (decide ((b.2.length:Int)=(0:Int)))=true then
     some ([],(5:Int))
    else
     (KV bS).bind fun r2 =>
     if (decide ((1:Int)<(r2.length:Int)))=true then
      some ([],(27:Int))
     else
      (Rf bS).bind fun eL =>
      some (eL,(0:Int))
theorem akU {b:qn} {v:(p8×Int)} (h:Pn b=some v):qB 37 [(.agg [(hW b.1),(.ax (b.2.flatMap p0) b.2.length .shared)])] (.tuple [(.ax (v.1.flatMap p0) v.1.length .shared),(hW v.2)]):=by
 refine q5 et agE rfl (JZ (p2 (q4 (fun _=>(p2 rfl (p2 rfl rfl))) _ _ _) (p2 rfl rfl))) fun Q bp=>?_;have jD:qR [.tmp 2,.tmp 3] Q (fun v=>(.tuple [(p4 v.1 .shared),(hW v.2)])) v:=fun T H bI=>bp _ T H bI;unfold Pn at h;unfold abV;conv=>whnf
 obtain ⟨aT,gG,h⟩:=qm h;rcases aT with ⟨_ | bS,q1⟩
 ·refine ⟨qw.pl,_,LR gG,?_⟩;conv=>whnf
  refine bs h (fun gH h=>?_) fun gH h=>?_
  ·rw [gH];(conv=>whnf);exact qi h jD rfl rfl
  ·rw [gH];(conv=>whnf);refine bs h (fun qs h=>?_) fun qs h=>?_
   ·rw [qs];(conv=>whnf);exact qi h jD rfl rfl
   ·rw [qs];(conv=>whnf);exact rj h
 ·refine ⟨qw.pl,_,LR gG,?_⟩;conv=>whnf
  refine bs h (fun qF h=>?_) fun qF h=>?_
  ·rw [qF];(conv=>whnf);exact qi h jD rfl rfl
  ·rw [qF];(conv=>whnf);refine bs h (fun qH h=>?_) fun qH h=>?_
   ·rw [qH];(conv=>whnf);exact qi h jD rfl rfl
   ·rw [qH];(conv=>whnf);obtain ⟨r2,ra,h⟩:=qm h;refine ⟨qw.pl,_,VE ra,?_⟩;(conv=>whnf);refine bs h (fun q7 h=>?_) fun q7 h=>?_
    ·rw [q7];(conv=>whnf);exact qi h jD rfl rfl
    ·rw [q7];(conv=>whnf);obtain ⟨eL,q8,h⟩:=qm h;refine ⟨qw.pl,_,alz q8,?_⟩;(conv=>whnf);exact qi h jD rfl rfl

noncomputable def abY:fW :=
 pZ [GC 1 [.jh 0] .box,GC 2 [.lT (.ax [] 0 .full)] (.nil 2),qd 3 0] (pZ [GC 7 [.sl 1] (.zy (.str 2)),GC 8 [.lT (.func 37 [] []),.sl 7] (.call 3),pY 6 8,rI 9 6 0,GC 10 [.Bt 6] (.ext 1),pY 4 9,pY 5 10] (.seq (pZ [p1 11 5,qA 12 11 0 .neq] (.cond (.sl 12) (pZ [pY 13 5,GC 2 [.lT (.ax [] 0 .full)] (.nil 2),pY 3 13] .ret) .skip)) (.seq (pZ [GC 14 [.Bt 1] (.zy (.str 2)),p1 15 4,GC 16 [.lT (.func 22 [] []),.sl 14,.sl 15] (.call 3),qA 17 16 0 .neq] (.cond (.sl 17) (pZ [GC 2 [.lT (.ax [] 0 .full)] (.nil 2),qd 3 27] .ret) .skip)) (pZ [pY 18 4,pY 2 18,qd 3 0] .ret))))
theorem agH:zE Tryz.prog Wu 42=some (abY,19,[.tmp 2,.tmp 3]):=by kernel_rfl
def Lb (b:qn):Option (p8×Int) :=
 (Pn b).bind fun aT =>
 if (decide (aT.2≠(0:Int)))=true then
  some ([],aT.2)
 else
  (La b aT.1).bind fun r2 =>
  if (decide (r2≠(0:Int)))=true then
   some ([],(27:Int))
  else
   some (aT.1,(0:Int))
theorem Vt {b:qn} {v:(p8×Int)} (h:Lb b=some v):qB 42 [(.agg [(hW b.1),(.ax (b.2.flatMap p0) b.2.length .shared)])] (.tuple [(.ax (v.1.flatMap p0) v.1.length .shared),(hW v.2)]):=by
 refine q5 et agH rfl (JZ (p2 (q4 (fun _=>(p2 rfl (p2 rfl rfl))) _ _ _) (p2 rfl rfl))) fun Q bp=>?_;have jD:qR [.tmp 2,.tmp 3] Q (fun v=>(.tuple [(p4 v.1 .shared),(hW v.2)])) v:=fun T H bI=>bp _ T H bI;unfold Lb at h;unfold abY;conv=>whnf
 obtain ⟨aT,gG,h⟩:=qm h;refine ⟨qw.pl,_,akU gG,?_⟩;conv=>whnf
 refine bs h (fun gH h=>?_) fun gH h=>?_
 ·rw [gH];conv=>whnf
  exact qi h jD rfl rfl
 ·rw [gH];conv=>whnf
  obtain ⟨r2,qs,h⟩:=qm h;refine ⟨qw.pl,_,aaX qs,?_⟩;conv=>whnf
  refine bs h (fun qF h=>?_) fun qF h=>?_
  ·rw [qF];(conv=>whnf);exact qi h jD rfl rfl
  ·rw [qF];(conv=>whnf);exact qi h jD rfl rfl

noncomputable def abW:fW :=
 pZ [GC 1 [.jh 0] .box,qd 2 0,qd 3 0] (.seq (pZ [GC 7 [.sl 1] (.zy (.str 2)),GC 8 [.lT (.func 42 [] []),.sl 7] (.call 3),pY 6 8,rI 9 6 0,GC 10 [.Bt 6] (.ext 1),pY 4 9,pY 5 10] (pZ [pY 11 5,qA 12 11 0 .eql] (.cond (.sl 12) (pZ [qd 2 0,qd 3 0] .ret) .skip))) (pZ [GC 13 [.Bt 1] (.zy (.str 2)),GC 14 [.lT (.func 35 [] []),.sl 13] (.call 3),rI 15 14 0,GC 16 [.Bt 14] (.ext 1),pY 2 15,pY 3 16] .ret))
theorem agF:zE Tryz.prog Ws 39=some (abW,17,[.tmp 2,.tmp 3]):=by kernel_rfl
def LP (b:qn):Option (Int×Int) :=
 (Lb b).bind fun aT =>
 if (decide (aT.2=(0:Int)))=true then
  some ((0:Int),(0:Int))
 else
  (N4 b).bind fun r2 =>
  some (r2.1,r2.2)
theorem aa4 {b:qn} {v:(Int×Int)} (h:LP b=some v):qB 39 [(.agg [(hW b.1),(.ax (b.2.flatMap p0) b.2.length .shared)])] (.tuple [(hW v.1),(hW v.2)]):=by
 refine q5 et agF rfl (JZ (p2 rfl (p2 rfl rfl))) fun Q bp=>?_;have jD:qR [.tmp 2,.tmp 3] Q (fun v=>(.tuple [(hW v.1),(hW v.2)])) v:=fun T H bI=>bp _ T H bI;unfold LP at h;unfold abW;conv=>whnf
 obtain ⟨aT,gG,h⟩:=qm h;refine ⟨qw.pl,_,Vt gG,?_⟩;conv=>whnf
 refine bs h (fun gH h=>?_) fun gH h=>?_
 ·rw [gH];conv=>whnf
  exact qi h jD rfl rfl
 ·rw [gH];conv=>whnf
  obtain ⟨r2,qs,h⟩:=qm h;refine ⟨qw.pl,_,aa2 qs,?_⟩;conv=>whnf
  exact qi h jD rfl rfl

end Go.Proofs.YtfakoboiahbhaaaGreat.Ab


namespace Go.Proofs.YtfakoboiahbhaaaGreat.Ab
open Go
set_option maxRecDepth 20000
set_option maxHeartbeats 4000000

noncomputable def abX:fW :=
 pZ [GC 1 [.jh 0] .box,GC 2 [.lT (.ax [] 0 .full)] (.nil 1),qd 3 0] (pZ [GC 7 [.Bt 1] (.zy (.str 2)),GC 8 [.lT (.func 64 [] []),.sl 7] (.call 3),pY 6 8,rI 9 6 0,GC 10 [.Bt 6] (.ext 1),pY 4 9,pY 5 10] (.seq (pZ [p1 11 5,qA 12 11 0 .neq] (.cond (.sl 12) (pZ [pY 13 5,GC 2 [.lT (.ax [] 0 .full)] (.nil 1),pY 3 13] .ret) .skip)) (pZ [pY 14 4,GC 15 [.lT (.func 83 [] []),.sl 14] (.call 3),pY 2 15,qd 3 0] .ret)))
theorem agG:zE Tryz.prog Wt 41=some (abX,16,[.tmp 2,.tmp 3]):=by kernel_rfl
def Po (b:qn):Option (qh×Int) :=
 (Kl b).bind fun aT =>
 match aT with
 | (none,q1) =>
   if (decide (q1≠(0:Int)))=true then
    some ([],q1)
   else
    none
 | (some bS,q1) =>
   if (decide (q1≠(0:Int)))=true then
    some ([],q1)
   else
    (KV bS).bind fun r2 =>
    some (r2,(0:Int))
theorem akW {b:qn} {v:(qh×Int)} (h:Po b=some v):qB 41 [(.agg [(hW b.1),(.ax (b.2.flatMap p0) b.2.length .shared)])] (.tuple [(.ax (v.1.map (qk p0)) v.1.length .shared),(hW v.2)]):=by
 refine q5 et agG rfl (JZ (p2 (r7 (fun _=>(q4 (fun _=>(p2 rfl (p2 rfl rfl))) _ _ _)) _ _ _) (p2 rfl rfl))) fun Q bp=>?_;have jD:qR [.tmp 2,.tmp 3] Q (fun v=>(.tuple [(.ax (v.1.map (qk p0)) v.1.length .shared),(hW v.2)])) v:=fun T H bI=>bp _ T H bI;unfold Po at h;unfold abX;conv=>whnf
 obtain ⟨aT,gG,h⟩:=qm h;rcases aT with ⟨_ | bS,q1⟩
 ·refine ⟨qw.pl,_,LR gG,?_⟩;conv=>whnf
  refine bs h (fun gH h=>?_) fun gH h=>?_
  ·rw [gH];(conv=>whnf);exact qi h jD rfl rfl
  ·rw [gH];(conv=>whnf);exact rj h
 ·refine ⟨qw.pl,_,LR gG,?_⟩;conv=>whnf
  refine bs h (fun qs h=>?_) fun qs h=>?_
  ·rw [qs];(conv=>whnf);exact qi h jD rfl rfl
  ·rw [qs];(conv=>whnf);obtain ⟨r2,qF,h⟩:=qm h;refine ⟨qw.pl,_,VE qF,?_⟩;(conv=>whnf);exact qi h jD rfl rfl

end Go.Proofs.YtfakoboiahbhaaaGreat.Ab


namespace Go.Proofs.YtfakoboiahbhaaaGreat.Ab
open Go
section
variable {b:p9}
def J1 (b:p9):Int:=if IB b=0 then (if 0<(JF b).length then 27 else 0) else IB b
def QL (b:p9):Row×Int:=if J1 b=0 then (HX b,0) else ([],J1 b)
theorem TG (h:IB b=0):(HX b).length=b.2.length:=by
 obtain ⟨p5,aV,ad⟩:=TF.1 h;obtain ⟨f,c,bX⟩:=YB p5 aV ad;have:=bX.all.length_eq
 rwa [td,r_] at this
theorem ahi (h:IB b=0):∃ f c,IH b (upto b.2.length) f c (HX b)∧HX b≠[]∧rM b (HX b)=(f,c,0)∧KO b (HX b)=if f=c then 0 else 27:=by
 obtain ⟨p5,aV,ad⟩:=TF.1 h;obtain ⟨f,c,bX⟩:=YB p5 aV ad;have bO:HX b≠[]:=fun e=>by
  have:=TG h;rw [e] at this;simp at this;omega
 have al:=PH p5 bO bX.ok (bX.all.nodup_iff.2 (IQ _)) bX.go;refine ⟨f,c,bX,bO,al,?_⟩;unfold KO;simp only [al];rw [if_neg (by simp),if_neg (by rw [TG h];omega)];by_cases e:f=c
 ·rw [if_neg (by simp [e]),if_pos e]
 ·rw [if_pos e,if_neg e]
theorem ahh (h:IB b=0):(KO b (HX b)=0↔JF b=[])∧(KO b (HX b)=0∨KO b (HX b)=27):=by
 obtain ⟨p5,aV,ad⟩:=TF.1 h;obtain ⟨f,c,bX,bO,al,aj⟩:=ahi h;have JA:=bX.TD p5 bO;rw [aj];by_cases e:f=c
 ·rw [if_pos e];exact ⟨⟨fun _=>JA.1 e,fun _=>rfl⟩,.inl rfl⟩
 ·rw [if_neg e];refine ⟨⟨fun h=>absurd h (by decide),fun h=>?_⟩,.inr rfl⟩;have:=(JA.2 e).length_eq;have aY:rF b (upto b.2.length)=[]:=h;rw [aY] at this;simp at this
theorem akT (ag:b.2.length≤1000):Pn b=some (Ns b):=by
 rw [Pn];unfold Ns IB;by_cases h:rQ b=0
 ·have p5:=I'.1 h;obtain ⟨R,ad,af⟩:=Re p5;rw [Vw p5,sx];dsimp only;rw [if_neg (show ¬ decide ((0:Int)≠0)=true by decide)];simp only [h,ne_eq,not_true_eq_false,if_false];by_cases aV:b.2.length=0
  ·rw [if_pos (show decide ((b.2.length:Int)=0)=true by simp [aV]),if_pos aV];rfl
  ·rw [if_neg (show ¬ decide ((b.2.length:Int)=0)=true by simp only [decide_eq_true_eq];omega),if_neg aV,ad,sx,af.len];by_cases aG:1<H2 b
   ·rw [if_pos (show decide ((1:Int)<(H2 b:Int))=true by simp only [decide_eq_true_eq];omega),if_pos aG];rfl
   ·rw [if_neg (show ¬ decide ((1:Int)<(H2 b:Int))=true by simp only [decide_eq_true_eq];omega),if_neg aG,Rf,if_pos ⟨h,by omega⟩,sx];rfl
 ·rw [Vv ag h,sx];dsimp only;simp only [h,ne_eq,not_false_eq_true,if_true,decide_true]
theorem ahf (h:IB b=0):Ns b=(HX b,0):=by unfold Ns;rw [if_neg (by simp [h])]
theorem ahe (h:IB b≠0):Ns b=([],IB b):=by unfold Ns;rw [if_pos h]
theorem Vs (ag:b.2.length≤1000):Lb b=some (QL b):=by
 rw [Lb,akT ag,sx];unfold QL J1;by_cases h:IB b=0
 ·rw [ahf h];dsimp only;rw [if_neg (show ¬ decide ((0:Int)≠0)=true by decide),aaW b _ ag (by rw [TG h];exact ag),sx];obtain ⟨ad,af⟩:=ahh h;simp only [h,if_true];by_cases aG:JF b=[]
  ·rw [ad.2 aG,aG];rfl
  ·have a6:0<(JF b).length:=tS.2 aG;have bM:KO b (HX b)=27:=af.resolve_left fun e=>aG (ad.1 e);rw [bM];simp [a6]
 ·rw [ahe h];dsimp only;rw [if_pos (show decide (IB b≠0)=true by simpa using h)];simp only [h,if_false]
theorem U3:(QL b).2=J1 b:=by
 unfold QL;split
 ·rename_i h;exact h.symm
 ·rfl
def KL (b:p9):Int×Int:=if J1 b=0 then (0,0) else M' b
theorem aa3 (ag:b.2.length≤1000):LP b=some (KL b):=by
 rw [LP,Vs ag,sx,U3];unfold KL;by_cases h:J1 b=0
 ·rw [if_pos (show decide (J1 b=0)=true by simp [h]),if_pos h]
 ·rw [if_neg (show ¬ decide (J1 b=0)=true by simpa using h),if_neg h,aa1 ag,sx]
def LF (b:p9):List Row:=(KV b).getD []
theorem Y_ (p5:qS b):KV b=some (LF b)∧M4 b (LF b):=by
 obtain ⟨R,ad,af⟩:=Re p5
 have:LF b=R:=by unfold LF;rw [ad];rfl
 rw [this];exact ⟨ad,af⟩
theorem akV (ag:b.2.length≤1000):Po b=some (if rQ b=0 then (LF b,0) else ([],rQ b)):=by
 rw [Po];by_cases h:rQ b=0
 ·have p5:=I'.1 h;rw [Vw p5,sx,if_pos h];dsimp only;rw [if_neg (show ¬ decide ((0:Int)≠0)=true by decide),(Y_ p5).1,sx]
 ·rw [Vv ag h,sx,if_neg h];dsimp only;rw [if_pos (show decide (rQ b≠0)=true by simpa using h)]
theorem RowsOf.each {S:List Int} {R:List Row} (h:RowsOf b S R) (aN:S.Nodup) {r:Row} (aj:r∈R):(r.map (·.1)).Nodup∧r.length≤S.length:=by
 have zj:(r.map (·.1)).Sublist ((R.flatten).map (·.1)):=by
  refine List.Sublist.map _ ?_;obtain ⟨s,t,rfl⟩:=wc aj;simp
 have ad:=zj.length_le;rw [td,h.all.length_eq] at ad;exact ⟨zj.nodup (h.all.nodup_iff.2 aN),ad⟩
theorem M4.short (p5:qS b) {R:List Row} (h:M4 b R):R.length≤10∧∀ r∈R,r.length≤10:=by
 have dm:=p5.len;refine ⟨?_,fun r aj=>?_⟩
 ·have ad:R.length≤R.flatten.length:=by
   have bO:=h.ne
   have:∀ l:List Row,(∀ r∈l,r≠[])→l.length≤l.flatten.length:=fun l=>by
    induction l with
    | nil=>intro _;simp
    | cons r l a_ =>
      intro ao;have ad:=tS.2 (ao r (by simp));have af:=a_ fun q a0=>ao q (by simp [a0]);rw [tO,sC,sV];omega
   exact this R bO
  have af:=h.all.length_eq;rw [td,r_] at af;omega
 ·have:=(h.toRowsOf.each (IQ _) aj).2;rw [r_] at this;omega
end
end Go.Proofs.YtfakoboiahbhaaaGreat.Ab


namespace Go.Proofs.YtfakoboiahbhaaaGreat.Ab
open Go
set_option maxRecDepth 20000
set_option maxHeartbeats 4000000
noncomputable def abZ:fW :=
 pZ [GC 1 [.jh 0] .box,GC 2 [.lT (.bool false)] .mP] (pZ [GC 3 [.sl 1] (.zy (.str 2)),GC 4 [.lT (.func 16 [] []),.sl 3] (.call 3),GC 5 [.Bt 4] (.un .not),pY 6 5,cS 7 [.Bt 1] 6 true (.zy (.str 2)),⟨some 8,[.lT (.func 21 [] []),.sl 7],some (6,true),none,.call 3⟩,cS 9 [.Bt 8,.lT (.int .i64 0)] 6 true (.bin .eql),GC 10 [.Bt 6,.Bt 9,.lT (.bool false)] .pick,pY 2 10] .ret)
theorem agI:zE Tryz.prog Wv 47=some (abZ,11,[.tmp 2]):=by kernel_rfl
def Pp (b:qn):Option Bool :=
 (Pg b).bind fun aT =>
 if aT=true then
  some false
 else
  (KR b).bind fun r2 =>
  some (decide (r2=(0:Int)))
theorem akY {b:qn} {v:Bool} (h:Pp b=some v):qB 47 [(.agg [(hW b.1),(.ax (b.2.flatMap p0) b.2.length .shared)])] (B v):=by
 refine q5 et agI rfl rfl fun Q bp=>?_;have jD:qR [.tmp 2] Q (fun v=>(B v)) v:=fun T H bI=>bp _ T H bI;unfold Pp at h;unfold abZ;conv=>whnf
 obtain ⟨aT,gG,h⟩:=qm h;refine ⟨qw.pl,_,aky gG,?_⟩;conv=>whnf
 cases aT
 ·conv=>whnf
  replace h:=Hl rfl h;obtain ⟨r2,gH,h⟩:=qm h;refine ⟨qw.pl,_,Pl gH,?_⟩;conv=>whnf
  exact qi h jD rfl rfl
 ·conv=>whnf
  replace h:=Hm rfl h;exact qi h jD rfl rfl

end Go.Proofs.YtfakoboiahbhaaaGreat.Ab


namespace Go.Proofs.YtfakoboiahbhaaaGreat.Ab
open Go
set_option maxRecDepth 20000
set_option maxHeartbeats 4000000
end Go.Proofs.YtfakoboiahbhaaaGreat.Ab


namespace Go.Proofs.YtfakoboiahbhaaaGreat.Ab
open Go
structure alN (b:p9) (D:List Int) (n:Nat) (f t:Int) (r:Row):Prop where
 len:r.length=n
 run:qN b f r=some t
 ok:∀ p∈r,Hr b p=false∧ix D (qE b p)≤(n:Int)∧1≤ix D (qE b p)∧ix D (fin b p)=ix D (qE b p)-1
 down:r.Pairwise fun p q=>ix D (qE b q)<ix D (qE b p)
 first:∀ p l,r=p::l→qE b p=f
theorem akX (b:p9):Pp b=some (decide (b.2.length≤14) && decide (rQ b=0)):=by
 rw [Pp,Pg,sx];by_cases h:(14:Int)<(b.2.length:Int)
 ·rw [if_pos (decide_eq_true h),decide_eq_false (by omega)];rfl
 ·rw [if_neg (by simpa using h),Vq b (by omega),sx,decide_eq_true (show b.2.length≤14 by omega)];rfl
theorem Pj:Kk=some true:=rfl
end Go.Proofs.YtfakoboiahbhaaaGreat.Ab


namespace Go.Proofs.YtfakoboiahbhaaaGreat.Ab
open Go
set_option maxRecDepth 20000
set_option maxHeartbeats 4000000

end Go.Proofs.YtfakoboiahbhaaaGreat.Ab


namespace Go.Proofs.YtfakoboiahbhaaaGreat.Ab
open Go
set_option maxRecDepth 20000
set_option maxHeartbeats 4000000

end Go.Proofs.YtfakoboiahbhaaaGreat.Ab


namespace Go.Proofs.YtfakoboiahbhaaaGreat.Ab
open Go
set_option maxRecDepth 20000
set_option maxHeartbeats 4000000
end Go.Proofs.YtfakoboiahbhaaaGreat.Ab


namespace Go.Proofs.YtfakoboiahbhaaaGreat.Ab
open Go
section
variable {b:p9}
end
end Go.Proofs.YtfakoboiahbhaaaGreat.Ab


namespace Go.Proofs.YtfakoboiahbhaaaGreat.Ab
open Go
set_option maxRecDepth 20000
set_option maxHeartbeats 4000000
end Go.Proofs.YtfakoboiahbhaaaGreat.Ab
