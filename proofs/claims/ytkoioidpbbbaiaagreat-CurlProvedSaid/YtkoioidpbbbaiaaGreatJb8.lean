
import Derived.Test.YtkoioidpbbbaiaaGreatJb7
import Derived.Test.YtkoioidpbbbaiaaGreatJb6
import Derived.KernelRfl
import Derived.Test.YtkoioidpbbbaiaaGreatJb5
import Derived.Test.YtkoioidpbbbaiaaGreatProg
set_option linter.unusedSimpArgs false
set_option linter.unusedVariables false
set_option linter.unusedSectionVars false

open Bool renaming and_eq_true→sn,and_true→tt,or_false→vH
open Int renaming le_refl→sR,tmod_eq_emod_of_nonneg→vw,tmod_lt_of_pos→vK,tmod_nonneg→vJ,toNat_natCast→tp
open List renaming append_assoc→sx,append_nil→sM,drop_eq_getElem_cons→s6,exists_cons_of_ne_nil→tL,filter_append→t_,getD_eq_getElem?_getD→sw,getElem?_append_left→sg,getElem?_eq_getElem→si,getElem?_eq_some_iff→sa,getElem?_map→sk,getElem?_set_ne→sd,getElem?_set_self→sj,getElem_inj→vG,getElem_map→tK,getElem_mem→tO,length_append→sy,length_map→sY,map_append→sO,map_set→tG,mem_cons→sA,mem_filter→sX,nil_append→tN,range_succ→vB,take_of_length_le→te,take_succ_eq_append_getElem→uD
open Nat renaming le_refl→sc,lt_succ_self→sD,mod_lt→uG,mul_one→tn,zero_add→sB,zero_le→sE
open Option renaming bind_some→sb
namespace Go.Proofs.YtkoioidpbbbaiaaGreat.Ab
open Go
set_option maxRecDepth 20000
set_option maxHeartbeats 1000000
def rE (p:qb):List (List Int):=q4 p.1.length (ql p.1.length)
theorem Jt {p:qb} {o:List Int}:o∈rE p↔qp p.1.length o:=aey.symm
theorem Qa {p:qb} (h:q7 p):(rE p).length≤100000:=Vs h.len.2
theorem ZK {p:qb}:(rE p)[0]?=some (ql p.1.length):=Vr _ _ (agD _)
theorem all_cons {p:qb}:∃ r,rE p=ql p.1.length::r:=by
 have:=ZK (p:=p);cases h:rE p with
 | nil=>rw [h] at this;cases this
 | cons a r=>rw [h] at this;exact ⟨r,by rw [Option.some.inj this]⟩
def HC (p:qb) (b o:List Int):List Int:=if qx p o<qx p b then o else b
def HQ (p:qb):List Int:=((rE p).drop 1).foldl (HC p) (ql p.1.length)
def JX (p:qb):Nat:=((rE p).filter fun o=>decide (qx p o=0)).length
section
variable {p:qb}
theorem agA {α:Type} {l:List α} {j:Nat} (aw:j<l.length):l.take (j+1)=l.take j++[l[j]]:=uD aw
theorem T4:(rE p).foldl (HC p) (ql p.1.length)=HQ p:=by
 unfold HQ;obtain ⟨r,ai⟩:=all_cons (p:=p);rw [ai];show List.foldl _ (HC p _ _) r=_;rw [show HC p (ql p.1.length) (ql p.1.length)=ql p.1.length by unfold HC;split <;> rfl];rfl
theorem XP (n:Nat):qp n (ql n):=KA.2 (.refl _)
theorem ahD (h:q7 p) {x y:List Int} (aj:qp p.1.length x) (aY:qp p.1.length y):KO (p,()) x y=some (decide (qx p x<qx p y)):=by
 unfold KO;rw [N4 h aj,sb,N4 h aY,sb]
theorem Q8 (h:q7 p):∀ (m j:Nat) (b:List Int),1+j≤(rE p).length→(rE p).length-(1+j)<m→b=(((rE p).drop 1).take j).foldl (HC p) (ql p.1.length)→qp p.1.length b →
  KN (rE p) (KO (p,())) (fun z=>some z) m b (j:Int)=some (HQ p)
 | 0,_,_,_,h,_,_=>absurd h (by omega)
 | m+1,j,b,aw,hm,af,bT=>by
   have acr:=Qa h;rw [KN];have e1:((1:Int)).toNat=1:=rfl;rw [e1];(have el:((rE p).drop 1).length=(rE p).length-1:=by simp);by_cases aR:j<((rE p).drop 1).length
   ·rw [if_pos (decide_eq_true (by omega)),qC (by omega),rr aR];have kL:((rE p).drop 1)[j]∈rE p:=List.mem_of_mem_drop (tO aR);have al:=Jt.1 kL;rw [ahD h al bT,sb,Io j (by omega)];have bw:HC p b ((rE p).drop 1)[j]=(((rE p).drop 1).take (j+1)).foldl (HC p) (ql p.1.length):=by
     rw [agA aR,List.foldl_append,←af];rfl
    by_cases ak:qx p ((rE p).drop 1)[j]<qx p b
    ·rw [if_pos (decide_eq_true ak)];refine Q8 h m (j+1) _ (by omega) (by omega) ?_ al;rw [←bw];unfold HC;rw [if_pos ak]
    ·rw [if_neg (by simpa using ak)];refine Q8 h m (j+1) _ (by omega) (by omega) ?_ bT;rw [←bw];unfold HC;rw [if_neg ak]
   ·rw [if_neg (by simpa using by omega)];rw [te (by omega)] at af;rw [af];rfl
theorem Si (aB:p.1.length≤1000):Kh p=some (if rk p=0 then (HQ p,0) else ([],rk p)):=by
 unfold Kh;rw [Su aB,sb];by_cases h:rk p=0
 ·rw [if_pos h,if_pos h];have ad:=I6.1 h;have ao:=ad.len;simp only;rw [if_neg (by decide),qC (show 0<p.1.length∧p.1.length≤7 by omega)];show (N6 (rE p) (KO (p,()))).bind _=_;obtain ⟨r,ai⟩:=all_cons (p:=p);have aQ:0<(rE p).length:=by rw [ai];simp
  unfold N6;rw [qC (by omega),qC (by omega)];have gb:ix (rE p) (0:Int)=ql p.1.length:=by rw [ai];rfl
  rw [gb];have:=Q8 ad qj 0 (ql p.1.length) (by omega) (Is (by have:=Qa ad;omega)) rfl (XP _);rw [show ((0:Nat):Int)=0 from rfl] at this;rw [this,sb]
 ·rw [if_neg h,if_neg h];simp only;rw [if_pos (decide_eq_true h)]
theorem aa7 (q:List Int→Bool) (l:List (List Int)):(l.filter q).length≤l.length:=List.length_filter_le _ _
theorem Uk (h:q7 p):∀ (l r:List (List Int)),rE p=r++l→Ir (JY (p,())) l ((r.filter fun o=>decide (qx p o=0)).length:Int)=some ((JX p:Int))
 | [],r,e=>by rw [sM] at e;subst e;rfl
 | o::l,r,e=>by
   have acr:=Qa h;have al:qp p.1.length o:=Jt.1 (by rw [e];simp);(have hlen:r.length+(l.length+1)=(rE p).length:=by rw [e];simp);have jM:=aa7 (fun o=>decide (qx p o=0)) r;have a8:=Uk h l (r++[o]) (by rw [e];simp);rw [t_,sy] at a8;show (JY (p,()) _ o).bind (Ir (JY (p,())) l)=_;unfold JY;rw [N4 h al,sb,sb];by_cases ak:qx p o=0
   ·rw [if_pos (decide_eq_true ak),Io _ (by omega)];rw [show ([o].filter fun o=>decide (qx p o=0)).length=1 by simp [ak]] at a8;exact a8
   ·rw [if_neg (by simpa using ak)];rw [show ([o].filter fun o=>decide (qx p o=0)).length=0 by simp [ak]] at a8;exact a8
theorem Yb (aB:p.1.length≤1000):KI p=some (if rk p=0 then ((JX p:Int),0) else (0,rk p)):=by
 unfold KI;rw [Su aB,sb];by_cases h:rk p=0
 ·rw [if_pos h,if_pos h];have ad:=I6.1 h;have ao:=ad.len;simp only;rw [if_neg (by decide),qC (show 0<p.1.length∧p.1.length≤7 by omega)];have:=Uk ad (rE p) [] rfl;show (Ir (JY (p,())) (rE p) 0).bind _=_;have this:Ir (JY (p,())) (rE p) 0=some ((JX p:Int)):=this;rw [this,sb]
 ·rw [if_neg h,if_neg h];simp only;rw [if_pos (decide_eq_true h)]
theorem T5 (p:qb) (E:List (List Int)):∀ (b:List Int),(E.foldl (HC p) b=b∨E.foldl (HC p) b∈E)∧qx p (E.foldl (HC p) b)≤qx p b∧∀ o∈E,qx p (E.foldl (HC p) b)≤qx p o:=by
 induction E with
 | nil=>intro b;exact ⟨.inl rfl,sR _,by simp⟩
 | cons a E a8 =>
   intro b;obtain ⟨ab,ae,aF⟩:=a8 (HC p b a);have af:(HC p b a=b∨HC p b a=a)∧qx p (HC p b a)≤qx p b∧qx p (HC p b a)≤qx p a:=by
    unfold HC;split
    ·exact ⟨.inr rfl,by omega,by omega⟩
    ·exact ⟨.inl rfl,by omega,by omega⟩
   rw [List.foldl_cons];refine ⟨?_,by omega,fun o aq=>?_⟩
   ·rcases ab with ab | ab
    ·rcases af.1 with e | e
     ·left;rw [ab,e]
     ·right;rw [ab,e];simp
    ·right;simp [ab]
   ·rcases sA.1 aq with rfl | aq
    ·omega
    ·exact aF o aq
theorem K1 (p:qb):qp p.1.length (HQ p):=by
 rw [←T4];obtain ⟨ab,_,_⟩:=T5 p (rE p) (ql p.1.length);rcases ab with ab | ab
 ·rw [ab];exact XP _
 ·exact Jt.1 ab
theorem M9 {o:List Int} (h:qp p.1.length o):qx p (HQ p)≤qx p o:=by
 rw [←T4];exact (T5 p (rE p) (ql p.1.length)).2.2 o (Jt.2 h)
theorem X_ (aB:p.1.length≤1000):KH p=some (if rk p=0 then (qx p (HQ p),0) else (0,rk p)):=by
 unfold KH;rw [Si aB,sb];by_cases h:rk p=0
 ·rw [if_pos h,if_pos h];have ad:=I6.1 h;have af:=K1 p;simp only;rw [if_neg (by simp),Py aB (by rw [af.1];have:=ad.len;omega),if_pos (Lv.2 ⟨ad,af⟩)];rfl
 ·rw [if_neg h,if_neg h];simp only;rw [if_pos (decide_eq_true h)]
theorem aby (p:qb):0<JX p↔∃ o,qp p.1.length o∧qx p o=0:=by
 unfold JX;rw [List.length_pos_iff_exists_mem];constructor
 ·rintro ⟨o,aq⟩;obtain ⟨ab,ae⟩:=sX.1 aq;exact ⟨o,Jt.1 ab,of_decide_eq_true ae⟩
 ·rintro ⟨o,ab,ae⟩;exact ⟨o,sX.2 ⟨Jt.2 ab,decide_eq_true ae⟩⟩
theorem acP (p:qb):qx p (HQ p)=0↔0<JX p:=by
 rw [aby];constructor
 ·intro h;exact ⟨_,K1 p,h⟩
 ·rintro ⟨o,ab,ae⟩;have:=M9 ab;have:=Qw p (HQ p);omega
end
end Go.Proofs.YtkoioidpbbbaiaaGreat.Ab


namespace Go.Proofs.YtkoioidpbbbaiaaGreat.Ab
open Go
set_option maxRecDepth 20000
set_option maxHeartbeats 4000000
def Hl (N:Nat) (H H':List ar):Prop:=H.length≤H'.length∧∀ (j:Nat) (c:List I),N≤j→H[j]?=some (.cells c)→H'[j]?=some (.cells c)
theorem Hl.refl (N:Nat) (H:List ar):Hl N H H:=⟨sc _,fun _ _ _ h=>h⟩
theorem Hl.trans {N:Nat} {H H1 H2:List ar} (h:Hl N H H1) (k:Hl N H1 H2):Hl N H H2:=⟨Nat.le_trans h.1 k.1,fun j c aw ak=>k.2 j c aw (h.2 j c aw ak)⟩
structure P9 (l N:Nat) (Inv:Nat→List ar→Prop):Prop where
 len:∀ i H,Inv i H→l<N∧N≤H.length
 more:∀ i H Z,Inv i H→Inv i (H++Z)
 set:∀ i H j c dU,Inv i H→N≤j→H[j]?=some (.cells c)→Inv i (H.set j (.cells dU))
def SY (P:Program) (k:FuncId) (cap:List I) (E:List I):Prop :=
 ∀ (l N:Nat) (Inv:Nat→List ar→Prop),P9 l N Inv →
   (∀ (i:Nat) (h:i<E.length) (H:List ar),Inv i H→∃ H',Inv (i+1) H'∧Hl N H H'∧Sem P (.yield l) [E[i]] H 0 (.bool true) H') →
   ∀ H,Inv 0 H→∃ H',Inv E.length H'∧Sem P (.fn k) (.yield l::cap) H 0 (.tuple []) H'
structure Ie (L:Nat) (b:I) (p:Nat) (U:List Int) (H:List ar):Prop where
 y:H[p]?=some (.cells [.yield L])
 u:H[p+1]?=some (.cells (U.map h0))
 g:H[p+2]?=some (.cells [IM b p])
theorem Ie.set {L p:Nat} {b:I} {U:List Int} {H:List ar} (h:Ie L b p U H) (M6:List Int):Ie L b p M6 (H.set (p+1) (.cells (M6.map h0))) :=
 ⟨by rw [sd (by omega)];exact h.y,sj (sa.1 h.u).1,by rw [sd (by omega)];exact h.g⟩
theorem Ie.cE {L p N:Nat} {b:I} {U:List Int} {H H':List ar} (h:Ie L b p U H) (aB:N≤p) (k:Hl N H H'):Ie L b p U H':=⟨k.2 _ _ aB h.y,k.2 _ _ (by omega) h.u,k.2 _ _ (by omega) h.g⟩
theorem agp {LG LH:I} {Q:cQ→List I→List ar→Prop} {begun:List Int} {i n:Nat} {H:List ar} {L p:Nat} {b:I} {U:List Int} (l_:Ie L b p U H) (Ht:U.length=7) (hi:i<7) (af:begun.length≤7)
  (dW:∃ H',Ie L b p U H'∧Sem Tryz.prog (.fn 71) [.av ((begun++[(i:Int)]).map h0) (begun++[(i:Int)]).length (.uniq 1),b,.ptr p 0,.ptr (p+1) 0,.ptr (p+2) 0] H 0 (.bool true) H' ∧
   Q .normal (qc 52 [(0,Hh begun),(3,.ptr (p+1) 0),(4,.ptr (p+2) 0),(26,h0 n),(27,h0 i),(28,LG),(33,LH),(50,.bool false)]) (H'.set (p+1) (.cells ((U.set i 0).map h0)))) :
  dQ Tryz.prog Kr 71 0 none LA (qc 52 [(0,Hh begun),(3,.ptr (p+1) 0),(4,.ptr (p+2) 0),(7,h0 i),(26,h0 n),(27,h0 i),(28,LG),(33,LH)]) H Q:=by
 obtain ⟨H',abQ,cp,bp⟩:=dW;have fin:∀ dH,dH=qc 52 [(0,Hh begun),(3,.ptr (p+1) 0),(4,.ptr (p+2) 0),(7,h0 i),(8,.bool true),(26,h0 n),(27,h0 i),(28,LG),(33,LH)]→dQ Tryz.prog Kr 71 0 none NL dH H' Q:=by
  rintro _ rfl;unfold NL;conv=>whnf
  refine ⟨by omega,?_⟩;conv=>whnf
  refine Ew abQ.u ?_;conv=>whnf
  rw [show 0+(i:Int).toNat*1=i by omega];refine Gn (by simp;omega) ?_;conv=>whnf
  rw [show (List.map h0 U).set i (I.int IntKind.i64 0)=(U.set i 0).map h0 by rw [tG]];exact bp
 unfold LA;cases begun with
 | nil =>
   (conv=>whnf);refine Ew l_.g ?_;(conv=>whnf);refine ⟨⟨by decide,by decide,by decide⟩,?_⟩;(conv=>whnf);refine ⟨rfl,by decide,?_⟩;(conv=>whnf);refine ⟨by decide,by decide,rfl,?_⟩;(conv=>whnf);refine ⟨_,_,rq cp,?_⟩;(conv=>whnf);exact fin _ rfl
 | cons a l =>
   (conv=>whnf);refine Ew l_.g ?_;(conv=>whnf);refine ⟨⟨rfl,by omega,sR _⟩,?_⟩;(conv=>whnf);rw [tp,tn,te (by simp)];refine ⟨rfl,by decide,?_⟩;(conv=>whnf);refine ⟨by decide,by omega,by simp,?_⟩;(conv=>whnf);(have e1:List.map h0 (a::l)++[h0 (i:Int)]=((a::l)++[(i:Int)]).map h0:=by simp);(have b':(a::l).length+1=((a::l)++[(i:Int)]).length:=by simp);refine ⟨_,_,rq (by erw [e1,b'];exact cp),?_⟩;(conv=>whnf);exact fin _ rfl
def ZF (L N:Nat) (Inv:Nat→List ar→Prop) (c:Nat) (begun:List Int) (E:List (List Int)):Prop :=
 ∀ (j:Nat) (l:List Int),E[j]?=some l→∀ H:List ar,Inv (c+j) H→∃ H',Inv (c+j+1) H'∧Hl N H H'∧Sem Tryz.prog (.yield L) [Hh (begun++l)] H 0 (.bool true) H'
theorem UE {b:((List (Int×Int))×(Int×Int))×Unit} (qS:b.1.1.length≤7) (iS:0<b.1.1.length) {L N:Nat} {Inv:Nat→List ar→Prop} (kE:P9 L N Inv) {p:Nat} (aB:N≤p) :
  ∀ (k:Nat) (begun:List Int) (IJ:hE) (U:List Int) (c:Nat),U.length=7→(∀ i,0≤U.getD i 0)→begun.length+k=b.1.1.length→(rz U b.1.1.length).length=k→((IJ=.full∧begun=[])∨IJ=.uniq 1∧begun≠[])→ZF L N Inv c begun (q4 k (rz U b.1.1.length)) →
  ∀ H,Inv c H→Ie L (.bS [lp b]) p U H→∃ H',Inv (c+(q4 k (rz U b.1.1.length)).length) H'∧Hl N H H'∧Sem Tryz.prog (.fn 71) [.av (begun.map h0) begun.length IJ,.bS [lp b],.ptr p 0,.ptr (p+1) 0,.ptr (p+2) 0] H 0 (.bool true) H'
 | 0,begun,IJ,U,c,Ht,_,al,ao,CM,ai,H,ag,l_=>by
   obtain ⟨H',abO,abP,cp⟩:=ai 0 [] rfl H ag;(have bJ:begun≠[]:=fun e=>by subst e;simp at al;omega);have CM:IJ=.uniq 1:=by
    rcases CM with ⟨_,h⟩ | ⟨h,_⟩
    ·exact absurd h bJ
    ·exact h
   subst CM;obtain ⟨a,l,rfl⟩:=tL bJ;rw [sM] at cp;refine ⟨H',abO,abP,?_⟩;refine rA eG OS rfl cp.1 fun Q bp=>?_;unfold Lz LB;obtain ⟨f',Hp⟩:∃ c,Jy=c:=⟨_,rfl⟩;rw [Hp];(conv=>whnf);rw [decide_eq_true (show (((a::l).length:Nat):Int)=(b.1.1.length:Int) by omega)];(conv=>whnf);refine Ew l_.y ?_;(conv=>whnf);refine ⟨_,_,rq cp,?_⟩;(conv=>whnf);exact bp _ _ _ ⟨.inr rfl,lI.refl _,rfl⟩
 | k+1,begun,IJ,U,c,Ht,Ng,al,ao,CM,ai,H,ag,l_=>by
   obtain ⟨n,aI⟩:∃ n,n=b.1.1.length:=⟨_,rfl⟩;have M4:=UE (L:=L) qS iS kE aB k;rw [←aI] at qS iS al ao ai M4 ⊢
   obtain ⟨JV,K7,Ku⟩:=Ox (fun i rH H5=>i<n→Inv (c+Hf k U n i) rH∧Ie L (.bS [lp b]) p U rH →
    (Inv (c+Hf k U n (i+1)) H5∧Ie L (.bS [lp b]) p U H5∧Hl N rH H5) ∧
    (U.getD i 0=0→∃ H2,Ie L (.bS [lp b]) p (U.set i 1) H2∧H5=H2.set (p+1) (.cells (U.map h0))∧Sem Tryz.prog (.fn 71) [.av ((begun++[(i:Int)]).map h0) (begun++[(i:Int)]).length (.uniq 1),.bS [lp b],.ptr p 0,.ptr (p+1) 0,.ptr (p+2) 0] (rH.set (p+1) (.cells ((U.set i 1).map h0))) 0 (.bool true) H2)∧(U.getD i 0≠0→H5=rH)) H (fun i rH=>by
    by_cases aP:i<n∧Inv (c+Hf k U n i) rH∧Ie L (.bS [lp b]) p U rH
    ·obtain ⟨hi,aP⟩:=aP;by_cases aQ:U.getD i 0=0
     ·have hm:(i:Int)∈rz U n:=VI.2 ⟨i,hi,aQ,rfl⟩
      obtain ⟨H2,aA,aG,aT⟩:=M4 (begun++[(i:Int)]) (.uniq 1) (U.set i 1) (c+Hf k U n i) (by simpa using Ht) (Xt Ng) (by simp;omega) (by rw [Mh (by omega) aQ,List.length_erase_of_mem hm];omega) (.inr ⟨rfl,by simp⟩) (fun j l aw H' b9=>by
       rw [Mh (by omega) aQ] at aw;rw [show c+Hf k U n i+j=c+(Hf k U n i+j) by omega] at b9 ⊢;obtain ⟨hF,bm,cw,e2⟩:=ai _ _ (Vp hi aQ aw) H' b9;refine ⟨hF,bm,cw,?_⟩
       rw [sx];exact e2) (rH.set (p+1) (.cells ((U.set i 1).map h0))) (kE.set _ _ _ _ _ aP.1 (by omega) aP.2.u) (aP.2.set _)
      rw [Mh (by omega) aQ] at aA;have Md:Ie L (.bS [lp b]) p (U.set i 1) H2:=(aP.2.set (U.set i 1)).cE aB aG;refine ⟨H2.set (p+1) (.cells (U.map h0)),fun _ _=>⟨⟨?_,Md.set U,?_⟩,fun _=>⟨H2,Md,rfl,aT⟩,fun h=>absurd aQ h⟩⟩
      ·rw [Oz,if_pos aQ,←Nat.add_assoc];exact kE.set _ _ _ _ _ aA (by omega) Md.u
      ·refine ⟨by have:=aG.1;simp at this ⊢;omega,fun j cs aw ak=>?_⟩;by_cases e:j=p+1
       ·subst e;rw [aP.2.u] at ak;rw [←Option.some.inj ak];exact (Md.set U).u
       ·rw [sd (by omega)];exact aG.2 j cs aw (by rw [sd (by omega)];exact ak)
     ·refine ⟨rH,fun _ _=>⟨⟨?_,aP.2,Hl.refl _ _⟩,fun ab=>absurd ab aQ,fun _=>rfl⟩⟩;rw [Oz,if_neg aQ];exact aP.1
    ·exact ⟨rH,fun ab h=>absurd ⟨ab,h⟩ aP⟩)
   have c1:∀ i,i≤n→Inv (c+Hf k U n i) (JV i)∧Ie L (.bS [lp b]) p U (JV i)∧Hl N H (JV i):=fun i=>by
    induction i with
    | zero=>intro _;rw [K7];exact ⟨ag,l_,Hl.refl _ _⟩
    | succ i a8 =>
      intro hi;obtain ⟨aA,aG,aT⟩:=a8 (by omega);obtain ⟨⟨bm,cw,e2⟩,_,_⟩:=Ku i (by omega) ⟨aA,aG⟩;exact ⟨bm,cw,aT.trans e2⟩
   have QX:Hf k U n n=(q4 (k+1) (rz U n)).length:=rfl;refine ⟨JV n,by rw [←QX];exact (c1 n (sc _)).1,(c1 n (sc _)).2.2,?_⟩;refine rA eG OS rfl (IF (c1 n (sc _)).2.2.1) fun Q bp=>?_;have main:∀ T,T=qc 52 [(0,Hh begun),(1,.bS [lp b]),(2,.ptr p 0),(3,.ptr (p+1) 0),(4,.ptr (p+2) 0),(6,.bool false),(17,.bool false)]→dQ Tryz.prog Kr 71 0 none Jy T H Q:=by
    rintro _ rfl;unfold Jy RS RR;obtain ⟨bt,eS⟩:∃ c,LA=c:=⟨_,rfl⟩;rw [eS];(conv=>whnf);rw [←aI];refine .intro (fun m T H'=>∃ i:Nat,i≤n∧m=n-i∧T=qc 52 [(0,Hh begun),(3,.ptr (p+1) 0),(4,.ptr (p+2) 0),(26,h0 n),(27,h0 i)]∧H'=JV i) n ⟨0,sE _,rfl,rfl,K7.symm⟩ ?_;rintro m T H' ⟨i,hi,rfl,rfl,rfl⟩;(conv=>whnf);refine HE (fun aR=>?_) (fun aR=>?_)
    ·(have hg:i<n:=by omega);obtain ⟨aA,aG,_⟩:=c1 i hi;obtain ⟨_,a7,a9⟩:=Ku i hg ⟨aA,aG⟩;(conv=>whnf);refine ⟨by omega,?_⟩;(conv=>whnf);refine Ew aG.u ?_;(conv=>whnf);rw [show 0+(i:Int).toNat*1=i by omega];refine Ew (x:=h0 (U.getD i 0)) (by rw [sk,sw,si (show i<U.length by omega)];rfl) ?_;(conv=>whnf);(have rC:IntKind.i64.wrap ((i:Int)+1)=((i+1:Nat):Int):=by rw [HO _ (by omega) (by omega)];omega);refine HE (fun aQ=>?_) (fun aQ=>?_)
     ·(conv=>whnf);refine ⟨n-(i+1),by omega,i+1,by omega,rfl,by rw [rC];rfl,?_⟩;rw [a9 (by omega)]
     ·(have Nd:U.getD i 0=0:=by have:=Ng i;omega);obtain ⟨H2,Md,ace,cp⟩:=a7 Nd;(conv=>whnf);refine ⟨by omega,?_⟩;(conv=>whnf);refine Ew aG.u ?_;(conv=>whnf);rw [show 0+(i:Int).toNat*1=i by omega];refine Gn (by simp;omega) ?_;(conv=>whnf);rw [show (List.map h0 U).set i (I.int IntKind.i64 1)=(U.set i 1).map h0 by rw [tG]];subst eS;refine agp (aG.set (U.set i 1)) (by simpa using Ht) (by omega) (by omega) ⟨H2,Md,cp,?_⟩;(conv=>whnf);refine ⟨n-(i+1),by omega,i+1,by omega,rfl,by rw [rC];rfl,?_⟩;rw [List.set_set,Xr (by omega) Nd,ace]
    ·(obtain rfl:i=n:=by omega);(conv=>whnf);exact bp _ _ _ ⟨.inr rfl,lI.refl _,rfl⟩
   rcases CM with ⟨rfl,rfl⟩ | ⟨rfl,bJ⟩
   ·unfold Lz LB;obtain ⟨f',Hp⟩:∃ c,Jy=c:=⟨_,rfl⟩;rw [Hp];(conv=>whnf);rw [decide_eq_false (show ¬ (((([]:List Int).length:Nat):Int)=(b.1.1.length:Int)) by simp only [List.length_nil];omega)];(conv=>whnf);subst Hp;exact main _ rfl
   ·obtain ⟨a,l,rfl⟩:=tL bJ;unfold Lz LB;obtain ⟨f',Hp⟩:∃ c,Jy=c:=⟨_,rfl⟩;rw [Hp];(conv=>whnf);rw [decide_eq_false (show ¬ ((((a::l).length:Nat):Int)=(b.1.1.length:Int)) by omega)];(conv=>whnf);subst Hp;exact main _ rfl
theorem af8 {b:((List (Int×Int))×(Int×Int))×Unit} (qS:b.1.1.length≤7) (iS:0<b.1.1.length):SY Tryz.prog 70 [.bS [lp b]] ((q4 b.1.1.length (ql b.1.1.length)).map Hh):=by
 intro L N Inv kE ai H ag;have jT:=Vn qS;obtain ⟨H1,bW⟩:∃ H1,H1=((H++[.cells [.yield L]])++[.cells [h0 0,h0 0,h0 0,h0 0,h0 0,h0 0,h0 0]])++[.cells [IM (.bS [lp b]) H.length]]:=⟨_,rfl⟩;have l1:(H++[ar.cells [I.yield L]]).length=H.length+1:=by simp
 have l2:((H++[ar.cells [I.yield L]])++[ar.cells [I.int IntKind.i64 0,I.int IntKind.i64 0,I.int IntKind.i64 0,I.int IntKind.i64 0,I.int IntKind.i64 0,I.int IntKind.i64 0,I.int IntKind.i64 0]]).length=H.length+2:=by simp
 have l_:Ie L (.bS [lp b]) H.length [0,0,0,0,0,0,0] H1:=by
  subst bW;refine ⟨?_,?_,?_⟩
  ·rw [sx,sg (by rw [l1];omega)];exact IP _ _
  ·rw [sg (by rw [l2];omega),←l1];exact IP _ _
  ·rw [←l2];exact IP _ _
 obtain ⟨H',aA,aG,aT⟩:=UE (b:=b) (L:=L) qS iS kE (kE.len _ _ ag).2 b.1.1.length [] .full [0,0,0,0,0,0,0] 0 rfl (fun i=>by
  rw [sw]
  match i with
  | 0 | 1 | 2 | 3 | 4 | 5 | 6 | i+7=>simp) (by simp) (by rw [jT];simp [ql]) (.inl ⟨rfl,rfl⟩) (fun j l aw H' b9=>by
    rw [jT] at aw;obtain ⟨ab,ae⟩:=sa.1 aw;rw [sB] at b9 ⊢;obtain ⟨H2,bm,cw,e2⟩:=ai j (by simpa using ab) H' b9;rw [tK,ae] at e2
    exact ⟨H2,bm,cw,e2⟩) H1 (by rw [bW,sx,sx];exact kE.more _ _ _ ag) l_
 rw [jT,sB] at aA;refine ⟨H',by rw [sY];exact aA,?_⟩;refine rA eG Vy rfl (IF (by have:=aG.1;rw [bW] at this;simp at this;omega)) fun Q bp=>?_;rw [bW] at aT;unfold RP RQ;conv=>whnf
 refine Ew (x:=.cells [.a0]) (by simp) ?_;conv=>whnf
 rw [HT];refine Ew (x:=.cells [IM (.bS [lp b]) H.length]) (by rw [List.getElem?_append_right (sc _),l1,l2,Nat.sub_self];rfl) ?_;conv=>whnf
 refine ⟨_,_,rq (by rw [l1,l2];exact aT),?_⟩;conv=>whnf
 exact bp _ _ _ ⟨.inl rfl,lI.refl _,rfl⟩
theorem af2 {α:Type} {P:Program} {A:dw} {fn:FuncId} {rl:Option Nat} {k:FuncId} {cap:List I} {t:Nat} {bq:List Nat} {gH ct:Code} {T:List I} {H:List ar} {Q:cQ→List I→List ar→Prop} {f:α→I} {L:List α} (Iu:SY P k cap (L.map f))
  (ax:df T t=.func k [] cap) {Inv:Nat→List ar→Prop} (kE:P9 H.length (H.length+1) Inv) (aQ:Inv 0 (H++[.loop .ready none fn (T.map I.view) bq gH ct A]))
  (Lr:∀ (i:Nat) (h:i<L.length) (H1:List ar),Inv i H1→∃ H',Inv (i+1) H'∧Hl (H.length+1) H1 H'∧Sem P (.yield H.length) [f L[i]] H1 0 (.bool true) H')
  (hg:inLoop H rl=true) (acq:∀ H',Inv L.length H'→H'[H.length]?=some (.loop .ready none fn (T.map I.view) bq gH ct A)) (bp:∀ H',Inv L.length H'→Q .normal (T.map I.settle) (H'.set H.length .dead)):dQ P A fn 0 rl (.AM (.nc t) bq gH ct) T H Q:=by
 show hI T t _;rw [iQ,ax]
 obtain ⟨H',b9,cp⟩:=Iu H.length (H.length+1) Inv kE (fun i h H1 bW=>by
  have aX:i<L.length:=by simpa using h
  obtain ⟨H2,bm,cw,e2⟩:=Lr i aX H1 bW
  exact ⟨H2,bm,cw,by rw [tK];exact e2⟩) _ aQ
 rw [sY] at b9;refine ⟨hg,.tuple [],H',.ready,none,fn,T.map I.view,bq,gH,ct,A,cp,acq _ b9,by decide,bp _ b9⟩
end Go.Proofs.YtkoioidpbbbaiaaGreat.Ab


namespace Go.Proofs.YtkoioidpbbbaiaaGreat.Ab
open Go
noncomputable def Xa:gE :=
 .ov false [p1 7 27]
noncomputable def NP:gE :=
 p2 [p1 58 11,p1 59 58,cl 60 [.jq 13] 59 true .mU,p0 61 [.Bs 59,.Bs 60,.cv (.bool false)] .pick] (.cond (.nc 61) (qO [p1 62 9,p0 63 [.nc 6,.Bs 62] (.zu 7 1),⟨none,[.jq 63,.cv (.int .i64 1)],none,none,.st 1⟩]) .skip)
noncomputable def NQ:gE :=
 p2 [p0 49 [.nc 4] (.zE .one),p3 50 7,p3 51 8,qy 52 51 2 .rem,p1 53 8,p0 54 [.Bs 53] (.yB 1 1 [.int .i64 0] [0]),p0 55 [.cv (.func 60 [] []),.jq 49,.jq 50,.jq 52,.jq 54] (.call 1),p1 48 55,qB 56 48 0,p0 57 [.Bs 48] (.ext 1),p1 12 56,p1 13 57] NP
noncomputable def Pd:gE :=
 p2 [p0 40 [.nc 4] (.zE .one),p3 41 7,p3 42 8,qy 43 42 2 .rem,p0 44 [.cv (.int .i64 1),.Bs 43] (.bin .sub),p0 45 [.cv (.func 60 [] []),.jq 40,.jq 41,.jq 44,.cv (.av [] 0 .full)] (.call 1),p1 39 45,qB 46 39 0,p0 47 [.Bs 39] (.ext 1),p1 10 46,p1 11 47] NQ
noncomputable def Xf:gE :=
 .seq (p2 [p3 35 9,p0 36 [.nc 6,.Bs 35] (.zu 7 1),qh 37 36,qy 38 37 0 .gtr] (.cond (.nc 38) (.exit 3) .skip)) Pd
noncomputable def R4:gE :=
 .block 3 (p2 [p3 32 30,p0 33 [.nc 28,.nc 30] (.kY 1),qh 34 33,p1 8 32,p1 9 34] Xf)
noncomputable def Xe:gE :=
 .block 1 (p2 [p3 28 7,p0 29 [.nc 28] .zJ,qf 30 0] (.block 2 (.loop (some (p' false [4,1,1,2,20,3,55])) (p2 [p0 31 [.nc 30,.nc 29] (.bin .lss)] (.seq (.cond (.nc 31) .skip (.exit 2)) (.seq R4 (qO [qV 64 30 1,p1 30 64])))))))
theorem adn:ey Go.Proofs.Tryz.prog JM (rf Go.Proofs.Tryz.prog 24 0) 0=some Xa:=by kernel_rfl
theorem adr:ey Go.Proofs.Tryz.prog JM (rh Go.Proofs.Tryz.prog 24 0) 0=some Xe:=by kernel_rfl
end Go.Proofs.YtkoioidpbbbaiaaGreat.Ab


namespace Go.Proofs.YtkoioidpbbbaiaaGreat.Ab
open Go
set_option maxRecDepth 20000
set_option maxHeartbeats 4000000
def JO (b:r3) (o:List Int) (F:List Int) (i:Int):Option (List Int) :=
 qk (0≤ix o i∧ix o i<7) <|
 if 0<ix F (ix o i) then some F else
 (Ip b o (w (1-i.tmod 2)) []).bind fun x=>(Ip b o (i.tmod 2) [i]).bind fun y =>
 some (if (x.2 && y.2)=true then F.set (ix o i).toNat 1 else F)
theorem HU.rY {b:r3} {m j:Nat} {H:List ar} {o cz:ar} (h:HU b m H) (aw:H[j]?=some o) (hm:∀ es c,o≠.map es c):HU b m (H.set j cz):=by
 obtain ⟨es,IK,ab,ae⟩:=h;have acs:j≠m:=fun e=>by subst e;rw [ab] at aw;exact hm _ _ (Option.some.inj aw).symm
 refine ⟨es,IK,by rw [sd acs];exact ab,fun e he=>?_⟩;obtain ⟨x,id,c,A,aA,aG,aT,br,bg⟩:=ae e he;have h_:j≠id:=fun e=>by subst e;rw [br] at aw;exact hm _ _ (Option.some.inj aw).symm
 exact ⟨x,id,c,A,aA,aG,aT,by rw [sd h_];exact br,bg⟩
structure Good (b:r3) (rP:ar) (F:List Int) (H:List ar):Prop where
 f:HU b 0 H
 p:H[1]?=some (.cells [rS b 0])
 m:H[2]?=some (.cells (F.map h0))
 l:H[3]?=some rP
 n:F.length=7
theorem Good.ext {b:r3} {rP:ar} {F:List Int} {H H':List ar} (h:Good b rP F H) (aP:HU b 0 H') (he:Ic 0 H H'):Good b rP F H':=by
 have aF:=(sa.1 h.l).1;exact ⟨aP,by rw [he.2 1 (by omega) (by omega)];exact h.p,by rw [he.2 2 (by omega) (by omega)];exact h.m,by rw [he.2 3 (by omega) aF];exact h.l,h.n⟩
theorem Good.mark {b:r3} {rP:ar} {F I4:List Int} {H:List ar} (h:Good b rP F H) (aI:I4.length=7):Good b rP I4 (H.set 2 (.cells (I4.map h0))) :=
 ⟨h.f.rY h.m (fun _ _ e=>by cases e),by rw [sd (by omega)];exact h.p,sj (sa.1 h.m).1,by rw [sd (by omega)];exact h.l,aI⟩
theorem Ic.cE {H H':List ar} (h:Ic 0 H H'):Hl 4 H H':=⟨h.1,fun j c aw ak=>by rw [h.2 j (by omega) (sa.1 ak).1];exact ak⟩
theorem acM {b:r3} {o F I4:List Int} {i:Int} (h:JO b o F i=some I4) {rP:ar} {H:List ar} (rI:Good b rP F H) :
  ∃ H',Good b rP I4 H'∧Hl 4 H H'∧(0≤ix o i∧ix o i<7)∧(0<ix F (ix o i)→H'=H) ∧
    (¬ 0<ix F (ix o i)→∃ x y H1 H2,(x.2 && y.2)=true∧I4=F.set (ix o i).toNat 1∧H'=H2.set 2 (.cells (I4.map h0))∧Good b rP F H2∧Good b rP F H1 ∧
      Sem Tryz.prog (.fn 60) [rS b 0,.av (o.map h0) o.length .shared,h0 (w (1-i.tmod 2)),.av [] 0 .full] H 0 (.tuple [.av [] 0 .shared,B x.2]) H1 ∧
      Sem Tryz.prog (.fn 60) [rS b 0,.av (o.map h0) o.length .shared,h0 (i.tmod 2),.av [h0 i] 1 (.uniq 1)] H1 0 (.tuple [.av ((y:List qu×Bool).1.flatMap qq) y.1.length .shared,B y.2]) H2 ∨
     (x.2 && y.2)=false∧I4=F∧H'=H2∧Good b rP F H2∧Good b rP F H1 ∧
      Sem Tryz.prog (.fn 60) [rS b 0,.av (o.map h0) o.length .shared,h0 (w (1-i.tmod 2)),.av [] 0 .full] H 0 (.tuple [.av [] 0 .shared,B (x:List qu×Bool).2]) H1 ∧
      Sem Tryz.prog (.fn 60) [rS b 0,.av (o.map h0) o.length .shared,h0 (i.tmod 2),.av [h0 i] 1 (.uniq 1)] H1 0 (.tuple [.av (y.1.flatMap qq) y.1.length .shared,B y.2]) H2):=by
 unfold JO at h;obtain ⟨ah,h⟩:=rR h;by_cases aB:0<ix F (ix o i)
 ·rw [if_pos aB] at h;obtain rfl:=Option.some.inj h;exact ⟨H,rI,Hl.refl _ _,ah,fun _=>rfl,fun aI=>absurd aB aI⟩
 ·rw [if_neg aB] at h;obtain ⟨x,aj,h⟩:=p8 h;obtain ⟨y,aY,h⟩:=p8 h;obtain rfl:=Option.some.inj h;obtain ⟨xf,VS,s1⟩:=YB aj (m:=0) (lo:=0) (H:=H) (sE _);have e1:Ic 0 H (H++[VS]):=⟨by simp,fun j _ aw=>by rw [sg aw]⟩;have cf:Good b rP F (H++[VS]):=rI.ext (rI.f.more _) e1;obtain ⟨H2,f2,b',s2⟩:=YC aY (lo:=0) (sc 0) cf.f;have ca:Good b rP F H2:=cf.ext f2 b';cases af:(x.2 && y.2) with
  | true =>
    rw [if_pos rfl];refine ⟨H2.set 2 (.cells ((F.set (ix o i).toNat 1).map h0)),ca.mark (by rw [List.length_set];exact ca.n),?_,ah,fun h=>absurd h aB,fun _=>⟨x,y,_,H2,.inl ⟨af,rfl,rfl,ca,cf,s1,s2⟩⟩⟩;have k:=(e1.cE).trans b'.cE;refine ⟨by have:=k.1;simpa using this,fun j c aw ak=>by rw [sd (by omega)];exact k.2 j c aw ak⟩
  | false =>
    rw [if_neg (by decide)];exact ⟨H2,ca,(e1.cE).trans b'.cE,ah,fun h=>absurd h aB,fun _=>⟨x,y,_,H2,.inr ⟨af,rfl,rfl,ca,cf,s1,s2⟩⟩⟩
theorem aa0 {F:List Int} {k:Int} (al:0≤k∧k<7) (bG:F.length=7):(F.map h0)[0+k.toNat*1]?=some (h0 (ix F k)):=by
 have h:k.toNat<F.length:=by omega
 rw [sB,tn,sk,si h];simp [ix,sw,si h]
theorem af0 {b:r3} {o F I4:List Int} (aq:o≠[]) (fL:o.length≤1000) (h:Ir (JO b o) (ql o.length) F=some I4) {gv Gi rT I1 MN:I} {H:List ar} (rI:Good b (.loop .ready none 24 (qc 86 [(2,gv),(3,Gi),(4,.ptr 1 0),(5,rT),(6,.ptr 2 0),(23,I1),(26,MN)]) [27] (rf Tryz.prog 24 0) (rh Tryz.prog 24 0) JM) F H) :
  ∃ H',Good b (.loop .ready none 24 (qc 86 [(2,gv),(3,Gi),(4,.ptr 1 0),(5,rT),(6,.ptr 2 0),(23,I1),(26,MN)]) [27] (rf Tryz.prog 24 0) (rh Tryz.prog 24 0) JM) I4 H'∧Hl 4 H H'∧Sem Tryz.prog (.yield 3) [Hh o] H 0 (.bool true) H':=by
 obtain ⟨Hq,Nf,K6,QL⟩:=OE h;rw [LF] at K6;obtain ⟨n,aI⟩:∃ n,n=o.length:=⟨_,rfl⟩;rw [←aI] at K6 fL;obtain ⟨Iv,UR⟩:∃ Iv:ar,Iv=(.loop .busy none 24 (qc 86 [(2,gv),(3,Gi),(4,.ptr 1 0),(5,rT),(6,.ptr 2 0),(23,I1),(26,MN)]) [27] (rf Tryz.prog 24 0) (rh Tryz.prog 24 0) JM):=⟨_,rfl⟩;obtain ⟨OT,Q1⟩:∃ OT:ar,OT=(.loop .ready none 24 (qc 86 [(2,gv),(3,Gi),(4,.ptr 1 0),(5,rT),(6,.ptr 2 0),(23,I1),(26,MN)]) [27] (rf Tryz.prog 24 0) (rh Tryz.prog 24 0) JM):=⟨_,rfl⟩;rw [←Q1] at rI ⊢;have Dl:∀ es c,OT≠.map es c:=fun _ _ e=>by rw [Q1] at e;cases e
 have kM:∀ es c,Iv≠.map es c:=fun _ _ e=>by rw [UR] at e;cases e
 have abN:Good b Iv F (H.set 3 Iv):=⟨rI.f.rY rI.l Dl,by rw [sd (by omega)];exact rI.p,by rw [sd (by omega)];exact rI.m,sj (sa.1 rI.l).1,rI.n⟩;have abM:∀ i (hi:i<n),JO b o (Hq i) (i:Int)=some (Hq (i+1)):=fun i hi=>by
  have:=QL i (by rw [LF];omega);simpa [ql] using this
 classical
 obtain ⟨Hs,gL,Mc⟩:=Ox (fun i rH H5=>i<n→Good b Iv (Hq i) rH→Good b Iv (Hq (i+1)) H5∧Hl 4 rH H5∧(0≤ix o i∧ix o i<7)∧(0<ix (Hq i) (ix o i)→H5=rH) ∧
   (¬ 0<ix (Hq i) (ix o i)→∃ x y H1 H2,(x.2 && y.2)=true∧Hq (i+1)=(Hq i).set (ix o i).toNat 1∧H5=H2.set 2 (.cells ((Hq (i+1)).map h0))∧Good b Iv (Hq i) H2∧Good b Iv (Hq i) H1 ∧
     Sem Tryz.prog (.fn 60) [rS b 0,.av (o.map h0) o.length .shared,h0 (w (1-(i:Int).tmod 2)),.av [] 0 .full] rH 0 (.tuple [.av [] 0 .shared,B x.2]) H1 ∧
     Sem Tryz.prog (.fn 60) [rS b 0,.av (o.map h0) o.length .shared,h0 ((i:Int).tmod 2),.av [h0 (i:Int)] 1 (.uniq 1)] H1 0 (.tuple [.av ((y:List qu×Bool).1.flatMap qq) y.1.length .shared,B y.2]) H2 ∨
    (x.2 && y.2)=false∧Hq (i+1)=Hq i∧H5=H2∧Good b Iv (Hq i) H2∧Good b Iv (Hq i) H1 ∧
     Sem Tryz.prog (.fn 60) [rS b 0,.av (o.map h0) o.length .shared,h0 (w (1-(i:Int).tmod 2)),.av [] 0 .full] rH 0 (.tuple [.av [] 0 .shared,B (x:List qu×Bool).2]) H1 ∧
     Sem Tryz.prog (.fn 60) [rS b 0,.av (o.map h0) o.length .shared,h0 ((i:Int).tmod 2),.av [h0 (i:Int)] 1 (.uniq 1)] H1 0 (.tuple [.av (y.1.flatMap qq) y.1.length .shared,B y.2]) H2)) (H.set 3 Iv) (fun i rH=>by
  by_cases aO:i<n∧Good b Iv (Hq i) rH
  ·obtain ⟨H',aA⟩:=acM (abM i aO.1) aO.2;exact ⟨H',fun _ _=>aA⟩
  ·exact ⟨rH,fun ab ae=>absurd ⟨ab,ae⟩ aO⟩)
 have c1:∀ i,i≤n→Good b Iv (Hq i) (Hs i)∧Hl 4 (H.set 3 Iv) (Hs i):=fun i=>by
  induction i with
  | zero=>intro _;rw [gL,Nf];exact ⟨abN,Hl.refl _ _⟩
  | succ i a8 =>
    intro hi;obtain ⟨aA,aG⟩:=a8 (by omega);obtain ⟨bm,cw,_⟩:=Mc i (by omega) aA;exact ⟨bm,aG.trans cw⟩
 obtain ⟨Kt,U3⟩:=c1 n (sc _);rw [K6] at Kt;have hlen:H.length≤(Hs n).length:=by have:=U3.1;simpa using this
 refine ⟨(Hs n).set 3 OT,⟨Kt.f.rY Kt.l kM,by rw [sd (by omega)];exact Kt.p,by rw [sd (by omega)];exact Kt.m,sj (sa.1 Kt.l).1,Kt.n⟩,⟨by simpa using hlen,fun j c aw ak=>by rw [sd (by omega)];exact U3.2 j c aw (by rw [sd (by omega)];exact ak)⟩,?_⟩;subst Q1;refine Pj eG adn adr rI.l rfl (IF (by simpa using hlen)) ?_;obtain ⟨gb,e,mx⟩:=tL aq;have ab7:Hh o=.av (o.map h0) o.length (.own 1):=by rw [mx];rfl
 rw [ab7];unfold Xa;conv=>whnf
 refine ⟨rfl,rI.l,?_⟩;rw [←UR];unfold Xe;obtain ⟨dV,Cr⟩:∃ c,R4=c:=⟨_,rfl⟩;rw [Cr];conv=>whnf
 rw [←aI];refine .intro (fun m T H'=>∃ i:Nat,i≤n∧m=n-i∧T=qc 86 [(4,.ptr 1 0),(6,.ptr 2 0),(7,.av (o.map h0) n (.own 1)),(28,.av (o.map h0) n .shared),(29,h0 n),(30,h0 i)]∧H'=Hs i) n ⟨0,sE _,rfl,rfl,gL.symm⟩ ?_;rintro m T H' ⟨i,hi,rfl,rfl,rfl⟩;conv=>whnf
 refine HE (fun aR=>?_) (fun aR=>?_)
 ·have hg:i<n:=by omega
  have It:0≤(i:Int)∧(i:Int)<(o.length:Int):=by omega
  have a:=c1 i hi;obtain ⟨_,_,ah,a7,a9⟩:=Mc i hg a.1;have rC:IntKind.i64.wrap ((i:Int)+1)=((i+1:Nat):Int):=by rw [HO _ (by omega) (by omega)];omega
  subst Cr;unfold R4 Xf;obtain ⟨bt,eS⟩:∃ c,Pd=c:=⟨_,rfl⟩;rw [eS];conv=>whnf
  refine ⟨by omega,?_⟩;rw [ru h0 o (i:Int) It];conv=>whnf
  refine ⟨ah,?_⟩;conv=>whnf
  refine Ew a.1.m ?_;conv=>whnf
  refine Ew (x:=h0 (ix (Hq i) (ix o i))) (aa0 ah a.1.n) ?_;conv=>whnf
  refine HE (fun aB=>?_) (fun aB=>?_)
  ·(conv=>whnf);refine ⟨n-(i+1),by omega,i+1,by omega,rfl,by rw [rC];rfl,?_⟩;rw [a7 aB]
  ·obtain ⟨x,y,H1,H2,a1⟩:=a9 aB;subst eS;rcases a1 with ⟨af,OI,b9,ca,cf,s1,s2⟩ | ⟨af,OI,b9,ca,cf,s1,s2⟩
   ·unfold Pd;obtain ⟨aaJ,Nb⟩:∃ c,NQ=c:=⟨_,rfl⟩;rw [Nb];(conv=>whnf);refine Ew a.1.p ?_;(conv=>whnf);refine ⟨by decide,?_⟩;(conv=>whnf);rw [←aI] at s1 s2;refine ⟨_,_,rq s1,?_⟩;(conv=>whnf);subst Nb;unfold NQ;obtain ⟨B8,Na⟩:∃ c,NP=c:=⟨_,rfl⟩;rw [Na];(conv=>whnf);refine Ew cf.p ?_;(conv=>whnf);refine ⟨by decide,?_⟩;(conv=>whnf);refine ⟨_,_,rq s2,?_⟩;(conv=>whnf);subst Na;unfold NP;cases aj:x.2 <;> cases aY:y.2 <;> rw [aj,aY] at af
    ·cases af
    ·cases af
    ·cases af
    ·(conv=>whnf);refine ⟨ah,?_⟩;(conv=>whnf);refine Ew ca.m ?_;(conv=>whnf);refine Gn (by rw [sY,ca.n];omega) ?_;(conv=>whnf);refine ⟨n-(i+1),by omega,i+1,by omega,rfl,by rw [rC];rfl,?_⟩;rw [b9,OI,tG,sB,tn]
   ·unfold Pd;obtain ⟨aaJ,Nb⟩:∃ c,NQ=c:=⟨_,rfl⟩;rw [Nb];(conv=>whnf);refine Ew a.1.p ?_;(conv=>whnf);refine ⟨by decide,?_⟩;(conv=>whnf);rw [←aI] at s1 s2;refine ⟨_,_,rq s1,?_⟩;(conv=>whnf);subst Nb;unfold NQ;obtain ⟨B8,Na⟩:∃ c,NP=c:=⟨_,rfl⟩;rw [Na];(conv=>whnf);refine Ew cf.p ?_;(conv=>whnf);refine ⟨by decide,?_⟩;(conv=>whnf);refine ⟨_,_,rq s2,?_⟩;(conv=>whnf);subst Na;unfold NP;cases aj:x.2 <;> cases aY:y.2 <;> rw [aj,aY] at af
    ·(conv=>whnf);refine ⟨n-(i+1),by omega,i+1,by omega,rfl,by rw [rC];rfl,?_⟩;rw [b9]
    ·(conv=>whnf);refine ⟨n-(i+1),by omega,i+1,by omega,rfl,by rw [rC];rfl,?_⟩;rw [b9]
    ·(conv=>whnf);refine ⟨n-(i+1),by omega,i+1,by omega,rfl,by rw [rC];rfl,?_⟩;rw [b9]
    ·cases af
 ·obtain rfl:i=n:=by omega
  conv=>whnf
  exact ⟨rfl,Kt.l,lI.refl _⟩
end Go.Proofs.YtkoioidpbbbaiaaGreat.Ab


namespace Go.Proofs.YtkoioidpbbbaiaaGreat.Ab
open Go
noncomputable def RB:gE :=
 .ov false [p3 75 14,p3 76 14,qW 77 76,p1 78 14,qW 79 78,p0 80 [.jq 75,.jq 77,.jq 79] (.Bh 1 false true true),p1 81 15,p0 82 [.Bs 81] (.yB 1 1 [.int .i64 0] [0]),p0 83 [.jq 80,.jq 82] (.app 1 8),p1 14 83]
noncomputable def RC:gE :=
 .block 5 (p2 [p3 71 69, p0 72 [.nc 68, .nc 69] (.other (Oper.mk (some 72) (Op.index 91 (Operand.tmp 68) (Operand.tmp 69)) 3 "curl.go:170" (Array.mk []) none) 0), p1 15 71, p1 16 72] (p2 [p1 73 16, qy 74 73 0 .gtr] (.cond (.nc 74) RB .skip)))
noncomputable def RD:gE :=
 .seq (p2 [p0 68 [.Bs 6] (.zE (.arr 7)),qf 69 0] (.block 4 (.loop (some (p' false [14,1,53,2,16])) (p2 [p0 70 [.nc 69,.cv (.int .i64 7)] (.bin .lss)] (.seq (.cond (.nc 70) .skip (.exit 4)) (.seq RC (qO [qV 84 69 1,p1 69 84]))))))) (p2 [p1 85 14,p1 2 85,qf 3 0] .ret)
noncomputable def NI:gE :=
 .seq (p2 [p0 65 [.nc 6] (.zE (.arr 7)), p0 66 [] (.build [.int .i64 0, .int .i64 0, .int .i64 0, .int .i64 0, .int .i64 0, .int .i64 0, .int .i64 0] []), p0 67 [.Bs 65, .Bs 66] (.other (Oper.mk (some 67) (Op.binOp .eql 91 (Operand.tmp 65) (Operand.tmp 66) 91) 4 "curl.go:166" (Array.mk [Edge.mk 0 Ground.data, Edge.mk 1 Ground.data]) none) 0)] (.cond (.nc 67) (p2 [p0 2 [.cv (.av [] 0 .full)] (.nil 1), qf 3 0] .ret) .skip)) (p2 [p0 14 [.cv (.av [] 0 .full)] (.nil 1)] RD)
noncomputable def OZ:gE :=
 .seq (p2 [p3 22 5,qy 23 22 0 .neq] (.cond (.nc 23) (p2 [p1 24 5,p0 2 [.cv (.av [] 0 .full)] (.nil 1),p1 3 24] .ret) .skip)) (p2 [p0 6 [] (.alloc [.int .i64 0,.int .i64 0,.int .i64 0,.int .i64 0,.int .i64 0,.int .i64 0,.int .i64 0])] (.seq (p2 [p0 25 [.nc 4] (.zE .one),p0 26 [.cv (.func 43 [] []),.jq 25] (.call 9)] (.block 0 (.AM (.nc 26) [27] (rf Go.Proofs.Tryz.prog 24 0) (rh Go.Proofs.Tryz.prog 24 0)))) NI))
noncomputable def WI:gE :=
 p2 [p0 18 [.Bs 1] (.zE (.str 3)),p0 19 [.cv (.func 40 [] []),.jq 18,.cv (.av [] 0 .full)] (.call 8),p1 17 19,qB 20 17 0,p0 21 [.Bs 17] (.ext 1),p0 4 [] (.alloc [.eI]),⟨none,[.nc 4,.jq 20],none,none,.st 1⟩,p1 5 21] OZ
noncomputable def WH:gE :=
 p2 [p0 1 [.jq 0] .yy,p0 2 [.cv (.av [] 0 .full)] (.nil 1),qf 3 0] WI
theorem ac8:qo Go.Proofs.Tryz.prog JM 24=some (WH,86,[.tmp 2,.tmp 3]):=by kernel_rfl
end Go.Proofs.YtkoioidpbbbaiaaGreat.Ab


namespace Go.Proofs.YtkoioidpbbbaiaaGreat.Ab
open Go
set_option maxRecDepth 20000
set_option maxHeartbeats 4000000
theorem Xo {P:Program} {k:FuncId} {args:List I} {H H':List ar} {lo:Nat} {r:I} (h:Sem P (.fn k) (args.map I.cc) H lo r H'):Sem P (.fn k) args H lo r H':=by
 obtain ⟨aQ,ab,ae⟩:=h;exact ⟨aQ,ab,fun B aa J S w vs ag aI ad=>ae B aa J S w vs ag aI ad.cc⟩
abbrev L5 (p:qb):List I:=[(.agg [(.av (p.1.flatMap p7) p.1.length .shared),(h0 p.2.1),(h0 p.2.2)]),(.av [] 0 .full)]
section
variable {p:qb}
theorem aaP {e:Int} {lo:Nat} (h:rN p []=some (none,e)):oV Tryz.prog 8 lo (.fn 40) (L5 p) [] (.tuple [.eI,h0 e]) [] :=
 ⟨_,EB (r:=.tuple [.eI,h0 e]) (H':=[rJ p]) (Xo (args:=L5 p) (by exact Ym h)),by
  show (k9 _ _ _ _ _ _ (.fn 40) (L5 p) [] 0).bind _=_
  rw [EA];rfl⟩
theorem aaR {t:qb×Unit} {e:Int} {lo:Nat} (h:rN p []=some (some t,e)):oV Tryz.prog 8 lo (.fn 40) (L5 p) [] (.tuple [.bS [(.av (p.1.flatMap p7) p.1.length .shared),(h0 p.2.1),(h0 p.2.2),.map 0],h0 0]) [.map [] 0] :=
 ⟨_,EB (r:=.tuple [.ptr 2 0,h0 0]) (H':=[rJ p,.map [] 0,.cells [(.av (p.1.flatMap p7) p.1.length .shared),(h0 p.2.1),(h0 p.2.2),.map 1]]) (Xo (args:=L5 p) (by exact (N3 h).2.2)),by
  show (k9 _ _ _ _ _ _ (.fn 40) (L5 p) [] 0).bind _=_;rw [EA];have e1:ea (bM [rJ p,.map [] 0,.cells [(.av (p.1.flatMap p7) p.1.length .shared),(h0 p.2.1),(h0 p.2.2),.map 1]] 0 1 0 6) [(.av (p.1.flatMap p7) p.1.length .shared),(h0 p.2.1),(h0 p.2.2),.map 1]=some [(.av (p.1.flatMap p7) p.1.length .shared),(h0 p.2.1),(h0 p.2.2),.map 0] :=
   rF (yW (Hx (fun _=>p6 rfl (p6 rfl rfl)) _ _ _)) (rF (yW rfl) (rF (yW rfl) (rF rfl IG)))
  have b':bM [rJ p,.map [] 0,.cells [(.av (p.1.flatMap p7) p.1.length .shared),(h0 p.2.1),(h0 p.2.2),.map 1]] 0 1 0 8 (.tuple [.ptr 2 0,h0 0])=some (.tuple [.bS [(.av (p.1.flatMap p7) p.1.length .shared),(h0 p.2.1),(h0 p.2.2),.map 0],h0 0]) :=
   M' (rF (show (ea (bM [rJ p,.map [] 0,.cells [(.av (p.1.flatMap p7) p.1.length .shared),(h0 p.2.1),(h0 p.2.2),.map 1]] 0 1 0 6) [(.av (p.1.flatMap p7) p.1.length .shared),(h0 p.2.1),(h0 p.2.2),.map 1]).map I.bS=_ by rw [e1];rfl) (rF rfl IG))
  show (match mapM (bM [rJ p,.map [] 0,.cells [(.av (p.1.flatMap p7) p.1.length .shared),(h0 p.2.1),(h0 p.2.2),.map 1]] 0 1 0 8) [],bM [rJ p,.map [] 0,.cells [(.av (p.1.flatMap p7) p.1.length .shared),(h0 p.2.1),(h0 p.2.2),.map 1]] 0 1 0 8 (.tuple [.ptr 2 0,h0 0]) with | some es',some v=>some (v,[]++[ar.map es' 0]) | _,_=>none)=_
  rw [b'];rfl⟩
end
def L_ (b:r3) (F:List Int) (o:List Int):Option (List Int):=Ir (JO b o) (ql o.length) F
def K0 (F:List Int):List Int×Int:=if decide (F=[0,0,0,0,0,0,0])=true then ([],0) else ((ql 7).filter (fun s=>decide (0<ix F s)),0)
def MQ (p:qb):Option (List Int×Int) :=
 (rN p []).bind fun r=>match r with
 | (none,q)=>if decide (q≠0)=true then some ([],q) else none
 | (some b,_) =>
   qk (0<b.1.1.length∧b.1.1.length≤7) <|
   (Ir (L_ b) (q4 b.1.1.length (ql b.1.1.length)) [0,0,0,0,0,0,0]).bind fun F =>
   some (K0 F)
theorem ac0 {n:Nat} {left:List Int}:∀ e∈q4 n left,e.length=n:=fun e he=>by
 induction n generalizing left e with
 | zero=>simp [q4] at he;simp [he]
 | succ n a8 =>
   simp only [q4,List.mem_flatMap,List.mem_map] at he;obtain ⟨x,_,l,ao,rfl⟩:=he;simp [a8 l ao]
theorem Good.more {b:r3} {rP:ar} {F:List Int} {H:List ar} (h:Good b rP F H) (Z:List ar):Good b rP F (H++Z) :=
 h.ext (h.f.more Z) ⟨by simp,fun j _ aw=>by rw [sg aw]⟩
theorem Good.agc {b:r3} {rP:ar} {F:List Int} {H:List ar} {j:Nat} {c:List I} (dU:List I) (h:Good b rP F H) (aw:4≤j) (ak:H[j]?=some (.cells c)):Good b rP F (H.set j (.cells dU)) :=
 ⟨h.f.rY ak (fun _ _ e=>by cases e),by rw [sd (by omega)];exact h.p,by rw [sd (by omega)];exact h.m,by rw [sd (by omega)];exact h.l,h.n⟩
theorem XO (n:Nat):ql (n+1)=ql n++[(n:Int)]:=by simp [ql,vB]
theorem agz {b:r3} {rP:ar} {F:List Int} {H':List ar} (rI:Good b rP F H') {gv Gi rT I1 MN:I} {Q:cQ→List I→List ar→Prop}
  (jJ:∀ T H,HV [.tmp 2,.tmp 3] (.tuple [.av ((K0 F).1.map h0) (K0 F).1.length .shared,h0 (K0 F).2]) .ret T H→Q .ret T H) :
  dQ Tryz.prog JM 24 0 none NI (qc 86 [(2,gv),(3,Gi),(4,.ptr 1 0),(5,rT),(6,.ptr 2 0),(23,I1),(26,MN)]) (H'.set 3 .dead) Q:=by
 unfold NI;obtain ⟨bt,eS⟩:∃ c,RD=c:=⟨_,rfl⟩;rw [eS];have hm:(H'.set 3 .dead)[2]?=some (.cells (F.map h0)):=by rw [sd (by omega)];exact rI.m
 have aI:=rI.n;conv=>whnf
 refine Ew hm ?_;conv=>whnf
 refine ⟨by simp [aI],?_⟩;rw [Vm h0 F (fun _=>rfl) aI];conv=>whnf
 refine ⟨_,_,fun C=>VX rfl rfl (ZH .i64 (e:=3) (len:=7) (kd:=.i64) (xs:=F) (ys:=[(0:Int),0,0,0,0,0,0]) (by kernel_rfl) (by kernel_rfl) (by kernel_rfl) (by kernel_rfl) aI rfl),?_⟩;conv=>whnf
 unfold K0 at jJ;refine HE (fun bk=>?_) (fun bk=>?_)
 ·rw [decide_eq_true bk] at jJ;conv=>whnf
  exact jJ _ _ (Il rfl rfl)
 ·rw [decide_eq_false bk] at jJ;conv=>whnf
  subst eS;unfold RD;obtain ⟨a9,ca⟩:∃ c,RC=c:=⟨_,rfl⟩;rw [ca];conv=>whnf
  refine Ew hm ?_;conv=>whnf
  refine ⟨by simp [aI],?_⟩;rw [Vm h0 F (fun _=>rfl) aI];conv=>whnf
  refine .intro (fun m T H=>∃ (i:Nat) (L:List Int) (c:hE),i≤7∧m=7-i∧L=(ql i).filter (fun s=>decide (0<ix F s))∧c=.uniq 1∧T=qc 86 [(14,.av (L.map h0) L.length c),(68,.agg (F.map h0)),(69,h0 i)]∧H=H'.set 3 .dead) 7 ⟨0,[],_,by omega,rfl,rfl,rfl,rfl,rfl⟩ ?_;rintro m T H ⟨i,L,c,hi,rfl,fq,rfl,rfl,rfl⟩;conv=>whnf
  refine HE (fun aR=>?_) (fun aR=>?_)
  ·(have rC:IntKind.i64.wrap ((i:Int)+1)=((i+1:Nat):Int):=by rw [HO _ (by omega) (by omega)];omega);subst ca;unfold RC;obtain ⟨a7,cf⟩:∃ c,RB=c:=⟨_,rfl⟩;rw [cf];(conv=>whnf);refine ⟨_,_,fun C=>aeA rfl (ZJ (e:=3) (len:=7) (kd:=.i64) (by kernel_rfl) (by kernel_rfl) (by kernel_rfl) (by kernel_rfl) aI ⟨by omega,aR⟩),?_⟩;(conv=>whnf);refine HE (fun aB=>?_) (fun aB=>?_)
   ·subst cf;unfold RB;have aix:L.length≤7:=by
     have:=List.length_filter_le (fun s=>decide (0<ix F s)) (ql i);rw [LF] at this;rw [fq];omega
    (conv=>whnf);refine ⟨⟨rfl,by omega,sR _⟩,?_⟩;(conv=>whnf);rw [tp,tn,te (by simp)];refine ⟨rfl,by decide,?_⟩;(conv=>whnf);refine ⟨by decide,by omega,by simp,?_⟩;(conv=>whnf);refine ⟨7-(i+1),by omega,i+1,_,.uniq 1,by omega,rfl,rfl,rfl,?_,rfl⟩;rw [XO,t_,←fq,show [(i:Int)].filter (fun s=>decide (0<ix F s))=[(i:Int)] by simp [aB],sO,sy,rC];rfl
   ·(conv=>whnf);refine ⟨7-(i+1),by omega,i+1,L,.uniq 1,by omega,rfl,?_,rfl,by rw [rC];rfl,rfl⟩;rw [XO,t_,←fq,show [(i:Int)].filter (fun s=>decide (0<ix F s))=[] by simp [aB],sM]
  ·(obtain rfl:i=7:=by omega);(conv=>whnf);rw [fq];exact jJ _ _ (Il rfl rfl)
theorem ahk {p:qb} {v:List Int×Int} (h:MQ p=some v):qw 24 [.agg [.av (p.1.flatMap p7) p.1.length .shared,h0 p.2.1,h0 p.2.2]] (.tuple [.av (v.1.map h0) v.1.length .shared,h0 v.2]):=by
 unfold MQ at h;obtain ⟨⟨aS,bj⟩,ai,h⟩:=p8 h;refine qL eG ac8 rfl (Je (p6 (rM (fun _=>rfl) _ _ _) (p6 rfl rfl))) fun Q bp=>?_;have jJ:∀ T H,HV [.tmp 2,.tmp 3] (.tuple [.av (v.1.map h0) v.1.length .shared,h0 v.2]) .ret T H→Q .ret T H:=fun T H bE=>bp _ T H bE;unfold WH WI;obtain ⟨dV,Cr⟩:∃ c,OZ=c:=⟨_,rfl⟩;rw [Cr];conv=>whnf
 refine ⟨rfl,?_⟩;conv=>whnf
 rcases aS with _ | b
 ·refine ⟨_,_,aaP ai,?_⟩;conv=>whnf
  subst Cr;unfold OZ;refine bs h (fun af h=>?_) fun af h=>?_
  ·obtain ⟨b6,iP⟩:∃ c,NI=c:=⟨_,rfl⟩;rw [iP];rw [show I.int IntKind.i64 bj=h0 bj from rfl];(conv=>whnf);rw [af];(conv=>whnf);obtain rfl:=Option.some.inj h;exact jJ _ _ (Il rfl rfl)
  ·cases h
 ·obtain ⟨rfl,rfl,_⟩:=N3 ai;refine ⟨_,_,aaR ai,?_⟩;conv=>whnf
  obtain ⟨⟨Di,Mf⟩,h⟩:=rR h;obtain ⟨F,ao,h⟩:=p8 h;obtain rfl:=Option.some.inj h;subst Cr;unfold OZ;obtain ⟨b6,iP⟩:∃ c,NI=c:=⟨_,rfl⟩;rw [iP];conv=>whnf
  refine ⟨_,_,call9 (bs:=[lp (p,())]) rfl (p6 (Ia (p,())) rfl) (Sv (b:=(p,())) (v:=()) rfl),?_⟩;obtain ⟨bt,eS⟩:∃ c,gE.AM (.nc 26) [27] (rf Tryz.prog 24 0) (rh Tryz.prog 24 0)=c:=⟨_,rfl⟩;rw [eS];conv=>whnf
  subst eS;obtain ⟨Hq,Nf,K6,QL⟩:=OE ao;obtain ⟨rP,OK⟩:∃ rP:ar,rP=.loop .ready none 24 (qc 86 [(2,I.view (.av [] 0 (.uniq 1))),(3,h0 0),(4,.ptr 1 0),(5,h0 0),(6,.ptr 2 0),(23,B (decide ((0:Int)≠0))),(26,I.view (.func 70 [] [.bS [lp (p,())]]))]) [27] (rf Tryz.prog 24 0) (rh Tryz.prog 24 0) JM:=⟨_,rfl⟩;have kM:∀ c,rP≠.cells c:=fun c e=>by rw [OK] at e;cases e
  refine af2 (f:=Hh) (af8 (b:=(p,())) Mf Di) (Inv:=fun i H=>Good (p,()) rP (Hq i) H) (by exact rfl) ⟨fun i H rI=>⟨sD _,(sa.1 rI.l).1⟩,fun i H Z rI=>rI.more Z,fun i H j c dU rI aw ak=>rI.agc dU aw ak⟩ ?_ ?_ (rl:=none) (by exact rfl) ?_ ?_
  ·show Good _ _ (Hq 0) _;rw [Nf,OK];exact ⟨⟨[],0,rfl,fun e he=>absurd he (by simp)⟩,rfl,rfl,rfl,rfl⟩
  ·intro i hi H1 rI;rw [OK] at rI ⊢;exact af0 (Q_ Di _ (tO hi)) (by rw [ac0 _ (tO hi)];omega) (QL i hi) rI
  ·intro H' rI;rw [OK] at rI;exact rI.l
  ·intro H' rI;rw [K6] at rI;subst iP;exact agz rI jJ

end Go.Proofs.YtkoioidpbbbaiaaGreat.Ab


namespace Go.Proofs.YtkoioidpbbbaiaaGreat.Ab
open Go
set_option maxRecDepth 20000
set_option maxHeartbeats 1000000
def C9 (p:qb) (o:List Int) (i:Nat):Bool:=decide (Iq p o (1-i % 2)) && decide (JW p o (i % 2) i)
abbrev H6:=Nat→Bool
def NW (p:qb) (o:List Int) (i:Nat) (M:H6):H6:=fun s=>M s || (decide (s=(ix o (i:Int)).toNat) && C9 p o i)
def Kb (p:qb) (o:List Int) (M:H6):Nat→H6
 | 0=>M
 | k+1=>NW p o k (Kb p o M k)
def allM (p:qb):List (List Int)→H6→H6
 | [],M=>M
 | o::r,M=>allM p r (Kb p o M o.length)
def H7 (p:qb):H6:=allM p (rE p) fun _=>false
theorem V0 {p:qb} {o:List Int} {M:H6} {s:Nat}:∀ {k:Nat},Kb p o M k s=true↔M s=true∨∃ i,i<k∧s=(ix o (i:Int)).toNat∧C9 p o i=true
 | 0=>by simp [Kb]
 | k+1=>by
   unfold Kb NW;rw [Bool.or_eq_true,V0,sn,decide_eq_true_eq];constructor
   ·rintro ((h | ⟨i,ab,ae⟩) | h)
    ·exact .inl h
    ·exact .inr ⟨i,by omega,ae⟩
    ·exact .inr ⟨k,by omega,h⟩
   ·rintro (h | ⟨i,ab,ae⟩)
    ·exact .inl (.inl h)
    ·by_cases e:i=k
     ·subst e;exact .inr ae
     ·exact .inl (.inr ⟨i,by omega,ae⟩)
theorem S7 {p:qb} {s:Nat}:∀ {E:List (List Int)} {M:H6},allM p E M s=true↔M s=true∨∃ o∈E,∃ i,i<o.length∧s=(ix o (i:Int)).toNat∧C9 p o i=true
 | [],M=>by simp [allM]
 | o::r,M=>by
   unfold allM;rw [S7,V0];constructor
   ·rintro ((h | h) | ⟨cz,ab,ae⟩)
    ·exact .inl h
    ·exact .inr ⟨o,by simp,h⟩
    ·exact .inr ⟨cz,by simp [ab],ae⟩
   ·rintro (h | ⟨cz,ab,ae⟩)
    ·exact .inl (.inl h)
    ·rcases sA.1 ab with rfl | ab
     ·exact .inl (.inr ae)
     ·exact .inr ⟨cz,ab,ae⟩
theorem T2 {p:qb} {s:Nat}:H7 p s=true↔∃ o,qp p.1.length o∧∃ i,i<o.length∧s=(ix o (i:Int)).toNat∧C9 p o i=true:=by
 unfold H7;rw [S7];constructor
 ·rintro (h | ⟨o,ab,ae⟩)
  ·cases h
  ·exact ⟨o,Jt.1 ab,ae⟩
 ·rintro ⟨o,ab,ae⟩;exact .inr ⟨o,Jt.2 ab,ae⟩
theorem aaE {p:qb} {s:Nat} (h:H7 p s=true):s<p.1.length:=by
 obtain ⟨o,k,i,hi,rfl,_⟩:=T2.1 h;have:=Hw k i hi;omega
def L9 (p:qb):List Int:=(ql p.1.length).filter fun s=>H7 p s.toNat
def zY (M:H6):List Int:=(List.range 7).map fun s=>if M s=true then 1 else 0
theorem aej (M:H6):(zY M).length=7:=by simp [zY]
theorem VK (M:H6) {s:Nat} (h:s<7):ix (zY M) (s:Int)=if M s=true then 1 else 0:=by
 rw [rr (by rw [aej];exact h)];simp [zY]
theorem aek (M:H6) {v:Nat} (h:v<7):(zY M).set v 1=zY fun s=>M s || decide (s=v):=by
 apply List.ext_getElem (by simp [zY]);intro j ab ae;rw [List.getElem_set];simp only [zY,tK,List.getElem_range];by_cases e:v=j
 ·subst e;simp
 ·rw [if_neg e]
  have:decide (j=v)=false:=by simp;omega
  rw [this,vH]
section
variable {p:qb} {o:List Int}
theorem aaF (h:q7 p) (k:qp p.1.length o) {i:Nat} (hi:i<o.length) (M:H6):JO (p,()) o (zY M) (i:Int)=some (zY (NW p o i M)):=by
 have acp:=qp.Vo h k;have ai:=Hw k i hi;have aI:=k.1;obtain ⟨v,ad⟩:∃ v:Nat,ix o (i:Int)=(v:Int):=⟨(ix o (i:Int)).toNat,by omega⟩;have hu:NW p o i M=fun s=>M s || (decide (s=v) && C9 p o i):=by unfold NW;rw [ad];rfl
 rw [hu];unfold JO;rw [ad] at ai ⊢;rw [qC (by omega),VK M (by omega)];cases CA:M v with
 | true =>
   rw [if_pos (by simp)];congr 1;unfold zY;refine List.map_congr_left fun s _=>?_;by_cases e:s=v
   ·subst e;simp [CA]
   ·simp [e]
 | false =>
   rw [if_neg (by simp),NV];(have e1:w (1-((i % 2:Nat):Int))=((1-i % 2:Nat):Int):=by rw [qD (by omega)];omega);rw [e1,YA h k,sb];unfold C9;rcases Yz h k (a:=i % 2) hi with ⟨s,ab,ae,aF⟩ | ⟨ab,ae⟩
   ·rw [ab,sb,decide_eq_true (Ov.2 ⟨s,ae,aF⟩)];simp only [tt];by_cases aP:Iq p o (1-i % 2)
    ·rw [if_pos (decide_eq_true aP),decide_eq_true aP,tp,aek M (by omega)];simp only [tt]
    ·rw [if_neg (by simpa using aP),decide_eq_false aP];simp only [Bool.and_false,vH]
   ·rw [ab,sb,decide_eq_false ae];simp only [Bool.and_false,vH];rw [if_neg (by decide)]
theorem Uj (h:q7 p) (k:qp p.1.length o) (M:H6):∀ (m i:Nat),i≤o.length→o.length-i=m→Ir (JO (p,()) o) ((ql o.length).drop i) (zY (Kb p o M i))=some (zY (Kb p o M o.length))
 | 0,i,hi,hm=>by
   (obtain rfl:i=o.length:=by omega);rw [List.drop_of_length_le (by rw [KD];omega)];rfl
 | m+1,i,hi,hm=>by
   (have aR:i<o.length:=by omega);have e1:(ql o.length).drop i=(i:Int)::(ql o.length).drop (i+1):=by
    rw [s6 (by rw [KD];omega)];congr 1;rw [←rr,Q7 aR]
   rw [e1];show (JO (p,()) o (zY (Kb p o M i)) (i:Int)).bind (fun t=>Ir (JO (p,()) o) _ t)=_;rw [aaF h k aR,sb];exact Uj h k M m (i+1) (by omega) (by omega)
theorem aaG (h:q7 p) (k:qp p.1.length o) (M:H6):L_ (p,()) (zY M) o=some (zY (Kb p o M o.length)):=Uj h k M o.length 0 (by omega) rfl
theorem Ul (h:q7 p):∀ (E:List (List Int)) (M:H6),(∀ o∈E,qp p.1.length o)→Ir (L_ (p,())) E (zY M)=some (zY (allM p E M))
 | [],_,_=>rfl
 | o::r,M,HF=>by
   show (L_ (p,()) (zY M) o).bind (fun t=>Ir (L_ (p,())) r t)=_;rw [aaG h (HF o (by simp)),sb];exact Ul h r _ fun cz aX=>HF cz (by simp [aX])
theorem aav {p:qb} (h:q7 p):K0 (zY (H7 p))=(L9 p,0):=by
 have gb:(ql 7).filter (fun s=>decide (0<ix (zY (H7 p)) s))=(ql 7).filter fun s=>H7 p s.toNat:=by
  refine List.filter_congr fun s ah=>?_;have:=Rc.1 ah;obtain ⟨v,rfl⟩:∃ v:Nat,s=(v:Int):=⟨s.toNat,by omega⟩;rw [VK _ (by omega),tp];cases H7 p v <;> rfl
 have e1:(ql 7).filter (fun s=>H7 p s.toNat)=L9 p:=by
  unfold L9;have key:∀ r:List Int,(∀ s∈r,(p.1.length:Int)≤s)→r.filter (fun s=>H7 p s.toNat)=[]:=fun r ai=>by
   rw [List.filter_eq_nil_iff];intro s ah af;have:=aaE af;have:=ai s ah;omega
  rcases h.n with e | e | e
  ·rw [e,show ql 7=ql 3++[3,4,5,6] from rfl,t_,key [3,4,5,6] (by rw [e];decide),sM]
  ·rw [e,show ql 7=ql 5++[5,6] from rfl,t_,key [5,6] (by rw [e];decide),sM]
  ·rw [e]
 unfold K0;by_cases bk:zY (H7 p)=[0,0,0,0,0,0,0]
 ·rw [if_pos (decide_eq_true bk)];rw [bk] at gb;rw [←e1,←gb];rfl
 ·rw [if_neg (by simpa using bk),gb,e1]
theorem ahj (aB:p.1.length≤1000):MQ p=some (if rk p=0 then (L9 p,0) else ([],rk p)):=by
 unfold MQ;rw [Su aB,sb];by_cases h:rk p=0
 ·rw [if_pos h,if_pos h];have ad:=I6.1 h;have ao:=ad.len;simp only;rw [qC (show 0<p.1.length∧p.1.length≤7 by omega)];have e:Ir (L_ (p,())) (q4 p.1.length (ql p.1.length)) [0,0,0,0,0,0,0]=some (zY (H7 p)):=Ul ad (rE p) (fun _=>false) fun o aq=>Jt.1 aq;rw [e,sb,aav ad]
 ·rw [if_neg h,if_neg h];simp only;rw [if_pos (decide_eq_true h)]
end
end Go.Proofs.YtkoioidpbbbaiaaGreat.Ab


namespace Go.Proofs.YtkoioidpbbbaiaaGreat.Ab
open Go
set_option maxRecDepth 20000
set_option maxHeartbeats 4000000
noncomputable def PO:gE :=
 .loop (some (p' false [0,2,3,1,20])) (.seq (p2 [p3 11 5,p3 12 0,qW 13 12,qn 14 11 13 .lss] (.cond (.nc 14) .skip (.exit 0))) (.seq (.block 1 (.seq (ra [p3 17 0,p3 18 5,re 19 17 18 1,qh 20 19,p3 21 1,p3 22 5,re 23 21 22 1,qh 24 23,qn 25 20 24 .neq]) (.cond (.nc 25) (p2 [p0 4 [.cv (.bool false)] .mU] .ret) .skip))) (qO [p1 15 5,qV 16 15 1,p1 5 16])))
noncomputable def YX:gE :=
 p2 [p0 4 [.cv (.bool false)] .mU] (.seq (p2 [p3 6 0,qW 7 6,p3 8 1,qW 9 8,qn 10 7 9 .neq] (.cond (.nc 10) (p2 [p0 4 [.cv (.bool false)] .mU] .ret) .skip)) (.seq (p2 [qf 5 0] (.block 0 PO)) (p2 [p0 4 [.cv (.bool true)] .mU] .ret)))
theorem adF:qo Tryz.prog Qd 18=some (YX,26,[.tmp 4]):=by kernel_rfl
def N0 (a b:p9) (qa:Unit→Option Bool):Nat→Int→Option Bool
 | 0,_=>none
 | m+1,s1 =>
   if (decide (s1<(a.length:Int)))=true then
    qk (0≤s1∧s1<(a.length:Int)) <|
    qk (0≤s1∧s1<(b.length:Int)) <|
    if (decide ((ix a s1)≠(ix b s1)))=true then
     some false
    else
     N0 a b qa m (w (s1+(1:Int)))
   else
    qa ()
def LJ (a b:p9):Option Bool :=
 if (decide ((a.length:Int)≠(b.length:Int)))=true then
  some false
 else
  N0 a b (fun _ =>
    some true) qj (0:Int)
theorem ahd {a:p9} {b:p9} {qa:Unit→Option Bool} {s1:Int} {v:Bool} {Q:Hm}   (jJ:qI [.tmp 4] Q (fun v=>(B v)) v) (ri:∀ (qd:List I),qa ()=some v→rv 26 [] qd→Q (.exit 0) qd []) {T:List I} (b0:eZ (p' false [0,2,3,1,20]) T=qc 26 [(0,(qR a .shared)),(1,(qR b .shared)),(5,(h0 s1))]) (h:N0 a b qa qj s1=some v) :
  dQ Tryz.prog Qd 18 0 none PO T [] Q:=by
 unfold PO;refine wp_loop b0 ?_;refine .intro (fun m T H=>∃ (s1:Int),T=qc 26 [(0,(qR a .shared)),(1,(qR b .shared)),(5,(h0 s1))]∧H=[]∧N0 a b qa m s1=some v) qj ⟨s1,rfl,rfl,h⟩ ?_;clear h b0;rintro m T H ⟨s1,rfl,rfl,h⟩;cases m
 ·exact r0 h
 rename_i m;rw [N0.eq_2] at h;conv=>whnf
 refine bs h (fun gN h=>?_) fun gN h=>?_
 ·rw [gN];conv=>whnf
  refine qP h id fun qs h=>?_;rw [ru h0 a s1 qs];conv=>whnf
  refine qP h id fun qK h=>?_;rw [ru h0 b s1 qK];conv=>whnf
  refine bs h (fun qY h=>?_) fun qY h=>?_
  ·rw [qY];(conv=>whnf);exact p_ h jJ rfl rfl
  ·rw [qY];(conv=>whnf);exact ⟨m,sD m,(w (s1+(1:Int))),rfl,rfl,h⟩
 ·rw [gN];conv=>whnf
  exact ri  _ h ⟨rfl,rfl⟩
theorem Yd {a:p9} {b:p9} {v:Bool} (h:LJ a b=some v):qw 18 [(.av (a.map h0) a.length .shared),(.av (b.map h0) b.length .shared)] (B v):=by
 refine qL eG adF rfl rfl fun Q bp=>?_;have jJ:qI [.tmp 4] Q (fun v=>(B v)) v:=fun T H bE=>bp _ T H bE;unfold LJ at h;unfold YX;obtain ⟨HD,qE⟩:∃ c,PO=c:=⟨_,rfl⟩;rw [qE];conv=>whnf
 refine bs h (fun gM h=>?_) fun gM h=>?_
 ·rw [gM];conv=>whnf
  exact p_ h jJ rfl rfl
 ·rw [gM];conv=>whnf
  subst qE;refine ahd ?_ ?_ (by exact rfl) h
  ·exact fun T H bE=>jJ T H bE
  ·intro  qd h qz;obtain ⟨rB,rfl⟩:=qz.ex;(conv=>whnf);exact p_ h jJ rfl rfl

noncomputable def YZ:gE :=
 p2 [p0 2 [.jq 0] .box,qf 4 0,qf 5 0] (p2 [p0 9 [.Bs 2] (.zE (.str 3)),p1 10 1,p0 11 [.cv (.func 23 [] []),.nc 9,.nc 10] (.call 3),p1 8 11,qB 12 8 0,p0 13 [.Bs 8] (.ext 1),p1 6 12,p1 7 13] (p2 [p1 14 6,qW 15 14,p1 16 7,p1 4 15,p1 5 16] .ret))
theorem adH:qo Tryz.prog Ti 21=some (YZ,17,[.tmp 4,.tmp 5]):=by kernel_rfl
def MP (p:(qg×(Int×Int))) (order:p9):Option (Int×Int) :=
 (KK p order).bind fun aS =>
 some ((aS.1.length:Int),aS.2)
theorem ahh {p:(qg×(Int×Int))} {order:p9} {v:(Int×Int)} (h:MP p order=some v):qw 21 [(.agg [(.av (p.1.flatMap p7) p.1.length .shared),(h0 p.2.1),(h0 p.2.2)]),(.av (order.map h0) order.length .shared)] (.tuple [(h0 v.1),(h0 v.2)]):=by
 refine qL eG adH rfl (Je (p6 rfl (p6 rfl rfl))) fun Q bp=>?_;have jJ:qI [.tmp 4,.tmp 5] Q (fun v=>(.tuple [(h0 v.1),(h0 v.2)])) v:=fun T H bE=>bp _ T H bE;unfold MP at h;unfold YZ;conv=>whnf
 obtain ⟨aS,gM,h⟩:=p8 h;refine ⟨qi.pl,_,Yf gM,?_⟩;conv=>whnf
 exact p_ h jJ rfl rfl

def HA (x:(Int×Int)):List I:=[(h0 x.1),(h0 x.2)]
theorem L2 (x:(Int×Int)):(HA x).length=2:=rfl
instance {d:Nat} {x:(Int×Int)}:qi (d+1) (HA x):=⟨(inferInstance:qi (d+1) [(h0 x.1),(h0 x.2)]).pl⟩
noncomputable def P0:gE :=
 .loop (some (p' false [2,1,3,3,27])) (.seq (p2 [p3 13 8,qV 14 13 1,p3 15 2,qW 16 15,qn 17 14 16 .lss] (.cond (.nc 17) .skip (.exit 0))) (.seq (.block 1 (ra [p0 20 [.nc 7] (.yM 0),p0 21 [.Bs 20] .take,p3 22 2,p3 23 8,re 24 22 23 1,qh 25 24,p3 26 2,p3 27 8,qV 28 27 1,re 29 26 28 1,qh 30 29,p0 31 [.Bs 25,.Bs 30] (.build [.int .i64 0,.int .i64 0] [(0,1),(1,1)]),p0 32 [.Bs 31] (.yB 1 2 [.int .i64 0,.int .i64 0] [0]),p0 33 [.jq 21,.jq 32] (.app 2 16),p0 34 [.nc 7] (.yM 0),⟨none,[.jq 34,.jq 33],none,none,.st 1⟩])) (qO [p1 18 8,qV 19 18 2,p1 8 19])))
noncomputable def Zm:gE :=
 p2 [p0 6 [] (.alloc [.av [] 0 .full,.int .i64 0,.int .i64 0])] (p2 [p1 9 0,p1 10 1,p0 11 [.Bs 9,.Bs 10] (.build [.int .i64 0,.int .i64 0] [(0,1),(1,1)]),p0 12 [.Bs 11] (.build [.av [] 0 .full,.int .i64 0,.int .i64 0] [(1,2)]),p0 7 [] (.alloc [.av [] 0 .full,.int .i64 0,.int .i64 0]),⟨none,[.nc 7,.jq 12],none,none,.st 3⟩] (.seq (p2 [qf 8 0] (.block 0 P0)) (p2 [p0 35 [.Bs 7] (.zE (.str 3)),⟨none,[.nc 6,.jq 35],none,none,.st 3⟩] .ret)))
theorem ad5:qo Tryz.prog Ql 64=some (Zm,36,[.cell 6 (.str 3)]):=by kernel_rfl
def Ob (x:p9) (qa:qg→Option (qg×(Int×Int))):Nat→Int→qg→Option (qg×(Int×Int))
 | 0,_,_=>none
 | m+1,s1,s2 =>
   if (decide ((w (s1+(1:Int)))<(x.length:Int)))=true then
    qk (0≤s1∧s1<(x.length:Int)) <|
    qk (0≤(w (s1+(1:Int)))∧(w (s1+(1:Int)))<(x.length:Int)) <|
    qk ((s2.length+1)*16≤140737488355328) <|
    Ob x qa m (w (s1+(2:Int))) (s2++[((ix x s1),(ix x (w (s1+(1:Int)))))])
   else
    qa s2
def Oa (lo hi:Int) (x:p9):Option (qg×(Int×Int)) :=
 Ob x (fun yn =>
   some (yn,(lo,hi))) qj (0:Int) ([]:List (Int×Int))
theorem ahQ {x:p9} {qa:qg→Option (qg×(Int×Int))} {s1:Int} {s2:qg} {lo:Int} {hi:Int} {v:(qg×(Int×Int))} {Q:Hm}   {H8:hE} (ri:∀ (yn:qg) (qd:List I),qa yn=some v→rv 36 [(6,(.ptr 0 0)),(7,(.ptr 1 0))] qd→Q (.exit 0) qd [ar.cells [(.av [] 0 .full),(h0 (0:Int)),(h0 (0:Int))],ar.cells [(.av (yn.flatMap HA) yn.length .full),(h0 lo),(h0 hi)]]) (Q0:∀ (yn:qg) (qd:List I),qa yn=some v→rv 36 [(6,(.ptr 0 0)),(7,(.ptr 1 0))] qd→Q (.exit 0) qd [ar.cells [(.av [] 0 .full),(h0 (0:Int)),(h0 (0:Int))],ar.cells [(.av (yn.flatMap HA) yn.length (.own 2)),(h0 lo),(h0 hi)]]) (Lo:(H8=hE.full∨H8=(.own 2))) {T:List I} (b0:eZ (p' false [2,1,3,3,27]) T=qc 36 [(2,(qR x .shared)),(6,(.ptr 0 0)),(7,(.ptr 1 0)),(8,(h0 s1))]) (h:Ob x qa qj s1 s2=some v) :
  dQ Tryz.prog Ql 64 0 none P0 T [ar.cells [(.av [] 0 .full),(h0 (0:Int)),(h0 (0:Int))],ar.cells [(.av (s2.flatMap HA) s2.length H8),(h0 lo),(h0 hi)]] Q:=by
 unfold P0;refine wp_loop b0 ?_;refine .intro (fun m T H=>∃ (s1:Int) (s2:qg) (H8:hE),(H8=hE.full∨H8=(.own 2))∧T=qc 36 [(2,(qR x .shared)),(6,(.ptr 0 0)),(7,(.ptr 1 0)),(8,(h0 s1))]∧H=[ar.cells [(.av [] 0 .full),(h0 (0:Int)),(h0 (0:Int))],ar.cells [(.av (s2.flatMap HA) s2.length H8),(h0 lo),(h0 hi)]]∧Ob x qa m s1 s2=some v) qj ⟨s1,s2,_,Lo,rfl,rfl,h⟩ ?_;clear h b0;rintro m T H ⟨s1,s2,H8,Lo,rfl,rfl,h⟩;cases m
 ·exact r0 h
 rename_i m;rw [Ob.eq_2] at h;rcases Lo with rfl | rfl
 ·conv=>whnf
  refine bs h (fun gM h=>?_) fun gM h=>?_
  ·rw [gM];(conv=>whnf);refine qP h id fun gN h=>?_;rw [ru h0 x s1 gN];(conv=>whnf);refine qP h id fun qs h=>?_;rw [ru h0 x (w (s1+(1:Int))) qs];(conv=>whnf);obtain ⟨qK,h⟩:=rR h;refine ⟨by first | rfl | (simp;done) | exact HX HA _ L2 _,by have:=qK;omega,by decide,qK,by first | rfl | (simp;done) | exact HX HA _ L2 _,?_⟩
   erw [On HA s2 ((ix x s1),(ix x (w (s1+(1:Int)))))];(conv=>whnf);exact ⟨m,sD m,(w (s1+(2:Int))),(s2++[((ix x s1),(ix x (w (s1+(1:Int)))))]),_,(.inr rfl),rfl,rfl,h⟩
  ·rw [gM];(conv=>whnf);exact ri _ _ h ⟨rfl,rfl⟩
 ·conv=>whnf
  refine bs h (fun gM h=>?_) fun gM h=>?_
  ·rw [gM];(conv=>whnf);refine qP h id fun gN h=>?_;rw [ru h0 x s1 gN];(conv=>whnf);refine qP h id fun qs h=>?_;rw [ru h0 x (w (s1+(1:Int))) qs];(conv=>whnf);obtain ⟨qK,h⟩:=rR h;refine ⟨by first | rfl | (simp;done) | exact HX HA _ L2 _,by have:=qK;omega,rfl,qK,?_⟩
   erw [On HA s2 ((ix x s1),(ix x (w (s1+(1:Int)))))];(conv=>whnf);exact ⟨m,sD m,(w (s1+(2:Int))),(s2++[((ix x s1),(ix x (w (s1+(1:Int)))))]),_,(.inr rfl),rfl,rfl,h⟩
  ·rw [gM];(conv=>whnf);exact Q0 _ _ h ⟨rfl,rfl⟩
theorem SE {lo:Int} {hi:Int} {x:p9} {v:(qg×(Int×Int))} (h:Oa lo hi x=some v):qw 64 [(h0 lo),(h0 hi),(.av (x.map h0) x.length .shared)] (.agg [(.av (v.1.flatMap p7) v.1.length .shared),(h0 v.2.1),(h0 v.2.2)]):=by
 refine qL eG ad5 rfl (H0 (p6 (Hx (fun _=>(p6 rfl (p6 rfl rfl))) _ _ _) (p6 rfl (p6 rfl rfl)))) fun Q bp=>?_;have jJ:qI [.cell 6 (.str 3)] Q (fun v=>(.agg [(q2 v.1 .shared),(h0 v.2.1),(h0 v.2.2)])) v:=fun T H bE=>bp _ T H bE;unfold Oa at h;unfold Zm;obtain ⟨HD,qE⟩:∃ c,P0=c:=⟨_,rfl⟩;rw [qE];conv=>whnf
 subst qE;refine ahQ ?_ ?_ (.inl rfl) (by exact rfl) h
 ·intro yn qd h qz;obtain ⟨rB,rfl⟩:=qz.ex;conv=>whnf
  exact p_ h jJ rfl rfl
 ·intro yn qd h qz;obtain ⟨rB,rfl⟩:=qz.ex;conv=>whnf
  exact p_ h jJ rfl rfl

noncomputable def Y7:gE :=
 p2 [p0 0 [] (.alloc [.av [] 0 .full,.int .i64 0,.int .i64 0])] (p2 [p0 1 [.cv (.int .i64 10),.cv (.int .i64 1),.cv (.int .i64 5),.cv (.int .i64 0),.cv (.int .i64 10),.cv (.int .i64 1)] (.yB 6 1 [.int .i64 0] [0,1,2,3,4,5]),p0 2 [.cv (.func 64 [] []),.cv (.int .i64 0),.cv (.int .i64 4),.nc 1] (.call 3),⟨none,[.nc 0,.jq 2],none,none,.st 3⟩] .ret)
theorem adO:qo Tryz.prog Tp 33=some (Y7,3,[.cell 0 (.str 3)]):=by kernel_rfl
def Pz  : Option (qg×(Int×Int)) :=
 (Oa (0:Int) (4:Int) [(10:Int),(1:Int),(5:Int),(0:Int),(10:Int),(1:Int)]).bind fun aS =>
 some aS
theorem aho  {v:(qg×(Int×Int))} (h:Pz  = some v):qw 33 [] (.agg [(.av (v.1.flatMap p7) v.1.length .shared),(h0 v.2.1),(h0 v.2.2)]):=by
 refine qL eG adO rfl (H0 (p6 (Hx (fun _=>(p6 rfl (p6 rfl rfl))) _ _ _) (p6 rfl (p6 rfl rfl)))) fun Q bp=>?_;have jJ:qI [.cell 0 (.str 3)] Q (fun v=>(.agg [(q2 v.1 .shared),(h0 v.2.1),(h0 v.2.2)])) v:=fun T H bE=>bp _ T H bE;unfold Pz at h;unfold Y7;conv=>whnf
 obtain ⟨aS,gM,h⟩:=p8 h;refine ⟨(p6 rfl (p6 rfl (p6 rfl rfl))),_,SE gM,?_⟩;conv=>whnf
 exact p_ h jJ rfl rfl

noncomputable def Y8:gE :=
 p2 [p0 0 [] (.alloc [.av [] 0 .full,.int .i64 0,.int .i64 0])] (p2 [p0 1 [.cv (.int .i64 3),.cv (.int .i64 0),.cv (.int .i64 5),.cv (.int .i64 0),.cv (.int .i64 8),.cv (.int .i64 0)] (.yB 6 1 [.int .i64 0] [0,1,2,3,4,5]),p0 2 [.cv (.func 64 [] []),.cv (.int .i64 0),.cv (.int .i64 0),.nc 1] (.call 3),⟨none,[.nc 0,.jq 2],none,none,.st 3⟩] .ret)
theorem adP:qo Tryz.prog Tq 34=some (Y8,3,[.cell 0 (.str 3)]):=by kernel_rfl
def PA  : Option (qg×(Int×Int)) :=
 (Oa (0:Int) (0:Int) [(3:Int),(0:Int),(5:Int),(0:Int),(8:Int),(0:Int)]).bind fun aS =>
 some aS
theorem ahq  {v:(qg×(Int×Int))} (h:PA  = some v):qw 34 [] (.agg [(.av (v.1.flatMap p7) v.1.length .shared),(h0 v.2.1),(h0 v.2.2)]):=by
 refine qL eG adP rfl (H0 (p6 (Hx (fun _=>(p6 rfl (p6 rfl rfl))) _ _ _) (p6 rfl (p6 rfl rfl)))) fun Q bp=>?_;have jJ:qI [.cell 0 (.str 3)] Q (fun v=>(.agg [(q2 v.1 .shared),(h0 v.2.1),(h0 v.2.2)])) v:=fun T H bE=>bp _ T H bE;unfold PA at h;unfold Y8;conv=>whnf
 obtain ⟨aS,gM,h⟩:=p8 h;refine ⟨(p6 rfl (p6 rfl (p6 rfl rfl))),_,SE gM,?_⟩;conv=>whnf
 exact p_ h jJ rfl rfl

noncomputable def Y9:gE :=
 p2 [p0 0 [] (.alloc [.av [] 0 .full,.int .i64 0,.int .i64 0])] (p2 [p0 1 [.cv (.int .i64 4),.cv (.int .i64 0),.cv (.int .i64 6),.cv (.int .i64 0),.cv (.int .i64 1),.cv (.int .i64 0),.cv (.int .i64 6),.cv (.int .i64 0),.cv (.int .i64 4),.cv (.int .i64 0)] (.yB 10 1 [.int .i64 0] [0,1,2,3,4,5,6,7,8,9]),p0 2 [.cv (.func 64 [] []),.cv (.int .i64 0),.cv (.int .i64 9),.nc 1] (.call 3),⟨none,[.nc 0,.jq 2],none,none,.st 3⟩] .ret)
theorem adQ:qo Tryz.prog Tr 35=some (Y9,3,[.cell 0 (.str 3)]):=by kernel_rfl
def PB  : Option (qg×(Int×Int)) :=
 (Oa (0:Int) (9:Int) [(4:Int),(0:Int),(6:Int),(0:Int),(1:Int),(0:Int),(6:Int),(0:Int),(4:Int),(0:Int)]).bind fun aS =>
 some aS
theorem ahs  {v:(qg×(Int×Int))} (h:PB  = some v):qw 35 [] (.agg [(.av (v.1.flatMap p7) v.1.length .shared),(h0 v.2.1),(h0 v.2.2)]):=by
 refine qL eG adQ rfl (H0 (p6 (Hx (fun _=>(p6 rfl (p6 rfl rfl))) _ _ _) (p6 rfl (p6 rfl rfl)))) fun Q bp=>?_;have jJ:qI [.cell 0 (.str 3)] Q (fun v=>(.agg [(q2 v.1 .shared),(h0 v.2.1),(h0 v.2.2)])) v:=fun T H bE=>bp _ T H bE;unfold PB at h;unfold Y9;conv=>whnf
 obtain ⟨aS,gM,h⟩:=p8 h;refine ⟨(p6 rfl (p6 rfl (p6 rfl rfl))),_,SE gM,?_⟩;conv=>whnf
 exact p_ h jJ rfl rfl

noncomputable def Y_:gE :=
 p2 [p0 2 [.cv (.av [] 0 .full)] (.nil 1)] (p2 [p1 3 0,p1 2 3] .ret)
theorem adR:qo Tryz.prog Ts 36=some (Y_,4,[.tmp 2]):=by kernel_rfl
def Ix (x:p9):Option p9 :=
 some x
theorem Jh {x:p9} {v:p9} (h:Ix x=some v):qw 36 [(.av (x.map h0) x.length .shared)] (.av (v.map h0) v.length .shared):=by
 refine qL eG adR rfl (rM (fun _=>rfl) _ _ _) fun Q bp=>?_;have jJ:qI [.tmp 2] Q (fun v=>(qR v .shared)) v:=fun T H bE=>bp _ T H bE;unfold Ix at h;unfold Y_;conv=>whnf
 exact p_ h jJ rfl rfl

noncomputable def Y':gE :=
 p2 [p0 2 [.cv (.av [] 0 .full)] (.nil 3)] (p2 [p1 3 0,p1 2 3] .ret)
theorem adS:qo Tryz.prog Tt 37=some (Y',4,[.tmp 2]):=by kernel_rfl
def MU (x:(List (Int×(Int×Int)))):Option (List (Int×(Int×Int))) :=
 some x
theorem Ss {x:(List (Int×(Int×Int)))} {v:(List (Int×(Int×Int)))} (h:MU x=some v):qw 37 [(.av (x.flatMap qq) x.length .shared)] (.av (v.flatMap qq) v.length .shared):=by
 refine qL eG adS rfl (Hx (fun _=>(p6 rfl (p6 rfl (p6 rfl rfl)))) _ _ _) fun Q bp=>?_;have jJ:qI [.tmp 2] Q (fun v=>(.av (v.flatMap qq) v.length .shared)) v:=fun T H bE=>bp _ T H bE;unfold MU at h;unfold Y';conv=>whnf
 exact p_ h jJ rfl rfl

noncomputable def Za:gE :=
 p2 [p0 6 [] (.alloc [.int .i64 0,.int .i64 0,.int .i64 0])] (p2 [p1 7 0,p1 8 1,p1 9 2,p0 10 [.Bs 8,.Bs 9] (.build [.int .i64 0,.int .i64 0] [(0,1),(1,1)]),p0 11 [.Bs 7,.Bs 10] (.build [.int .i64 0,.int .i64 0,.int .i64 0] [(0,1),(1,2)]),⟨none,[.nc 6,.jq 11],none,none,.st 3⟩] .ret)
theorem adT:qo Tryz.prog Tu 38=some (Za,12,[.cell 6 (.str 3)]):=by kernel_rfl
def MV (Pk pull more:Int):Option (Int×(Int×Int)) :=
 some (Pk,(pull,more))
theorem St {Pk:Int} {pull:Int} {more:Int} {v:(Int×(Int×Int))} (h:MV Pk pull more=some v):qw 38 [(h0 Pk),(h0 pull),(h0 more)] (.agg [(h0 v.1),(h0 v.2.1),(h0 v.2.2)]):=by
 refine qL eG adT rfl (H0 (p6 rfl (p6 rfl (p6 rfl rfl)))) fun Q bp=>?_;have jJ:qI [.cell 6 (.str 3)] Q (fun v=>(.agg [(h0 v.1),(h0 v.2.1),(h0 v.2.2)])) v:=fun T H bE=>bp _ T H bE;unfold MV at h;unfold Za;conv=>whnf
 exact p_ h jJ rfl rfl
end Go.Proofs.YtkoioidpbbbaiaaGreat.Ab


namespace Go.Proofs.YtkoioidpbbbaiaaGreat.Ab
open Go
set_option maxRecDepth 100000
set_option maxHeartbeats 4000000
noncomputable def YV:gE :=
 p2 [p0 0 [.cv (.bool false)] .mU] (p2 [p0 34 [.cv (.func 33 [] [])] (.call 3),p0 35 [.cv (.func 34 [] [])] (.call 3),p0 36 [.cv (.func 35 [] [])] (.call 3),p0 1 [] (.alloc [.av [] 0 .full,.int .i64 0,.int .i64 0]),p0 2 [] (.alloc [.av [] 0 .full,.int .i64 0,.int .i64 0]),p0 3 [] (.alloc [.av [] 0 .full,.int .i64 0,.int .i64 0]),⟨none,[.nc 1,.jq 34],none,none,.st 3⟩,⟨none,[.nc 2,.jq 35],none,none,.st 3⟩,⟨none,[.nc 3,.jq 36],none,none,.st 3⟩] (.seq (ra [p0 38 [.nc 3] (.zE (.str 3)),p0 39 [.cv (.int .i64 1),.cv (.int .i64 0),.cv (.int .i64 2),.cv (.int .i64 3),.cv (.int .i64 4)] (.yB 5 1 [.int .i64 0] [0,1,2,3,4]),p0 40 [.cv (.func 36 [] []),.nc 39] (.call 3),p0 41 [.cv (.func 30 [] []),.nc 38,.nc 40,.cv (.int .i64 0)] (.call 3),p1 37 41,qB 42 37 0,qB 43 37 1,qB 44 37 2,p1 4 42,p1 5 43,p1 6 44]) (.seq (ra [p0 46 [.nc 1] (.zE (.str 3)),p0 47 [.cv (.int .i64 1),.cv (.int .i64 0),.cv (.int .i64 2)] (.yB 3 1 [.int .i64 0] [0,1,2]),p0 48 [.cv (.func 36 [] []),.nc 47] (.call 3),p0 49 [.cv (.func 30 [] []),.nc 46,.nc 48,.cv (.int .i64 5)] (.call 3),p1 45 49,qB 50 45 0,qB 51 45 1,qB 52 45 2,p1 7 50,p1 8 51,p1 9 52]) (.seq (ra [p0 54 [.nc 1] (.zE (.str 3)),p0 55 [.cv (.int .i64 1),.cv (.int .i64 0),.cv (.int .i64 2)] (.yB 3 1 [.int .i64 0] [0,1,2]),p0 56 [.cv (.func 36 [] []),.nc 55] (.call 3),p0 57 [.cv (.func 29 [] []),.nc 54,.nc 56] (.call 3),p1 53 57,qB 58 53 0,qB 59 53 1,p1 10 58,p1 11 59]) (.seq (ra [p0 61 [.Bs 1] (.zE (.str 3)),p0 62 [.cv (.int .i64 0),.cv (.int .i64 1),.cv (.int .i64 1)] (.yB 3 1 [.int .i64 0] [0,1,2]),p0 63 [.cv (.func 36 [] []),.nc 62] (.call 3),p0 64 [.cv (.func 29 [] []),.nc 61,.nc 63] (.call 3),p1 60 64,qB 65 60 0,qB 66 60 1,p1 12 65,p1 13 66]) (p2 [p0 68 [.nc 2] (.zE (.str 3)),p0 69 [.cv (.func 12 [] []),.nc 68] (.call 3),p1 67 69,qB 70 67 0,p0 71 [.Bs 67] (.ext 1),p1 14 70,p1 15 71] (p2 [p0 73 [.nc 2] (.zE (.str 3)),p0 74 [.cv (.func 14 [] []),.nc 73] (.call 3),p1 72 74,qB 75 72 0,p0 76 [.Bs 72] (.ext 1),p1 16 75,p1 17 76] (p2 [p0 78 [.nc 3] (.zE (.str 3)),p0 79 [.cv (.func 16 [] []),.nc 78] (.call 3),p1 77 79,qB 80 77 0,p0 81 [.Bs 77] (.ext 1),p1 18 80,p1 19 81] (.seq (ra [p0 83 [.nc 2] (.zE (.str 3)),p0 84 [.cv (.int .i64 0),.cv (.int .i64 2),.cv (.int .i64 1)] (.yB 3 1 [.int .i64 0] [0,1,2]),p0 85 [.cv (.func 36 [] []),.nc 84] (.call 3),p0 86 [.cv (.func 38 [] []),.cv (.int .i64 0),.cv (.int .i64 5),.cv (.int .i64 0)] (.call 3),p0 87 [.Bs 86] (.yB 1 3 [.int .i64 0,.int .i64 0,.int .i64 0] [0]),p0 88 [.cv (.func 37 [] []),.nc 87] (.call 3),p0 89 [.cv (.func 19 [] []),.nc 83,.nc 85,.nc 88] (.call 3),p1 82 89,qB 90 82 0,qB 91 82 1,p1 20 90,p1 21 91]) (.seq (ra [p0 93 [.nc 2] (.zE (.str 3)),p0 94 [.cv (.int .i64 0),.cv (.int .i64 2),.cv (.int .i64 1)] (.yB 3 1 [.int .i64 0] [0,1,2]),p0 95 [.cv (.func 36 [] []),.nc 94] (.call 3),p0 96 [.cv (.func 38 [] []),.cv (.int .i64 2),.cv (.int .i64 1),.cv (.int .i64 0)] (.call 3),p0 97 [.Bs 96] (.yB 1 3 [.int .i64 0,.int .i64 0,.int .i64 0] [0]),p0 98 [.cv (.func 37 [] []),.nc 97] (.call 3),p0 99 [.cv (.func 19 [] []),.nc 93,.nc 95,.nc 98] (.call 3),p1 92 99,qB 100 92 0,qB 101 92 1,p1 22 100,p1 23 101]) (.seq (ra [p0 103 [.nc 2] (.zE (.str 3)),p0 104 [.cv (.int .i64 0),.cv (.int .i64 2),.cv (.int .i64 1)] (.yB 3 1 [.int .i64 0] [0,1,2]),p0 105 [.cv (.func 36 [] []),.nc 104] (.call 3),p0 106 [.cv (.func 38 [] []),.cv (.int .i64 0),.cv (.int .i64 101),.cv (.int .i64 0)] (.call 3),p0 107 [.Bs 106] (.yB 1 3 [.int .i64 0,.int .i64 0,.int .i64 0] [0]),p0 108 [.cv (.func 37 [] []),.nc 107] (.call 3),p0 109 [.cv (.func 19 [] []),.nc 103,.nc 105,.nc 108] (.call 3),p1 102 109,qB 110 102 0,qB 111 102 1,p1 24 110,p1 25 111]) (.seq (ra [p0 113 [.Bs 3] (.zE (.str 3)),p0 114 [.cv (.int .i64 1),.cv (.int .i64 0),.cv (.int .i64 2),.cv (.int .i64 3),.cv (.int .i64 4)] (.yB 5 1 [.int .i64 0] [0,1,2,3,4]),p0 115 [.cv (.func 36 [] []),.nc 114] (.call 3),p0 116 [.cv (.func 21 [] []),.nc 113,.nc 115] (.call 3),p1 112 116,qB 117 112 0,qB 118 112 1,p1 26 117,p1 27 118]) (.seq (ra [p0 120 [.nc 2] (.zE (.str 3)),p0 121 [.cv (.int .i64 0),.cv (.int .i64 2),.cv (.int .i64 1)] (.yB 3 1 [.int .i64 0] [0,1,2]),p0 122 [.cv (.func 36 [] []),.nc 121] (.call 3),p0 123 [.cv (.func 23 [] []),.nc 120,.nc 122] (.call 3),p1 119 123,qB 124 119 0,qB 125 119 1,p1 28 124,p1 29 125]) (p2 [p0 127 [.nc 2] (.zE (.str 3)),p0 128 [.cv (.func 24 [] []),.nc 127] (.call 3),p1 126 128,qB 129 126 0,p0 130 [.Bs 126] (.ext 1),p1 30 129,p1 31 130] (.seq (p2 [p1 131 6,qy 132 131 0 .neq,p1 133 132,cl 134 [.jq 9] 133 false .mU,cl 135 [.Bs 134,.cv (.int .i64 3)] 133 false (.bin .neq),p0 136 [.Bs 133,.cv (.bool true),.Bs 135] .pick,p1 137 136,cl 138 [.jq 11] 137 false .mU,cl 139 [.Bs 138,.cv (.int .i64 0)] 137 false (.bin .neq),p0 140 [.Bs 137,.cv (.bool true),.Bs 139] .pick,p1 141 140,cl 142 [.jq 13] 141 false .mU,cl 143 [.Bs 142,.cv (.int .i64 16)] 141 false (.bin .neq),p0 144 [.Bs 141,.cv (.bool true),.Bs 143] .pick,p1 145 144,cl 146 [.jq 15] 145 false .mU,cl 147 [.Bs 146,.cv (.int .i64 0)] 145 false (.bin .neq),p0 148 [.Bs 145,.cv (.bool true),.Bs 147] .pick,p1 149 148,cl 150 [.jq 17] 149 false .mU,cl 151 [.Bs 150,.cv (.int .i64 0)] 149 false (.bin .neq),p0 152 [.Bs 149,.cv (.bool true),.Bs 151] .pick,p1 153 152,cl 154 [.jq 19] 153 false .mU,cl 155 [.Bs 154,.cv (.int .i64 0)] 153 false (.bin .neq),p0 156 [.Bs 153,.cv (.bool true),.Bs 155] .pick,p1 157 156,cl 158 [.jq 21] 157 false .mU,cl 159 [.Bs 158,.cv (.int .i64 0)] 157 false (.bin .neq),p0 160 [.Bs 157,.cv (.bool true),.Bs 159] .pick,p1 161 160,cl 162 [.jq 23] 161 false .mU,cl 163 [.Bs 162,.cv (.int .i64 23)] 161 false (.bin .neq),p0 164 [.Bs 161,.cv (.bool true),.Bs 163] .pick,p1 165 164,cl 166 [.jq 25] 165 false .mU,cl 167 [.Bs 166,.cv (.int .i64 3)] 165 false (.bin .neq),p0 168 [.Bs 165,.cv (.bool true),.Bs 167] .pick,p1 169 168,cl 170 [.jq 27] 169 false .mU,cl 171 [.Bs 170,.cv (.int .i64 0)] 169 false (.bin .neq),p0 172 [.Bs 169,.cv (.bool true),.Bs 171] .pick,p1 173 172,cl 174 [.jq 29] 173 false .mU,cl 175 [.Bs 174,.cv (.int .i64 0)] 173 false (.bin .neq),p0 176 [.Bs 173,.cv (.bool true),.Bs 175] .pick,p1 177 176,cl 178 [.jq 31] 177 false .mU,cl 179 [.Bs 178,.cv (.int .i64 0)] 177 false (.bin .neq),p0 180 [.Bs 177,.cv (.bool true),.Bs 179] .pick] (.cond (.nc 180) (p2 [p0 0 [.cv (.bool false)] .mU] .ret) .skip)) (.seq (ra [p0 182 [.Bs 2] (.zE (.str 3)),p0 183 [.cv (.int .i64 0),.cv (.int .i64 2),.cv (.int .i64 1)] (.yB 3 1 [.int .i64 0] [0,1,2]),p0 184 [.cv (.func 36 [] []),.nc 183] (.call 3),p1 185 28,p0 186 [.cv (.func 20 [] []),.nc 182,.nc 184,.nc 185] (.call 3),p1 181 186,qB 187 181 0,qB 188 181 1,p1 32 187,p1 33 188]) (p2 [p1 189 4,qy 190 189 (-4) .eql,p1 191 190,cl 192 [.jq 5] 191 true .mU,cl 193 [.Bs 192,.cv (.int .i64 2)] 191 true (.bin .eql),p0 194 [.Bs 191,.Bs 193,.cv (.bool false)] .pick,p1 195 194,cl 196 [.jq 10] 195 true .mU,cl 197 [.Bs 196,.cv (.int .i64 9)] 195 true (.bin .eql),p0 198 [.Bs 195,.Bs 197,.cv (.bool false)] .pick,p1 199 198,cl 200 [.jq 14] 199 true .mU,cl 201 [.Bs 200,.cv (.int .i64 2)] 199 true (.bin .eql),p0 202 [.Bs 199,.Bs 201,.cv (.bool false)] .pick,p1 203 202,cl 204 [.jq 16] 203 true .mU,⟨some 205,[.cv (.int .i64 0),.cv (.int .i64 2),.cv (.int .i64 1)],some (203,true),none,.yB 3 1 [.int .i64 0] [0,1,2]⟩,⟨some 206,[.cv (.func 36 [] []),.nc 205],some (203,true),none,.call 3⟩,⟨some 207,[.cv (.func 18 [] []),.nc 204,.nc 206],some (203,true),none,.call 3⟩,p0 208 [.Bs 203,.Bs 207,.cv (.bool false)] .pick,p1 209 208,cl 210 [.jq 18] 209 true .mU,cl 211 [.Bs 210,.cv (.int .i64 8)] 209 true (.bin .eql),p0 212 [.Bs 209,.Bs 211,.cv (.bool false)] .pick,p1 213 212,cl 214 [.jq 20] 213 true .mU,cl 215 [.Bs 214,.cv (.int .i64 1)] 213 true (.bin .eql),p0 216 [.Bs 213,.Bs 215,.cv (.bool false)] .pick,p1 217 216,cl 218 [.jq 26] 217 true .mU,cl 219 [.Bs 218,.cv (.int .i64 2)] 217 true (.bin .eql),p0 220 [.Bs 217,.Bs 219,.cv (.bool false)] .pick,p1 221 220,cl 222 [.jq 33] 221 true .mU,cl 223 [.Bs 222,.cv (.int .i64 0)] 221 true (.bin .eql),p0 224 [.Bs 221,.Bs 223,.cv (.bool false)] .pick,p1 225 224,cl 226 [.jq 32] 225 true .mU,cl 227 [.Bs 226,.cv (.int .i64 1)] 225 true (.bin .eql),p0 228 [.Bs 225,.Bs 227,.cv (.bool false)] .pick,p1 229 228,cl 230 [.jq 30] 229 true .mU,⟨some 231,[.cv (.int .i64 0),.cv (.int .i64 1),.cv (.int .i64 2)],some (229,true),none,.yB 3 1 [.int .i64 0] [0,1,2]⟩,⟨some 232,[.cv (.func 36 [] []),.nc 231],some (229,true),none,.call 3⟩,⟨some 233,[.cv (.func 18 [] []),.nc 230,.nc 232],some (229,true),none,.call 3⟩,p0 234 [.Bs 229,.Bs 233,.cv (.bool false)] .pick,p1 0 234] .ret)))))))))))))))))
theorem adD:qo Tryz.prog Tb 11=some (YV,235,[.tmp 0]):=by kernel_rfl
def H3  : Option Bool :=
 (Pz).bind fun aS =>
 (PA).bind fun bj =>
 (PB).bind fun eK =>
 (Ix [(1:Int),(0:Int),(2:Int),(3:Int),(4:Int)]).bind fun q5 =>
 (Jg eK q5 (0:Int)).bind fun q8 =>
 (Ix [(1:Int),(0:Int),(2:Int)]).bind fun rm =>
 (Jg aS rm (5:Int)).bind fun rZ =>
 (Ix [(1:Int),(0:Int),(2:Int)]).bind fun rO =>
 (Iw aS rO).bind fun HH =>
 (Ix [(0:Int),(1:Int),(1:Int)]).bind fun IY =>
 (Iw aS IY).bind fun Jv =>
 (KH bj).bind fun Jw =>
 (Kh bj).bind fun Lw =>
 (KI eK).bind fun Lx =>
 (Ix [(0:Int),(2:Int),(1:Int)]).bind fun Mx =>
 (MV (0:Int) (5:Int) (0:Int)).bind fun My =>
 (MU [My]).bind fun Mz =>
 (JE bj Mx Mz).bind fun NC =>
 (Ix [(0:Int),(2:Int),(1:Int)]).bind fun Rh =>
 (MV (2:Int) (1:Int) (0:Int)).bind fun Ri =>
 (MU [Ri]).bind fun Rj =>
 (JE bj Rh Rj).bind fun Rk =>
 (Ix [(0:Int),(2:Int),(1:Int)]).bind fun ND =>
 (MV (0:Int) (101:Int) (0:Int)).bind fun Wc =>
 (MU [Wc]).bind fun Wd =>
 (JE bj ND Wd).bind fun We =>
 (Ix [(1:Int),(0:Int),(2:Int),(3:Int),(4:Int)]).bind fun Wf =>
 (MP eK Wf).bind fun Rl =>
 (Ix [(0:Int),(2:Int),(1:Int)]).bind fun Wg =>
 (KK bj Wg).bind fun Rm =>
 (MQ bj).bind fun Rn =>
 if (decide (q8.2.2≠(0:Int)))=true then
  some false
 else
  if (decide (rZ.2.2≠(3:Int)))=true then
   some false
  else
   if (decide (HH.2≠(0:Int)))=true then
    some false
   else
    if (decide (Jv.2≠(16:Int)))=true then
     some false
    else
     if (decide (Jw.2≠(0:Int)))=true then
      some false
     else
      if (decide (Lw.2≠(0:Int)))=true then
       some false
      else
       if (decide (Lx.2≠(0:Int)))=true then
        some false
       else
        if (decide (NC.2≠(0:Int)))=true then
         some false
        else
         if (decide (Rk.2≠(23:Int)))=true then
          some false
         else
          if (decide (We.2≠(3:Int)))=true then
           some false
          else
           if (decide (Rl.2≠(0:Int)))=true then
            some false
           else
            if (decide (Rm.2≠(0:Int)))=true then
             some false
            else
             if (decide (Rn.2≠(0:Int)))=true then
              some false
             else
              (Ix [(0:Int),(2:Int),(1:Int)]).bind fun Wh =>
              (KJ bj Wh Rm.1).bind fun Ro =>
              if (decide (q8.1=(-4:Int)))=true then
               if (decide (q8.2.1=(2:Int)))=true then
                if (decide (HH.1=(9:Int)))=true then
                 if (decide (Jw.1=(2:Int)))=true then
                  (Ix [(0:Int),(2:Int),(1:Int)]).bind fun Wi =>
                  (LJ Lw.1 Wi).bind fun Rp =>
                  if Rp=true then
                   if (decide (Lx.1=(8:Int)))=true then
                    if (decide (NC.1=(1:Int)))=true then
                     if (decide (Rl.1=(2:Int)))=true then
                      if (decide (Ro.2=(0:Int)))=true then
                       if (decide (Ro.1=(1:Int)))=true then
                        (Ix [(0:Int),(1:Int),(2:Int)]).bind fun Wj =>
                        (LJ Rn.1 Wj).bind fun Wk =>
                        some Wk
                       else
                        some false
                      else
                       some false
                     else
                      some false
                    else
                     some false
                   else
                    some false
                  else
                   some false
                 else
                  some false
                else
                 some false
               else
                some false
              else
               some false
theorem Kg  {v:Bool} (h:H3  = some v):qw 11 [] (B v):=by
 refine qL eG adD rfl rfl fun Q bp=>?_;have jJ:qI [.tmp 0] Q (fun v=>(B v)) v:=fun T H bE=>bp _ T H bE;unfold H3 at h;unfold YV;conv=>whnf
 obtain ⟨aS,gM,h⟩:=p8 h;refine ⟨rfl,_,aho gM,?_⟩;conv=>whnf
 obtain ⟨bj,gN,h⟩:=p8 h;refine ⟨rfl,_,ahq gN,?_⟩;conv=>whnf
 obtain ⟨eK,qs,h⟩:=p8 h;refine ⟨rfl,_,ahs qs,?_⟩;conv=>whnf
 obtain ⟨q5,qK,h⟩:=p8 h;refine ⟨(p6 rfl rfl),_,Jh qK,Hg,?_⟩;conv=>whnf
 obtain ⟨q8,qY,h⟩:=p8 h;refine ⟨qi.pl,_,N2 qY,Ii rfl,?_⟩;conv=>whnf
 obtain ⟨rm,rn,h⟩:=p8 h;refine ⟨(p6 rfl rfl),_,Jh rn,Hg,?_⟩;conv=>whnf
 obtain ⟨rZ,qS,h⟩:=p8 h;refine ⟨qi.pl,_,N2 qS,Ii rfl,?_⟩;conv=>whnf
 obtain ⟨rO,ry,h⟩:=p8 h;refine ⟨(p6 rfl rfl),_,Jh ry,Hg,?_⟩;conv=>whnf
 obtain ⟨HH,q_,h⟩:=p8 h;refine ⟨qi.pl,_,JF q_,Ii rfl,?_⟩;conv=>whnf
 obtain ⟨IY,r2,h⟩:=p8 h;refine ⟨(p6 rfl rfl),_,Jh r2,Hg,?_⟩;conv=>whnf
 obtain ⟨Jv,I_,h⟩:=p8 h;refine ⟨qi.pl,_,JF I_,Ii rfl,?_⟩;conv=>whnf
 obtain ⟨Jw,IQ,h⟩:=p8 h;refine ⟨qi.pl,_,X' IQ,?_⟩;conv=>whnf
 obtain ⟨Lw,I',h⟩:=p8 h;refine ⟨qi.pl,_,Sj I',?_⟩;conv=>whnf
 obtain ⟨Lx,J0,h⟩:=p8 h;refine ⟨qi.pl,_,Yc J0,?_⟩;conv=>whnf
 obtain ⟨Mx,IU,h⟩:=p8 h;refine ⟨(p6 rfl rfl),_,Jh IU,Hg,?_⟩;conv=>whnf
 obtain ⟨My,J1,h⟩:=p8 h;refine ⟨(p6 rfl (p6 rfl (p6 rfl rfl))),_,St J1,Ii rfl,?_⟩;conv=>whnf
 obtain ⟨Mz,J2,h⟩:=p8 h;refine ⟨(p6 rfl rfl),_,Ss J2,Ii rfl,?_⟩;conv=>whnf
 obtain ⟨NC,J3,h⟩:=p8 h;refine ⟨qi.pl,_,Sn J3,Ii rfl,?_⟩;conv=>whnf
 obtain ⟨Rh,J4,h⟩:=p8 h;refine ⟨(p6 rfl rfl),_,Jh J4,Hg,?_⟩;conv=>whnf
 obtain ⟨Ri,J5,h⟩:=p8 h;refine ⟨(p6 rfl (p6 rfl (p6 rfl rfl))),_,St J5,Ii rfl,?_⟩;conv=>whnf
 obtain ⟨Rj,K8,h⟩:=p8 h;refine ⟨(p6 rfl rfl),_,Ss K8,Ii rfl,?_⟩;conv=>whnf
 obtain ⟨Rk,K9,h⟩:=p8 h;refine ⟨qi.pl,_,Sn K9,Ii rfl,?_⟩;conv=>whnf
 obtain ⟨ND,Nh,h⟩:=p8 h;refine ⟨(p6 rfl rfl),_,Jh Nh,Hg,?_⟩;conv=>whnf
 obtain ⟨Wc,K_,h⟩:=p8 h;refine ⟨(p6 rfl (p6 rfl (p6 rfl rfl))),_,St K_,Ii rfl,?_⟩;conv=>whnf
 obtain ⟨Wd,La,h⟩:=p8 h;refine ⟨(p6 rfl rfl),_,Ss La,Ii rfl,?_⟩;conv=>whnf
 obtain ⟨We,Lb,h⟩:=p8 h;refine ⟨qi.pl,_,Sn Lb,Ii rfl,?_⟩;conv=>whnf
 obtain ⟨Wf,J6,h⟩:=p8 h;refine ⟨(p6 rfl rfl),_,Jh J6,Hg,?_⟩;conv=>whnf
 obtain ⟨Rl,Ni,h⟩:=p8 h;refine ⟨qi.pl,_,ahh Ni,Ii rfl,?_⟩;conv=>whnf
 obtain ⟨Wg,Lc,h⟩:=p8 h;refine ⟨(p6 rfl rfl),_,Jh Lc,Hg,?_⟩;conv=>whnf
 obtain ⟨Rm,Nj,h⟩:=p8 h;refine ⟨qi.pl,_,Yf Nj,Ii rfl,?_⟩;conv=>whnf
 obtain ⟨Rn,Ld,h⟩:=p8 h;refine ⟨qi.pl,_,ahk Ld,?_⟩;conv=>whnf
 refine bs h (fun Le h=>?_) fun Le h=>?_
 ·rw [Le];conv=>whnf
  exact p_ h jJ rfl rfl
 ·rw [Le];conv=>whnf
  refine bs h (fun Lf h=>?_) fun Lf h=>?_
  ·rw [Lf];(conv=>whnf);exact p_ h jJ rfl rfl
  ·rw [Lf];(conv=>whnf);refine bs h (fun Nk h=>?_) fun Nk h=>?_
   ·rw [Nk];(conv=>whnf);exact p_ h jJ rfl rfl
   ·rw [Nk];(conv=>whnf);refine bs h (fun Lg h=>?_) fun Lg h=>?_
    ·rw [Lg];(conv=>whnf);exact p_ h jJ rfl rfl
    ·rw [Lg];(conv=>whnf);refine bs h (fun Lh h=>?_) fun Lh h=>?_
     ·rw [Lh];(conv=>whnf);exact p_ h jJ rfl rfl
     ·rw [Lh];(conv=>whnf);refine bs h (fun Li h=>?_) fun Li h=>?_
      ·rw [Li];(conv=>whnf);exact p_ h jJ rfl rfl
      ·rw [Li];(conv=>whnf);refine bs h (fun Lj h=>?_) fun Lj h=>?_
       ·rw [Lj];(conv=>whnf);exact p_ h jJ rfl rfl
       ·rw [Lj];(conv=>whnf);refine bs h (fun Lk h=>?_) fun Lk h=>?_
        ·rw [Lk];(conv=>whnf);exact p_ h jJ rfl rfl
        ·rw [Lk];(conv=>whnf);refine bs h (fun Ll h=>?_) fun Ll h=>?_
         ·rw [Ll];(conv=>whnf);exact p_ h jJ rfl rfl
         ·rw [Ll];(conv=>whnf);refine bs h (fun Nl h=>?_) fun Nl h=>?_
          ·rw [Nl];(conv=>whnf);exact p_ h jJ rfl rfl
          ·rw [Nl];(conv=>whnf);refine bs h (fun Nm h=>?_) fun Nm h=>?_
           ·rw [Nm];(conv=>whnf);exact p_ h jJ rfl rfl
           ·rw [Nm];(conv=>whnf);refine bs h (fun Nn h=>?_) fun Nn h=>?_
            ·rw [Nn];(conv=>whnf);exact p_ h jJ rfl rfl
            ·rw [Nn];(conv=>whnf);refine bs h (fun Lm h=>?_) fun Lm h=>?_
             ·rw [Lm];(conv=>whnf);exact p_ h jJ rfl rfl
             ·rw [Lm];(conv=>whnf);obtain ⟨Wh,Np,h⟩:=p8 h;refine ⟨(p6 rfl rfl),_,Jh Np,Hg,?_⟩;(conv=>whnf);obtain ⟨Ro,Nq,h⟩:=p8 h;refine ⟨qi.pl,_,ahg Nq,Ii rfl,?_⟩;(conv=>whnf);refine bs h (fun Ln h=>?_) fun Ln h=>?_
              ·rw [Ln];(conv=>whnf);refine bs h (fun Nr h=>?_) fun Nr h=>?_
               ·rw [Nr];(conv=>whnf);refine bs h (fun Ns h=>?_) fun Ns h=>?_
                ·rw [Ns];(conv=>whnf);refine bs h (fun Nt h=>?_) fun Nt h=>?_
                 ·rw [Nt];(conv=>whnf);obtain ⟨Wi,ab3,h⟩:=p8 h;refine ⟨(p6 rfl rfl),_,Jh ab3,?_⟩;(conv=>whnf);obtain ⟨Rp,ab4,h⟩:=p8 h;refine ⟨qi.pl,_,Yd ab4,?_⟩;(conv=>whnf);cases Rp
                  ·(conv=>whnf);replace h:=rW rfl h;exact p_ h jJ rfl rfl
                  ·(conv=>whnf);replace h:=rV rfl h;refine bs h (fun QQ h=>?_) fun QQ h=>?_
                   ·rw [QQ];(conv=>whnf);refine bs h (fun QR h=>?_) fun QR h=>?_
                    ·rw [QR];(conv=>whnf);refine bs h (fun QS h=>?_) fun QS h=>?_
                     ·rw [QS];(conv=>whnf);refine bs h (fun QT h=>?_) fun QT h=>?_
                      ·rw [QT];(conv=>whnf);refine bs h (fun QU h=>?_) fun QU h=>?_
                       ·rw [QU];(conv=>whnf);obtain ⟨Wj,ab5,h⟩:=p8 h;refine ⟨(p6 rfl rfl),_,Jh ab5,?_⟩;(conv=>whnf);obtain ⟨Wk,ab6,h⟩:=p8 h;refine ⟨qi.pl,_,Yd ab6,?_⟩;(conv=>whnf);exact p_ h jJ rfl rfl
                       ·rw [QU];(conv=>whnf);exact p_ h jJ rfl rfl
                      ·rw [QT];(conv=>whnf);exact p_ h jJ rfl rfl
                     ·rw [QS];(conv=>whnf);exact p_ h jJ rfl rfl
                    ·rw [QR];(conv=>whnf);exact p_ h jJ rfl rfl
                   ·rw [QQ];(conv=>whnf);exact p_ h jJ rfl rfl
                 ·rw [Nt];(conv=>whnf);exact p_ h jJ rfl rfl
                ·rw [Ns];(conv=>whnf);exact p_ h jJ rfl rfl
               ·rw [Nr];(conv=>whnf);exact p_ h jJ rfl rfl
              ·rw [Ln];(conv=>whnf);exact p_ h jJ rfl rfl
end Go.Proofs.YtkoioidpbbbaiaaGreat.Ab


namespace Go.Proofs.YtkoioidpbbbaiaaGreat.Ab
open Go
set_option maxRecDepth 20000
set_option maxHeartbeats 1000000
def OW:qb:=([(10,1),(5,0),(10,1)],(0,4))
def HS:qb:=([(3,0),(5,0),(8,0)],(0,0))
def Ml:qb:=([(4,0),(6,0),(1,0),(6,0),(4,0)],(0,9))
theorem ahn:Pz=some OW:=by decide +kernel
theorem ahp:PA=some HS:=by decide +kernel
theorem ahr:PB=some Ml:=by decide +kernel
theorem ag2:Jg Ml [1,0,2,3,4] 0=some (-4,2,0):=by
 rw [Sq (by decide) (by decide)];decide +kernel
theorem ag3:Jg OW [1,0,2] 5=some (0,0,3):=by
 rw [Sq (by decide) (by decide)];decide +kernel
theorem ag0:Iw OW [1,0,2]=some (9,0):=by
 rw [Py (by decide) (by decide)];decide +kernel
theorem ag1:Iw OW [0,1,1]=some (0,16):=by
 rw [Py (by decide) (by decide)];decide +kernel
theorem agP:KH HS=some (2,0):=by
 rw [X_ (by decide)];decide +kernel
theorem agQ:Kh HS=some ([0,2,1],0):=by
 rw [Si (by decide)];decide +kernel
theorem agR:KI Ml=some (8,0):=by
 rw [Yb (by decide)];decide +kernel
theorem agU:JE HS [0,2,1] [(0,(5,0))]=some (1,0):=by
 rw [Sm (by decide) (by decide) (by decide)];decide +kernel
theorem agV:JE HS [0,2,1] [(2,(1,0))]=some (0,23):=by
 rw [Sm (by decide) (by decide) (by decide)];decide +kernel
theorem agW:JE HS [0,2,1] [(0,(101,0))]=some (0,3):=by
 rw [Sm (by decide) (by decide) (by decide)];decide +kernel
theorem QC {p:qb} {o:List Int} {a i t:Nat} (ab:¬ Iq p o a) (ae:i<o.length) (aF:i % 2=a) (ba:t<2121) (bP:I8 p o a i (Jf t)):I7 p o a=1:=by
 unfold I7;rw [if_neg ab,if_pos ⟨i,ae,aF,t,ba,bP⟩]
theorem abw {p:qb} {o:List Int} {a:Nat} (ab:Iq p o a):I7 p o a=0:=by
 unfold I7;rw [if_pos ab]
theorem agX:MP Ml [1,0,2,3,4]=some (2,0):=by
 unfold MP;obtain ⟨l,ab,ae⟩:=Ye (p:=Ml) (o:=[1,0,2,3,4]) (by decide) (by decide);have HF:rU Ml [1,0,2,3,4]=0:=by decide +kernel
 rw [if_pos HF] at ab;rw [ab,sb,(ae HF).1];rw [QC (i:=0) (t:=1014) (by decide +kernel) (by decide) (by decide) (by decide) (by decide +kernel),QC (i:=1) (t:=1016) (by decide +kernel) (by decide) (by decide) (by decide) (by decide +kernel)];rfl
theorem agY:∃ l,KK HS [0,2,1]=some (l,0)∧KJ HS [0,2,1] l=some (1,0):=by
 obtain ⟨l,ab,ae⟩:=Ye (p:=HS) (o:=[0,2,1]) (by decide) (by decide);have HF:rU HS [0,2,1]=0:=by decide +kernel
 rw [if_pos HF] at ab;obtain ⟨aF,ba,bP⟩:=ae HF;have ao:l.length=1:=by
  rw [aF,QC (i:=0) (t:=1015) (by decide +kernel) (by decide) (by decide) (by decide) (by decide +kernel),abw (by decide +kernel)]
 refine ⟨l,ab,?_⟩;rw [ahe (by decide) (by decide) (by omega),if_pos HF,if_pos ba,if_neg (by omega),ao];rfl
theorem agZ:MQ HS=some ([0,1,2],0):=by
 have af:∀ (s t:Nat) (o:List Int),qp 3 o→s=(ix o 0).toNat→t<2121→I8 HS o 0 0 (Jf t)→Iq HS o 1→o.length=3→H7 HS s=true:=fun s t o ab ae aF ba bP bQ =>
  T2.2 ⟨o,ab,0,by omega,ae,by
   unfold C9;rw [sn,decide_eq_true_eq,decide_eq_true_eq]
   exact ⟨bP,t,aF,ba⟩⟩
 have de:H7 HS 0=true:=af 0 1018 [0,1,2] (by decide) (by decide) (by decide) (by decide +kernel) (by decide +kernel) rfl;have bm:H7 HS 1=true:=af 1 1018 [1,0,2] (by decide) (by decide) (by decide) (by decide +kernel) (by decide +kernel) rfl;have cw:H7 HS 2=true:=af 2 1015 [2,0,1] (by decide) (by decide) (by decide) (by decide +kernel) (by decide +kernel) rfl;have e:L9 HS=[0,1,2]:=by
  unfold L9;show List.filter (fun s:Int=>H7 HS s.toNat) [0,1,2]=[0,1,2];refine List.filter_eq_self.2 fun s ah=>?_;simp only [sA,List.not_mem_nil,or_false] at ah;rcases ah with rfl | rfl | rfl
  ·exact de
  ·exact bm
  ·exact cw
 rw [ahj (by decide),e,if_pos (by decide +kernel)]
theorem agS:LJ [0,2,1] [0,2,1]=some true:=by decide +kernel
theorem agT:LJ [0,1,2] [0,1,2]=some true:=by decide +kernel
theorem works:H3=some true:=by
 obtain ⟨l,ab,ae⟩:=agY;unfold H3;simp only [ahn,ahp,ahr,Ix,MU,MV,sb,ag2,ag3,ag0,ag1,agP,agQ,agR,agU,agV,agW,agX,agZ,ab,ae,agS,agT];simp only [decide_eq_true_eq,ne_eq,not_true_eq_false,if_false,if_true]
end Go.Proofs.YtkoioidpbbbaiaaGreat.Ab


namespace Go.Proofs.YtkoioidpbbbaiaaGreat.Ab
open Go
set_option maxRecDepth 20000
set_option maxHeartbeats 4000000
noncomputable def YR:gE :=
 p2 [p0 1 [.jq 0] .box,p0 2 [.cv (.bool false)] .mU] (p2 [qv 3 1 0,qh 4 3,qW 5 4,qy 6 5 10 .gtr,p1 2 6] .ret)
theorem adz:qo Tryz.prog S9 10=some (YR,7,[.tmp 2]):=by kernel_rfl
def MO (p:(qg×(Int×Int))):Option Bool :=
 some (decide ((10:Int)<(p.1.length:Int)))
theorem aha {p:(qg×(Int×Int))} {v:Bool} (h:MO p=some v):qw 10 [(.agg [(.av (p.1.flatMap p7) p.1.length .shared),(h0 p.2.1),(h0 p.2.2)])] (B v):=by
 refine qL eG adz rfl rfl fun Q bp=>?_;have jJ:qI [.tmp 2] Q (fun v=>(B v)) v:=fun T H bE=>bp _ T H bE;unfold MO at h;unfold YR;conv=>whnf
 exact p_ h jJ rfl rfl

def Gy (p:(qg×(Int×Int))):Option Bool :=
 (MO p).bind fun aS =>
 if aS=true then
  (H3).bind fun bj =>
  some bj
 else
  (KH p).bind fun eK =>
  (ahb p).bind fun q5 =>
  (Kh p).bind fun q8 =>
  (Ya p).bind fun rm =>
  (KI p).bind fun rZ =>
  (ahc p).bind fun rO =>
  if (decide (eK.1=q5.1))=true then
   if (decide (eK.2=q5.2))=true then
    (LJ q8.1 rm.1).bind fun HH =>
    if HH=true then
     if (decide (q8.2=rm.2))=true then
      if (decide (rZ.1=rO.1))=true then
       if (decide (rZ.2=rO.2))=true then
        (H3).bind fun IY =>
        some IY
       else
        some false
      else
       some false
     else
      some false
    else
     some false
   else
    some false
  else
   some false

def ahu (p:(qg×(Int×Int))) (order:p9) (l:(List (Int×(Int×Int)))):Option Bool :=
 (MO p).bind fun aS =>
 if aS=true then
  (H3).bind fun bj =>
  some bj
 else
  if (decide ((10:Int)<(order.length:Int)))=true then
   (H3).bind fun eK =>
   some eK
  else
   if (decide ((10:Int)<(l.length:Int)))=true then
    (H3).bind fun q5 =>
    some q5
   else
    (JE p order l).bind fun q8 =>
    (KJ p order l).bind fun rm =>
    (MP p order).bind fun rZ =>
    (ahi p order).bind fun rO =>
    (KK p order).bind fun HH =>
    if (decide (q8.1≠rm.1))=true then
     some false
    else
     if (decide (q8.2≠rm.2))=true then
      some false
     else
      if (decide (rZ.1≠rO.1))=true then
       some false
      else
       if (decide (rZ.2≠rO.2))=true then
        some false
       else
        if (decide (HH.2≠rO.2))=true then
         some false
        else
         if (decide ((10:Int)<(HH.1.length:Int)))=true then
          some false
         else
          if (decide (rO.2≠(0:Int)))=true then
           if (decide ((HH.1.length:Int)=(0:Int)))=true then
            (H3).bind fun IY =>
            some IY
           else
            some false
          else
           (KJ p order HH.1).bind fun Jv =>
           if (decide (Jv.2=(0:Int)))=true then
            if (decide (Jv.1=rO.1))=true then
             (H3).bind fun Jw =>
             some Jw
            else
             some false
           else
            some false

end Go.Proofs.YtkoioidpbbbaiaaGreat.Ab


namespace Go.Proofs.YtkoioidpbbbaiaaGreat.Ab
open Go
set_option maxRecDepth 20000
set_option maxHeartbeats 1000000
abbrev V2 (p:qb):I:=.agg [.av (p.1.flatMap p7) p.1.length .shared,h0 p.2.1,h0 p.2.2]
end Go.Proofs.YtkoioidpbbbaiaaGreat.Ab


namespace Go.Proofs.YtkoioidpbbbaiaaGreat.Ab
open Go
set_option maxRecDepth 20000
set_option maxHeartbeats 4000000
noncomputable def Y1:gE :=
 p2 [p0 1 [.jq 0] .box,p0 2 [.cv (.bool false)] .mU] (p2 [p0 3 [.nc 1] (.zE (.str 3)),p0 4 [.cv (.func 10 [] []),.nc 3] (.call 3),p0 5 [.Bs 4] (.un .not),p1 6 5,cl 7 [.Bs 1] 6 true (.zE (.str 3)),⟨some 8,[.cv (.func 46 [] []),.nc 7],some (6,true),none,.call 3⟩,cl 9 [.Bs 8,.cv (.int .i64 0)] 6 true (.bin .eql),p0 10 [.Bs 6,.Bs 9,.cv (.bool false)] .pick,p1 2 10] .ret)
theorem adI:qo Tryz.prog Tj 26=some (Y1,11,[.tmp 2]):=by kernel_rfl
def LK (p:(qg×(Int×Int))):Option Bool :=
 (MO p).bind fun aS =>
 if aS=true then
  some false
 else
  (JG p).bind fun bj =>
  some (decide (bj=(0:Int)))
theorem Pw {p:(qg×(Int×Int))} {v:Bool} (h:LK p=some v):qw 26 [(.agg [(.av (p.1.flatMap p7) p.1.length .shared),(h0 p.2.1),(h0 p.2.2)])] (B v):=by
 refine qL eG adI rfl rfl fun Q bp=>?_;have jJ:qI [.tmp 2] Q (fun v=>(B v)) v:=fun T H bE=>bp _ T H bE;unfold LK at h;unfold Y1;conv=>whnf
 obtain ⟨aS,gM,h⟩:=p8 h;refine ⟨qi.pl,_,aha gM,?_⟩;conv=>whnf
 cases aS
 ·conv=>whnf
  replace h:=rW rfl h;obtain ⟨bj,gN,h⟩:=p8 h;refine ⟨qi.pl,_,Sx gN,?_⟩;conv=>whnf
  exact p_ h jJ rfl rfl
 ·conv=>whnf
  replace h:=rV rfl h;exact p_ h jJ rfl rfl

noncomputable def PZ:gE :=
 .loop (some (p' false [0,2,3,1,32])) (.seq (p2 [p3 10 5,p3 11 1,qn 12 10 11 .lss] (.cond (.nc 12) .skip (.exit 0))) (.seq (.block 1 (.seq (ra [p3 15 0,p3 16 5,re 17 15 16 1,qh 18 17,qy 19 18 0 .lss,p1 20 19,cl 21 [.nc 0] 20 false .mU,cl 22 [.nc 5] 20 false .mU,cl 23 [.Bs 21,.Bs 22] 20 false (.kY 1),cl 24 [.Bs 23] 20 false (.zE .one),cl 25 [.nc 1] 20 false .mU,cl 26 [.Bs 24,.Bs 25] 20 false (.bin .geq),p0 27 [.nc 20,.cv (.bool true),.Bs 26] .pick,p1 28 27,cl 29 [.nc 0] 28 false .mU,cl 30 [.nc 5] 28 false .mU,⟨some 31,[.jq 29,.jq 30],some (28,false),none,.Bh 1 false true false⟩,cl 32 [.nc 0] 28 false .mU,cl 33 [.nc 5] 28 false .mU,cl 34 [.Bs 32,.Bs 33] 28 false (.kY 1),cl 35 [.Bs 34] 28 false (.zE .one),⟨some 36,[.cv (.func 72 [] []),.nc 31,.nc 35],some (28,false),none,.call 3⟩,p0 37 [.nc 28,.cv (.bool true),.Bs 36] .pick]) (.cond (.nc 37) (p2 [p0 4 [.cv (.bool false)] .mU] .ret) .skip))) (qO [p1 13 5,qV 14 13 1,p1 5 14])))
noncomputable def Zl:gE :=
 p2 [p0 4 [.cv (.bool false)] .mU] (.seq (p2 [p3 6 0,qW 7 6,p3 8 1,qn 9 7 8 .neq] (.cond (.nc 9) (p2 [p0 4 [.cv (.bool false)] .mU] .ret) .skip)) (.seq (p2 [qf 5 0] (.block 0 PZ)) (p2 [p0 4 [.cv (.bool true)] .mU] .ret)))
theorem ad4:qo Tryz.prog Qk 62=some (Zl,38,[.tmp 4]):=by kernel_rfl
def LU (l:p9) (rD:Int) (qa:Unit→Option Bool):Nat→Int→Option Bool
 | 0,_=>none
 | m+1,s1 =>
   if (decide (s1<rD))=true then
    qk (0≤s1∧s1<(l.length:Int)) <|
    if (decide ((ix l s1)<(0:Int)))=true then
     some false
    else
     qk (0≤s1∧s1<(l.length:Int)) <|
     if (decide (rD≤(ix l s1)))=true then
      some false
     else
      qk (0≤s1∧s1≤(l.length:Int)) <|
      qk (0≤s1∧s1<(l.length:Int)) <|
      (LW (l.take s1.toNat) (ix l s1)).bind fun aS =>
      if aS=true then
       some false
      else
       LU l rD qa m (w (s1+(1:Int)))
   else
    qa ()
def N_ (l:p9) (rD:Int):Option Bool :=
 if (decide ((l.length:Int)≠rD))=true then
  some false
 else
  LU l rD (fun _ =>
    some true) qj (0:Int)
theorem ahO {l:p9} {rD:Int} {qa:Unit→Option Bool} {s1:Int} {v:Bool} {Q:Hm}   (jJ:qI [.tmp 4] Q (fun v=>(B v)) v) (ri:∀ (qd:List I),qa ()=some v→rv 38 [] qd→Q (.exit 0) qd []) {T:List I} (b0:eZ (p' false [0,2,3,1,32]) T=qc 38 [(0,(qR l .shared)),(1,(h0 rD)),(5,(h0 s1))]) (h:LU l rD qa qj s1=some v) :
  dQ Tryz.prog Qk 62 0 none PZ T [] Q:=by
 unfold PZ;refine wp_loop b0 ?_;refine .intro (fun m T H=>∃ (s1:Int),T=qc 38 [(0,(qR l .shared)),(1,(h0 rD)),(5,(h0 s1))]∧H=[]∧LU l rD qa m s1=some v) qj ⟨s1,rfl,rfl,h⟩ ?_;clear h b0;rintro m T H ⟨s1,rfl,rfl,h⟩;cases m
 ·exact r0 h
 rename_i m;rw [LU.eq_2] at h;conv=>whnf
 refine bs h (fun gN h=>?_) fun gN h=>?_
 ·rw [gN];conv=>whnf
  refine qP h id fun qs h=>?_;rw [ru h0 l s1 qs];conv=>whnf
  refine bs h (fun qK h=>?_) fun qK h=>?_
  ·rw [qK];(conv=>whnf);exact p_ h jJ rfl rfl
  ·rw [qK];(conv=>whnf);refine qP h id fun qY h=>?_;rw [ru h0 l s1 qY];(conv=>whnf);refine bs h (fun rn h=>?_) fun rn h=>?_
   ·rw [rn];(conv=>whnf);exact p_ h jJ rfl rfl
   ·rw [rn];(conv=>whnf);refine qP h id fun qS h=>?_;erw [R_ h0 l s1 qS];(conv=>whnf);refine qP h id fun ry h=>?_;rw [ru h0 l s1 ry];(conv=>whnf);obtain ⟨aS,q_,h⟩:=p8 h;refine ⟨qi.pl,_,YJ q_,Hg,?_⟩;(conv=>whnf);cases aS
    ·(conv=>whnf);replace h:=rW rfl h;exact ⟨m,sD m,(w (s1+(1:Int))),rfl,rfl,h⟩
    ·(conv=>whnf);replace h:=rV rfl h;exact p_ h jJ rfl rfl
 ·rw [gN];conv=>whnf
  exact ri  _ h ⟨rfl,rfl⟩
theorem ahP {l:p9} {rD:Int} {v:Bool} (h:N_ l rD=some v):qw 62 [(.av (l.map h0) l.length .shared),(h0 rD)] (B v):=by
 refine qL eG ad4 rfl rfl fun Q bp=>?_;have jJ:qI [.tmp 4] Q (fun v=>(B v)) v:=fun T H bE=>bp _ T H bE;unfold N_ at h;unfold Zl;obtain ⟨HD,qE⟩:∃ c,PZ=c:=⟨_,rfl⟩;rw [qE];conv=>whnf
 refine bs h (fun gM h=>?_) fun gM h=>?_
 ·rw [gM];conv=>whnf
  exact p_ h jJ rfl rfl
 ·rw [gM];conv=>whnf
  subst qE;refine ahO ?_ ?_ (by exact rfl) h
  ·exact fun T H bE=>jJ T H bE
  ·intro  qd h qz;obtain ⟨rB,rfl⟩:=qz.ex;(conv=>whnf);exact p_ h jJ rfl rfl

noncomputable def Y2:gE :=
 p2 [p0 1 [.jq 0] .box,qf 2 0,p0 3 [.cv (.bool false)] .mU] (p2 [p0 11 [.nc 1] (.zE (.str 3)),p0 12 [.cv (.func 12 [] []),.nc 11] (.call 3),p1 10 12,qB 13 10 0,p0 14 [.Bs 10] (.ext 1),p1 4 13,p1 5 14] (p2 [p0 16 [.nc 1] (.zE (.str 3)),p0 17 [.cv (.func 14 [] []),.nc 16] (.call 3),p1 15 17,qB 18 15 0,p0 19 [.Bs 15] (.ext 1),p1 6 18,p1 7 19] (.seq (p2 [p1 20 5,qy 21 20 0 .neq,p1 22 21,cl 23 [.jq 7] 22 false .mU,cl 24 [.Bs 23,.cv (.int .i64 0)] 22 false (.bin .neq),p0 25 [.Bs 22,.cv (.bool true),.Bs 24] .pick,p1 26 25,cl 27 [.nc 6] 26 false .mU,cl 28 [.nc 1] 26 false (.yM 0),cl 29 [.Bs 28] 26 false (.zE .one),cl 30 [.jq 29] 26 false .zJ,⟨some 31,[.cv (.func 62 [] []),.nc 27,.nc 30],some (26,false),none,.call 3⟩,cl 32 [.Bs 31] 26 false (.un .not),p0 33 [.Bs 26,.cv (.bool true),.Bs 32] .pick] (.cond (.nc 33) (p2 [p1 34 4,p1 2 34,p0 3 [.cv (.bool false)] .mU] .ret) .skip)) (p2 [p0 36 [.nc 1] (.zE (.str 3)),p3 37 6,p0 38 [.cv (.func 29 [] []),.nc 36,.nc 37] (.call 3),p1 35 38,qB 39 35 0,p0 40 [.Bs 35] (.ext 1),p1 8 39,p1 9 40] (p2 [p3 41 4,p1 42 9,qy 43 42 0 .eql,p1 44 43,cl 45 [.jq 8] 44 true .mU,cl 46 [.nc 4] 44 true .mU,cl 47 [.Bs 45,.Bs 46] 44 true (.bin .eql),p0 48 [.Bs 44,.Bs 47,.cv (.bool false)] .pick,p1 49 48,cl 50 [.Bs 1] 49 true (.zE (.str 3)),cl 51 [.jq 6] 49 true .mU,⟨some 52,[.cv (.func 39 [] []),.nc 50,.nc 51],some (49,true),none,.call 3⟩,cl 53 [.jq 4] 49 true .mU,cl 54 [.Bs 52,.Bs 53] 49 true (.bin .eql),p0 55 [.Bs 49,.Bs 54,.cv (.bool false)] .pick,p1 2 41,p1 3 55] .ret)))))
theorem adJ:qo Tryz.prog Tk 27=some (Y2,56,[.tmp 2,.tmp 3]):=by kernel_rfl
def KL (p:(qg×(Int×Int))):Option (Int×Bool) :=
 (KH p).bind fun aS =>
 (Kh p).bind fun bj =>
 if (decide (aS.2≠(0:Int)))=true then
  some (aS.1,false)
 else
  if (decide (bj.2≠(0:Int)))=true then
   some (aS.1,false)
  else
   (N_ bj.1 (p.1.length:Int)).bind fun eK =>
   if eK=true then
    (Iw p bj.1).bind fun q5 =>
    if (decide (q5.2=(0:Int)))=true then
     if (decide (q5.1=aS.1))=true then
      (KM p bj.1).bind fun q8 =>
      some (aS.1,(decide (q8=aS.1)))
     else
      some (aS.1,false)
    else
     some (aS.1,false)
   else
    some (aS.1,false)
theorem LL {p:(qg×(Int×Int))} {v:(Int×Bool)} (h:KL p=some v):qw 27 [(.agg [(.av (p.1.flatMap p7) p.1.length .shared),(h0 p.2.1),(h0 p.2.2)])] (.tuple [(h0 v.1),(B v.2)]):=by
 refine qL eG adJ rfl (Je (p6 rfl (p6 rfl rfl))) fun Q bp=>?_;have jJ:qI [.tmp 2,.tmp 3] Q (fun v=>(.tuple [(h0 v.1),(B v.2)])) v:=fun T H bE=>bp _ T H bE;unfold KL at h;unfold Y2;conv=>whnf
 obtain ⟨aS,gM,h⟩:=p8 h;refine ⟨qi.pl,_,X' gM,?_⟩;conv=>whnf
 obtain ⟨bj,gN,h⟩:=p8 h;refine ⟨qi.pl,_,Sj gN,?_⟩;conv=>whnf
 refine bs h (fun qs h=>?_) fun qs h=>?_
 ·rw [qs];conv=>whnf
  exact p_ h jJ rfl rfl
 ·rw [qs];conv=>whnf
  refine bs h (fun qK h=>?_) fun qK h=>?_
  ·rw [qK];(conv=>whnf);exact p_ h jJ rfl rfl
  ·rw [qK];(conv=>whnf);obtain ⟨eK,qY,h⟩:=p8 h;refine ⟨qi.pl,_,ahP qY,?_⟩;(conv=>whnf);cases eK
   ·(conv=>whnf);replace h:=rW rfl h;exact p_ h jJ rfl rfl
   ·(conv=>whnf);replace h:=rV rfl h;obtain ⟨q5,rn,h⟩:=p8 h;refine ⟨qi.pl,_,JF rn,?_⟩;(conv=>whnf);refine bs h (fun qS h=>?_) fun qS h=>?_
    ·rw [qS];(conv=>whnf);refine bs h (fun ry h=>?_) fun ry h=>?_
     ·rw [ry];(conv=>whnf);obtain ⟨q8,q_,h⟩:=p8 h;refine ⟨qi.pl,_,Yl q_,?_⟩;(conv=>whnf);exact p_ h jJ rfl rfl
     ·rw [ry];(conv=>whnf);exact p_ h jJ rfl rfl
    ·rw [qS];(conv=>whnf);exact p_ h jJ rfl rfl

noncomputable def PR:gE :=
 .loop (some (p' false [0,2,3,3,48])) (.seq (p2 [p3 10 7,p3 11 0,qn 12 10 11 .lss] (.cond (.nc 12) .skip (.exit 0))) (.seq (.block 1 (qO [p1 15 5,p3 16 7,p0 17 [.Bs 16] (.yB 1 1 [.int .i64 0] [0]),p0 18 [.jq 15,.jq 17] (.app 1 8),p1 5 18])) (qO [p1 13 7,qV 14 13 1,p1 7 14])))
noncomputable def PS:gE :=
 p2 [p1 38 6,p3 39 5,p3 40 9,re 41 39 40 1,qh 42 41,p0 43 [.Bs 42] (.yB 1 1 [.int .i64 0] [0]),p0 44 [.jq 38,.jq 43] (.app 1 8),p1 6 44] (ra [p0 45 [] (.yB 0 1 [.int .i64 0] []),p3 46 5,p3 47 9,p0 48 [.jq 46,.jq 47] (.Bh 1 false true false),p0 49 [.jq 45,.jq 48] (.app 1 8),p3 50 5,p3 51 9,qV 52 51 1,p0 53 [.jq 50,.jq 52] (.Bh 1 true false false),p0 54 [.jq 49,.jq 53] (.app 1 8),p1 5 54])
noncomputable def PT:gE :=
 .loop (some (p' false [1,1,3,2,1,1,47])) (.seq (p2 [p3 19 5,qW 20 19,qy 21 20 0 .gtr] (.cond (.nc 21) .skip (.exit 2))) (.seq (.block 3 (p2 [qf 9 0] (.seq (p2 [p3 24 1,qW 25 24,qy 26 25 0 .gtr] (.cond (.nc 26) (qO [p3 27 1,p3 28 8,p3 29 1,qW 30 29,qn 31 28 30 .rem,re 32 27 31 1,qh 33 32,p0 34 [.Bs 33] (.conv .i64),p3 35 5,qW 36 35,qn 37 34 36 .rem,p1 9 37]) .skip)) PS))) (qO [p1 22 8,qV 23 22 1,p1 8 23])))
noncomputable def Y3:gE :=
 p2 [p0 4 [.cv (.av [] 0 .full)] (.nil 1)] (p2 [p0 5 [.cv (.av [] 0 .full)] (.nil 1),p0 6 [.cv (.av [] 0 .full)] (.nil 1)] (.seq (p2 [qf 7 0] (.block 0 PR)) (.seq (p2 [qf 8 0] (.block 2 PT)) (p2 [p1 55 6,p1 4 55] .ret))))
theorem adK:qo Tryz.prog M8 28=some (Y3,56,[.tmp 4]):=by kernel_rfl
def LN (rD:Int) (qa:p9→Option p9):Nat→p9→Int→Option p9
 | 0,_,_=>none
 | m+1,s1,s2 =>
   if (decide (s2<rD))=true then
    qk ((s1.length+1)*8≤140737488355328) <|
    LN rD qa m (s1++[s2]) (w (s2+(1:Int)))
   else
    qa s1
def LM (dk G':p9) (OQ:p9→p9→Option p9) (dD:Int):Option p9 :=
 qk (0≤dD∧dD<(dk.length:Int)) <|
 qk ((G'.length+1)*8≤140737488355328) <|
 qk (0≤dD∧dD≤(dk.length:Int)) <|
 qk ((([]:List Int).length+(dk.take dD.toNat).length)*8≤140737488355328) <|
 qk (0≤(w (dD+(1:Int)))∧(w (dD+(1:Int)))≤(dk.length:Int)) <|
 qk (((([]:List Int)++(dk.take dD.toNat)).length+(dk.drop (w (dD+(1:Int))).toNat).length)*8≤140737488355328) <|
 OQ ((([]:List Int)++(dk.take dD.toNat))++(dk.drop (w (dD+(1:Int))).toNat)) (G'++[(ix dk dD)])
def JR (qJ:p9) (q6:p9→Option p9):Nat→p9→p9→Int→Option p9
 | 0,_,_,_=>none
 | m+1,dk,G',r5 =>
   if (decide ((0:Int)<(dk.length:Int)))=true then
    if (decide ((0:Int)<(qJ.length:Int)))=true then
     qk ((qJ.length:Int)≠0) <|
     qk (0≤(r5.tmod (qJ.length:Int))∧(r5.tmod (qJ.length:Int))<(qJ.length:Int)) <|
     qk ((dk.length:Int)≠0) <|
     LM dk G' (fun oT Gz =>
       JR qJ q6 m oT Gz (w (r5+(1:Int)))) ((w (ix qJ (r5.tmod (qJ.length:Int)))).tmod (dk.length:Int))
    else
     LM dk G' (fun oT Gz =>
       JR qJ q6 m oT Gz (w (r5+(1:Int)))) (0:Int)
   else
    q6 G'
def MR (rD:Int) (qJ:p9):Option p9 :=
 LN rD (fun yn =>
   JR qJ (fun Km =>
     some Km) qj yn ([]:List Int) (0:Int)) qj ([]:List Int) (0:Int)
theorem ahl {rD:Int} {qa:p9→Option p9} {s1:p9} {s2:Int} {qJ:p9} {v:p9} {Q:Hm}   (ri:∀ (yn:p9) (qd:List I),qa yn=some v→rv 56 [(1,(.av (qJ.map r1) qJ.length .shared)),(5,(qR yn (.uniq 1))),(6,(.av [] 0 (.uniq 1)))] qd→Q (.exit 0) qd []) {T:List I} (b0:eZ (p' false [0,2,3,3,48]) T=qc 56 [(0,(h0 rD)),(1,(.av (qJ.map r1) qJ.length .shared)),(5,(qR s1 (.uniq 1))),(6,(.av [] 0 (.uniq 1))),(7,(h0 s2))]) (h:LN rD qa qj s1 s2=some v) :
  dQ Tryz.prog M8 28 0 none PR T [] Q:=by
 unfold PR;refine wp_loop b0 ?_;refine .intro (fun m T H=>∃ (s1:p9) (s2:Int),T=qc 56 [(0,(h0 rD)),(1,(.av (qJ.map r1) qJ.length .shared)),(5,(qR s1 (.uniq 1))),(6,(.av [] 0 (.uniq 1))),(7,(h0 s2))]∧H=[]∧LN rD qa m s1 s2=some v) qj ⟨s1,s2,rfl,rfl,h⟩ ?_;clear h b0;rintro m T H ⟨s1,s2,rfl,rfl,h⟩;cases m
 ·exact r0 h
 rename_i m;rw [LN.eq_2] at h;conv=>whnf
 refine bs h (fun gM h=>?_) fun gM h=>?_
 ·rw [gM];conv=>whnf
  obtain ⟨gN,h⟩:=rR h;refine ⟨by first | rfl | simp,by have:=gN;omega,rfl,gN,?_⟩
  erw [TX h0 s1 s2];conv=>whnf
  exact ⟨m,sD m,(s1++[s2]),(w (s2+(1:Int))),rfl,rfl,h⟩
 ·rw [gM];conv=>whnf
  exact ri _ _ h ⟨rfl,rfl⟩
theorem Yh {dk:p9} {G':p9} {OQ:p9→p9→Option p9} {dD:Int} {qJ:p9} {r5:Int} {v:p9} {Q:Hm}  {qd:List I}  (aco:∀ (oT Gz:p9) (qd:List I),OQ oT Gz=some v→rv 56 [(1,(.av (qJ.map r1) qJ.length .shared)),(5,(qR oT (.uniq 1))),(6,(qR Gz (.uniq 1))),(8,(h0 r5))] qd→Q .normal qd []) (qz:rv 56 [(1,(.av (qJ.map r1) qJ.length .shared)),(5,(qR dk (.own 1))),(6,(qR G' (.uniq 1))),(8,(h0 r5)),(9,(h0 dD))] qd) (h:LM dk G' OQ dD=some v) :
  dQ Tryz.prog M8 28 0 none PS qd [] Q:=by
 obtain ⟨rB,rfl⟩:=qz.ex;unfold LM at h;unfold PS;conv=>whnf
 refine qP h id fun ry h=>?_;rw [ru h0 dk dD ry];conv=>whnf
 obtain ⟨q_,h⟩:=rR h;refine ⟨by first | rfl | simp,by have:=q_;omega,rfl,q_,?_⟩
 erw [TX h0 G' (ix dk dD)];conv=>whnf
 refine qP h id fun r2 h=>?_;erw [R_ h0 dk dD r2];conv=>whnf
 obtain ⟨I_,h⟩:=rR h;refine ⟨by first | rfl | simp,by have:=I_;omega,rfl,I_,?_⟩
 erw [TW h0 ([]:List Int) (dk.take dD.toNat)];conv=>whnf
 refine qP h id fun IQ h=>?_;erw [Xx h0 dk (w (dD+(1:Int))) IQ];conv=>whnf
 obtain ⟨I',h⟩:=rR h;refine ⟨by first | rfl | simp,by have:=I';omega,rfl,I',?_⟩
 erw [TW h0 (([]:List Int)++(dk.take dD.toNat)) (dk.drop (w (dD+(1:Int))).toNat)];conv=>whnf
 exact aco _ _ _ h ⟨rfl,rfl⟩
theorem ahm {qJ:p9} {q6:p9→Option p9} {dk:p9} {G':p9} {r5:Int} {v:p9} {Q:Hm}   (J8:∀ (Km:p9) (qd:List I),q6 Km=some v→rv 56 [(6,(qR Km (.uniq 1)))] qd→Q (.exit 2) qd []) {T:List I} (b0:eZ (p' false [1,1,3,2,1,1,47]) T=qc 56 [(1,(.av (qJ.map r1) qJ.length .shared)),(5,(qR dk (.uniq 1))),(6,(qR G' (.uniq 1))),(8,(h0 r5))]) (h:JR qJ q6 qj dk G' r5=some v) :
  dQ Tryz.prog M8 28 0 none PT T [] Q:=by
 unfold PT;obtain ⟨K2,rX⟩:∃ c,PS=c:=⟨_,rfl⟩;rw [rX];refine wp_loop b0 ?_;refine .intro (fun m T H=>∃ (dk G':p9) (r5:Int),T=qc 56 [(1,(.av (qJ.map r1) qJ.length .shared)),(5,(qR dk (.uniq 1))),(6,(qR G' (.uniq 1))),(8,(h0 r5))]∧H=[]∧JR qJ q6 m dk G' r5=some v) qj ⟨dk,G',r5,rfl,rfl,h⟩ ?_;clear h b0;rintro m T H ⟨dk,G',r5,rfl,rfl,h⟩;cases m
 ·exact r0 h
 rename_i m;rw [JR.eq_2] at h;conv=>whnf
 refine bs h (fun qs h=>?_) fun qs h=>?_
 ·rw [qs];conv=>whnf
  refine bs h (fun qK h=>?_) fun qK h=>?_
  ·rw [qK];(conv=>whnf);refine qP h id fun qY h=>?_;(conv=>whnf);refine qP h id fun rn h=>?_;rw [ru r1 qJ (r5.tmod (qJ.length:Int)) rn];(conv=>whnf);refine qP h id fun qS h=>?_;(conv=>whnf);subst rX;refine Yh ?_ (by exact ⟨rfl,rfl⟩) h;intro oT Gz qd h qz;obtain ⟨rB,rfl⟩:=qz.ex;(conv=>whnf);exact ⟨m,sD m,oT,Gz,(w (r5+(1:Int))),rfl,rfl,h⟩
  ·rw [qK];(conv=>whnf);subst rX;refine Yh ?_ (by exact ⟨rfl,rfl⟩) h;intro oT Gz qd h qz;obtain ⟨rB,rfl⟩:=qz.ex;(conv=>whnf);exact ⟨m,sD m,oT,Gz,(w (r5+(1:Int))),rfl,rfl,h⟩
 ·rw [qs];conv=>whnf
  exact J8 _ _ h ⟨rfl,rfl⟩
theorem Sp {rD:Int} {qJ:p9} {v:p9} (h:MR rD qJ=some v):qw 28 [(h0 rD),(.av (qJ.map r1) qJ.length .shared)] (.av (v.map h0) v.length .shared):=by
 refine qL eG adK rfl (rM (fun _=>rfl) _ _ _) fun Q bp=>?_;have jJ:qI [.tmp 4] Q (fun v=>(qR v .shared)) v:=fun T H bE=>bp _ T H bE;unfold MR at h;unfold Y3;obtain ⟨HD,qE⟩:∃ c,PR=c:=⟨_,rfl⟩;rw [qE];obtain ⟨aaK,Nc⟩:∃ c,PT=c:=⟨_,rfl⟩;rw [Nc];conv=>whnf
 subst qE;refine ahl ?_ (by exact rfl) h;intro yn qd h qz;obtain ⟨rB,rfl⟩:=qz.ex;conv=>whnf
 subst Nc;refine ahm ?_ (by exact rfl) h;intro Km qd h qz;obtain ⟨rB,rfl⟩:=qz.ex;conv=>whnf
 exact p_ h jJ rfl rfl

noncomputable def Y6:gE :=
 p2 [qf 2 0] (p2 [p3 3 0,p1 4 0,p0 5 [.Bs 4] (.un .neg),p0 6 [.jq 3,.jq 5] .max,p1 2 6] .ret)
theorem adN:qo Tryz.prog Tn 31=some (Y6,7,[.tmp 2]):=by kernel_rfl
def JS (n:Int):Option Int :=
 some (max n (w (-n)))
theorem MT {n:Int} {v:Int} (h:JS n=some v):qw 31 [(h0 n)] (h0 v):=by
 refine qL eG adN rfl rfl fun Q bp=>?_;have jJ:qI [.tmp 2] Q (fun v=>(h0 v)) v:=fun T H bE=>bp _ T H bE;unfold JS at h;unfold Y6;conv=>whnf
 exact p_ h jJ rfl rfl
end Go.Proofs.YtkoioidpbbbaiaaGreat.Ab


namespace Go.Proofs.YtkoioidpbbbaiaaGreat.Ab
open Go
set_option maxRecDepth 20000
set_option maxHeartbeats 1000000
theorem agE (i:Nat):ql (i+1)=ql i++[(i:Int)]:=by unfold ql;rw [vB,sO];rfl
theorem U' {n:Nat} (aI:n≤1000) {K:List Int→Option (List Int)}:∀ (m i:Nat),i≤n→n-i<m→LN (n:Int) K m (ql i) (i:Int)=K (ql n)
 | 0,_,_,h=>absurd h (by omega)
 | m+1,i,hi,hm=>by
   rw [LN];by_cases aR:i<n
   ·rw [if_pos (decide_eq_true (by omega)),qC (by rw [KD];omega),Io i (by omega),←agE];exact U' aI m (i+1) (by omega) (by omega)
   ·(obtain rfl:i=n:=by omega);rw [if_neg (by simp)]
theorem acI {A B:List Int} {j:Nat} (aw:j<A.length) (aL:A.length≤1000) (I9:B.length≤1000) (K:List Int→List Int→Option (List Int)):LM A B K (j:Int)=K (A.take j++A.drop (j+1)) (B++[A[j]]):=by
 unfold LM;have ab:=List.length_take_le j A;rw [qC (by omega),qC (by omega),qC (by omega),tp,qC (by simp;omega),Io j (by omega),qC (by omega),tp,qC (by simp;omega),rr aw,tN]
theorem aeJ {A B:List Int} {j:Nat} (aw:j<A.length):((B++[A[j]])++(A.take j++A.drop (j+1))).Perm (B++A):=by
 have e:A=A.take j++A[j]::A.drop (j+1):=by rw [←s6 aw,List.take_append_drop]
 rw [sx];refine List.Perm.append_left B ?_;have:=(List.perm_middle (l₁:=A.take j) (a:=A[j]) (l₂:=A.drop (j+1))).symm;rw [←e] at this;exact this
theorem U_ {n:Nat} (aI:n≤1000) {Q:List Int} (bp:∀ b∈Q,0≤b∧b≤255) (ao:Q.length≤1000) {K:List Int→Option (List Int)}:∀ (m:Nat) (A B:List Int),A.length<m→(B++A).Perm (ql n) →
  ∃ r,qp n r∧JR Q K m A B (B.length:Int)=K r
 | 0,_,_,h,_=>absurd h (by omega)
 | m+1,A,B,hm,aB=>by
   rw [JR];have hlen:=aB.length_eq;rw [sy,KD] at hlen;by_cases aQ:0<A.length
   ·rw [if_pos (decide_eq_true (by omega)),Io B.length (by omega)];have next:∀ j:Nat,j<A.length→∃ r,qp n r∧LM A B (fun oT Gz=>JR Q K m oT Gz ((B.length+1:Nat):Int)) (j:Int)=K r:=fun j aw=>by
     rw [acI aw (by omega) (by omega)];have:=U_ aI bp ao (K:=K) m (A.take j++A.drop (j+1)) (B++[A[j]]) (by simp;omega) ((aeJ aw).trans aB);rw [show (B++[A[j]]).length=B.length+1 by simp] at this;exact this
    by_cases a_:0<Q.length
    ·rw [if_pos (decide_eq_true (by omega)),qC (by omega)];(have e1:((B.length:Nat):Int).tmod (Q.length:Int)=((B.length % Q.length:Nat):Int):=by rw [vw (by omega)];omega);have Q2:=uG B.length a_;rw [e1,qC (by omega),qC (by omega)];have af:=bp _ (Jp (l:=Q) (i:=((B.length % Q.length:Nat):Int)) (by omega));obtain ⟨v,ad⟩:∃ v:Nat,ix Q ((B.length % Q.length:Nat):Int)=(v:Int):=⟨(ix Q ((B.length % Q.length:Nat):Int)).toNat,by omega⟩;rw [ad] at af ⊢;(have b':(v:Int).tmod (A.length:Int)=((v % A.length:Nat):Int):=by rw [vw (by omega)];omega);rw [qD (n:=(v:Int)) (by omega),b'];exact next _ (uG _ aQ)
    ·rw [if_neg (by simpa using a_)];exact next 0 aQ
   ·rw [if_neg (by simpa using aQ)];obtain rfl:A=[]:=List.length_eq_zero_iff.1 (by omega);rw [sM] at aB;exact ⟨B,KA.2 aB,rfl⟩
theorem Yg {n:Nat} (aI:n≤1000) {Q:List Int} (bp:∀ b∈Q,0≤b∧b≤255) (ao:Q.length≤1000):∃ r,qp n r∧MR (n:Int) Q=some r:=by
 unfold MR;obtain ⟨r,ab,ae⟩:=U_ aI bp ao (K:=fun Km=>some Km) qj (ql n) [] (by rw [KD];exact Is (by omega)) (by rw [tN]);refine ⟨r,ab,?_⟩;rw [←ae];exact U' aI (K:=fun yn=>JR Q (fun Km=>some Km) qj yn [] 0) qj 0 (by omega) (Is (by omega))
theorem So (p:qb):LK p=some (decide (rk p=0)):=by
 unfold LK MO;rw [sb];by_cases h:(10:Int)<(p.1.length:Int)
 ·rw [if_pos (decide_eq_true h),decide_eq_false];intro ak;have:=(I6.1 ak).len;omega
 ·rw [if_neg (by simpa using h),Yq (by omega),sb]
theorem Vh {l:List Int} {n:Nat} (aI:n≤1000) (k:qp n l):∀ (m i:Nat),i≤n→n-i<m→LU l (n:Int) (fun _=>some true) m (i:Int)=some true
 | 0,_,_,h=>absurd h (by omega)
 | m+1,i,hi,hm=>by
   rw [LU];have ao:=k.1;by_cases aR:i<n
   ·have ai:=k.2.2 _ (Jp (l:=l) (i:=(i:Int)) (by omega));rw [if_pos (decide_eq_true (by omega)),qC (by omega),if_neg (by simpa using ai.1),qC (by omega),if_neg (by simpa using ai.2),qC (by omega),qC (by omega),tp,YI (by have:=List.length_take_le i l;omega),sb];rw [if_neg,Io i (by omega)]
    ·exact Vh aI k m (i+1) (by omega) (by omega)
    ·rw [decide_eq_true_eq,rr (by omega)];intro hm;obtain ⟨j,aw,e⟩:=List.getElem_of_mem hm;rw [List.getElem_take] at e;rw [List.length_take] at aw;have:=(vG k.2.1).1 e;omega
   ·rw [if_neg (by simp;omega)]
theorem ahN {l:List Int} {n:Nat} (aI:n≤1000) (k:qp n l):N_ l (n:Int)=some true:=by
 unfold N_;rw [if_neg (by simp [k.1])];exact Vh aI k qj 0 (by omega) (Is (by omega))
abbrev Js (p:qb):Int:=qx p (HQ p)
theorem VZ {p:qb} {o:List Int} (h:q7 p) (k:qp p.1.length o):rU p o=0:=Lv.2 ⟨h,k⟩
theorem N1 {p:qb} {o:List Int} (h:q7 p) (k:qp p.1.length o):Iw p o=some (qx p o,0):=by
 have:=h.len;have:=k.1;rw [Py (by omega) (by omega),if_pos (VZ h k)]
theorem Sr {p:qb} {o:List Int} (h:q7 p) (k:qp p.1.length o) {d:Int} (a1:p.2.1≤d∧d≤p.2.2):Jg p o d=some (qA p o 0 d,qA p o 1 d,0):=by
 have:=h.len;have:=k.1;rw [Sq (by omega) (by omega),if_pos (VZ h k),if_pos a1]
theorem Px {p:qb} (h:q7 p):KL p=some (Js p,true):=by
 have ao:=h.len;have al:=K1 p;unfold KL;rw [X_ (by omega),sb,Si (by omega),sb,if_pos (I6.2 h),if_pos (I6.2 h)];simp only;rw [if_neg (by simp),if_neg (by simp),ahN (by omega) al,sb,if_pos rfl,N1 h al,sb,if_pos (by simp),if_pos (by simp),Yk h al,sb];simp
theorem ags (n:Nat) (g:Nat→Int):qM (n+1) g=g 0+qM n fun i=>g (i+1):=by
 induction n with
 | zero=>simp [qM]
 | succ n a8=>rw [qM,a8];simp only [qM];omega
theorem XG:∀ (n:Nat) (g:Nat→Int),qM n (fun i=>g (n-1-i))=qM n g
 | 0,_=>rfl
 | n+1,g=>by
   rw [ags n g,←XG n fun i=>g (i+1)];simp only [qM];rw [show n+1-1-n=0 by omega,Int.add_comm (g 0)];congr 1;refine KC fun i hi=>?_;rw [show n+1-1-i=n-1-i+1 by omega]
theorem aer (S:List qt) (o:List Int) (a:Nat) (f:qt→Int) (aI:o.length % 2=1):rp S o.reverse a f=-(rp S o a f):=by
 unfold rp;rw [List.length_reverse];have e:-(qM o.length fun i=>if i % 2=a then qG o.length i*f (qF S o i) else 0)=qM o.length fun i => -1*(if i % 2=a then qG o.length i*f (qF S o i) else 0):=by rw [Sd];omega
 rw [e,←XG];refine KC fun i hi=>?_;have ah:qF S o.reverse (o.length-1-i)=qF S o i:=by
  unfold qF;congr 1;rw [rr (by simp;omega),rr hi,List.getElem_reverse];congr 1;omega
 have aB:qG o.length (o.length-1-i)=-(qG o.length i):=by unfold qG;omega
 by_cases a_:i % 2=a
 ·rw [if_pos (by omega),if_pos a_,ah,aB];grind
 ·rw [if_neg (by omega),if_neg a_];rfl
theorem abj {p:qb} (h:q7 p) {o:List Int} (k:qp p.1.length o):qx p o.reverse=qx p o:=by
 have aI:=h.n;rw [←k.1] at aI;have e:∀ a d,qA p o.reverse a d=-(qA p o a d):=fun a d=>aer _ _ _ _ (by omega);have m:∀ x:Int,max (-x) x=max x (-x):=fun x=>Int.max_comm _ _;unfold qx Hr;simp only [e,Int.neg_neg,m]
theorem afX {p:qb} (h:q7 p) {o:List Int} (k:qp p.1.length o):o.reverse≠o:=fun e=>by
 have ao:=h.len;have aI:=k.1;have ab:o.reverse[0]'(by simp;omega)=o[o.length-1]:=by rw [List.getElem_reverse];congr 1
 have ae:o.reverse[0]'(by simp;omega)=o[0]'(by omega):=by simp only [e]
 have:=(vG k.2.1).1 (ab.symm.trans ae);omega
theorem agB {α:Type} {l:List α} {x y:α} (aj:x∈l) (aY:y∈l) (bJ:x≠y):2≤l.length:=by
 match l with
 | []=>simp at aj
 | [a]=>simp at aj aY;exact absurd (aj.trans aY.symm) bJ
 | a::b::r=>simp
theorem abz {p:qb} (h:q7 p) {o:List Int} (k:qp p.1.length o) (aQ:qx p o=0):2≤JX p:=by
 unfold JX;refine agB (x:=o) (y:=o.reverse) (sX.2 ⟨Jt.2 k,decide_eq_true aQ⟩) (sX.2 ⟨Jt.2 ?_,decide_eq_true ((abj h k).trans aQ)⟩) (afX h k).symm;exact KA.2 ((List.reverse_perm o).trans (KA.1 k))
theorem MS {n:Int} (h:-1000000≤n∧n≤1000000):JS n=some (max n (-n)):=by
 unfold JS;rw [qD (by omega)]
theorem abi (p:qb) (o:List Int):qx p o=max (max (max (max (qA p o 0 p.2.1) (-(qA p o 0 p.2.1))) (max (qA p o 1 p.2.1) (-(qA p o 1 p.2.1)))) (max (qA p o 0 p.2.2) (-(qA p o 0 p.2.2)))) (max (qA p o 1 p.2.2) (-(qA p o 1 p.2.2))):=by
 unfold qx Hr;rw [←Int.max_assoc]
theorem abh {p:qb} {o:List Int} {d:Int} (ab:p.2.1≤d) (ae:d≤p.2.2):max (qA p o 0 d) (-(qA p o 0 d))≤qx p o∧max (qA p o 1 d) (-(qA p o 1 d))≤qx p o:=by
 have:=OA (p:=p) (o:=o) ab ae;have e:Hr p o d=max (max (qA p o 0 d) (-(qA p o 0 d))) (max (qA p o 1 d) (-(qA p o 1 d))):=rfl;unfold qx;generalize max (qA p o 0 d) (-(qA p o 0 d))=x at *;generalize max (qA p o 1 d) (-(qA p o 1 d))=y at *;omega
end Go.Proofs.YtkoioidpbbbaiaaGreat.Ab


namespace Go.Proofs.YtkoioidpbbbaiaaGreat.Ab
open Go
set_option maxRecDepth 20000
set_option maxHeartbeats 4000000
noncomputable def P3:gE :=
 p2 [p3 143 11,p1 144 13,p0 145 [.cv (.func 31 [] []),.nc 144] (.call 3),p1 146 14,p0 147 [.cv (.func 31 [] []),.nc 146] (.call 3),p1 148 16,p0 149 [.cv (.func 31 [] []),.nc 148] (.call 3),p1 150 17,p0 151 [.cv (.func 31 [] []),.nc 150] (.call 3),p0 152 [.jq 145,.jq 147,.jq 149,.jq 151] .max,qn 153 143 152 .eql,p1 154 153,cl 155 [.jq 19] 154 true .mU,⟨some 156,[.cv (.func 31 [] []),.nc 155],some (154,true),none,.call 3⟩,cl 157 [.nc 11] 154 true .mU,cl 158 [.Bs 156,.Bs 157] 154 true (.bin .leq),p0 159 [.Bs 154,.Bs 158,.cv (.bool false)] .pick,p1 160 159,cl 161 [.jq 20] 160 true .mU,⟨some 162,[.cv (.func 31 [] []),.nc 161],some (160,true),none,.call 3⟩,cl 163 [.jq 11] 160 true .mU,cl 164 [.Bs 162,.Bs 163] 160 true (.bin .leq),p0 165 [.Bs 160,.Bs 164,.cv (.bool false)] .pick,p1 166 165,⟨some 167,[.cv (.func 11 [] [])],some (166,true),none,.call 3⟩,p0 168 [.Bs 166,.Bs 167,.cv (.bool false)] .pick,p1 6 168] .ret
noncomputable def Zk:gE :=
 p2 [p0 3 [.jq 0] .box,p0 6 [.cv (.bool false)] .mU] (.seq (p2 [p0 24 [.nc 3] (.zE (.str 3)),p0 25 [.cv (.func 26 [] []),.nc 24] (.call 3),p0 26 [.Bs 25] (.un .not),p1 27 26,cl 28 [.nc 1] 27 false .mU,cl 29 [.jq 28] 27 false .zJ,cl 30 [.Bs 29,.cv (.int .i64 20)] 27 false (.bin .gtr),p0 31 [.Bs 27,.cv (.bool true),.Bs 30] .pick] (.cond (.nc 31) (p2 [p0 32 [.cv (.func 11 [] [])] (.call 3),p1 6 32] .ret) .skip)) (p2 [p0 34 [.nc 3] (.zE (.str 3)),p0 35 [.cv (.func 27 [] []),.nc 34] (.call 3),p1 33 35,qB 36 33 0,p0 37 [.Bs 33] (.ext 1),p1 7 36,p1 8 37] (p2 [p0 38 [.nc 3] (.yM 0),qh 39 38,qW 40 39,p1 41 1,p0 42 [.cv (.func 28 [] []),.nc 40,.nc 41] (.call 3),p1 9 42] (.seq (ra [p0 43 [.nc 3] (.yM 1),qv 44 43 0,qh 45 44,p1 46 2,p0 47 [.Bs 46] (.conv .i64),p0 48 [.nc 3] (.yM 1),qv 49 48 1,qh 50 49,p0 51 [.nc 3] (.yM 1),qv 52 51 0,qh 53 52,qn 54 50 53 .sub,qV 55 54 1,qn 56 47 55 .rem,qn 57 45 56 .add,p1 10 57]) (p2 [p0 59 [.nc 3] (.zE (.str 3)),p3 60 9,p0 61 [.cv (.func 29 [] []),.nc 59,.nc 60] (.call 3),p1 58 61,qB 62 58 0,p0 63 [.Bs 58] (.ext 1),p1 11 62,p1 12 63] (p2 [p0 65 [.nc 3] (.zE (.str 3)),p3 66 9,p0 67 [.nc 3] (.yM 1),qv 68 67 0,qh 69 68,p0 70 [.cv (.func 30 [] []),.nc 65,.nc 66,.nc 69] (.call 3),p1 64 70,qB 71 64 0,qB 72 64 1,p0 73 [.Bs 64] (.ext 2),p1 13 71,p1 14 72,p1 15 73] (p2 [p0 75 [.nc 3] (.zE (.str 3)),p3 76 9,p0 77 [.nc 3] (.yM 1),qv 78 77 1,qh 79 78,p0 80 [.cv (.func 30 [] []),.nc 75,.nc 76,.nc 79] (.call 3),p1 74 80,qB 81 74 0,qB 82 74 1,p0 83 [.Bs 74] (.ext 2),p1 16 81,p1 17 82,p1 18 83] (p2 [p0 85 [.nc 3] (.zE (.str 3)),p1 86 9,p1 87 10,p0 88 [.cv (.func 30 [] []),.nc 85,.nc 86,.nc 87] (.call 3),p1 84 88,qB 89 84 0,qB 90 84 1,p0 91 [.Bs 84] (.ext 2),p1 19 89,p1 20 90,p1 21 91] (p2 [p0 93 [.Bs 3] (.zE (.str 3)),p0 94 [.cv (.func 16 [] []),.nc 93] (.call 3),p1 92 94,qB 95 92 0,p0 96 [.Bs 92] (.ext 1),p1 22 95,p1 23 96] (.seq (p2 [p1 97 8,p0 98 [.Bs 97] (.un .not),p1 99 98,cl 100 [.jq 12] 99 false .mU,cl 101 [.Bs 100,.cv (.int .i64 0)] 99 false (.bin .neq),p0 102 [.Bs 99,.cv (.bool true),.Bs 101] .pick,p1 103 102,cl 104 [.jq 15] 103 false .mU,cl 105 [.Bs 104,.cv (.int .i64 0)] 103 false (.bin .neq),p0 106 [.Bs 103,.cv (.bool true),.Bs 105] .pick,p1 107 106,cl 108 [.jq 18] 107 false .mU,cl 109 [.Bs 108,.cv (.int .i64 0)] 107 false (.bin .neq),p0 110 [.Bs 107,.cv (.bool true),.Bs 109] .pick,p1 111 110,cl 112 [.jq 21] 111 false .mU,cl 113 [.Bs 112,.cv (.int .i64 0)] 111 false (.bin .neq),p0 114 [.Bs 111,.cv (.bool true),.Bs 113] .pick,p1 115 114,cl 116 [.jq 23] 115 false .mU,cl 117 [.Bs 116,.cv (.int .i64 0)] 115 false (.bin .neq),p0 118 [.Bs 115,.cv (.bool true),.Bs 117] .pick,p1 119 118,cl 120 [.nc 11] 119 false .mU,cl 121 [.nc 7] 119 false .mU,cl 122 [.Bs 120,.Bs 121] 119 false (.bin .lss),p0 123 [.Bs 119,.cv (.bool true),.Bs 122] .pick,p1 124 123,cl 125 [.nc 22] 124 false .mU,cl 126 [.Bs 125,.cv (.int .i64 0)] 124 false (.bin .gtr),cl 127 [.jq 7] 124 false .mU,cl 128 [.Bs 127,.cv (.int .i64 0)] 124 false (.bin .eql),cl 129 [.Bs 126,.Bs 128] 124 false (.o3 true),p0 130 [.Bs 124,.cv (.bool true),.Bs 129] .pick,p1 131 130,cl 132 [.nc 22] 131 false .mU,cl 133 [.Bs 132,.cv (.int .i64 0)] 131 false (.bin .lss),p0 134 [.Bs 131,.cv (.bool true),.Bs 133] .pick,p1 135 134,cl 136 [.nc 11] 135 false .mU,cl 137 [.Bs 136,.cv (.int .i64 0)] 135 false (.bin .eql),cl 138 [.jq 137] 135 false .mU,cl 139 [.jq 22] 138 true .mU,cl 140 [.Bs 139,.cv (.int .i64 2)] 138 true (.bin .lss),cl 141 [.Bs 138,.Bs 140,.cv (.bool false)] 135 false .pick,p0 142 [.Bs 135,.cv (.bool true),.Bs 141] .pick] (.cond (.nc 142) (p2 [p0 6 [.cv (.bool false)] .mU] .ret) .skip)) P3))))))))))
theorem ad3:qo Tryz.prog Qj 6=some (Zk,169,[.tmp 6]):=by kernel_rfl
def MZ (q8:(Int×Int)) (rm:(Int×Int×Int)) (rZ:(Int×Int×Int)) (rO:(Int×Int×Int))  : Option Bool :=
 (JS rm.1).bind fun IY =>
 (JS rm.2.1).bind fun Jv =>
 (JS rZ.1).bind fun Jw =>
 (JS rZ.2.1).bind fun Lw =>
 if (decide (q8.1=(max (max (max IY Jv) Jw) Lw)))=true then
  (JS rO.1).bind fun Lx =>
  if (decide (Lx≤q8.1))=true then
   (JS rO.2.1).bind fun Mx =>
   if (decide (Mx≤q8.1))=true then
    (H3).bind fun My =>
    some My
   else
    some false
  else
   some false
 else
  some false
def PD (p:(qg×(Int×Int))) (qJ:p9) (number:Int):Option Bool :=
 (LK p).bind fun aS =>
 if aS=true then
  if (decide ((20:Int)<(qJ.length:Int)))=true then
   (H3).bind fun bj =>
   some bj
  else
   (KL p).bind fun eK =>
   (MR (p.1.length:Int) qJ).bind fun q5 =>
   qk ((w ((w (p.2.2-p.2.1))+(1:Int)))≠0) <|
   (Iw p q5).bind fun q8 =>
   (Jg p q5 p.2.1).bind fun rm =>
   (Jg p q5 p.2.2).bind fun rZ =>
   (Jg p q5 (w (p.2.1+((w number).tmod (w ((w (p.2.2-p.2.1))+(1:Int))))))).bind fun rO =>
   (KI p).bind fun HH =>
   if eK.2=true then
    if (decide (q8.2≠(0:Int)))=true then
     some false
    else
     if (decide (rm.2.2≠(0:Int)))=true then
      some false
     else
      if (decide (rZ.2.2≠(0:Int)))=true then
       some false
      else
       if (decide (rO.2.2≠(0:Int)))=true then
        some false
       else
        if (decide (HH.2≠(0:Int)))=true then
         some false
        else
         if (decide (q8.1<eK.1))=true then
          some false
         else
          if ((decide ((0:Int)<HH.1)) == (decide (eK.1=(0:Int))))=true then
           if (decide (HH.1<(0:Int)))=true then
            some false
           else
            if (decide (q8.1=(0:Int)))=true then
             if (decide (HH.1<(2:Int)))=true then
              some false
             else
              MZ q8 rm rZ rO
            else
             MZ q8 rm rZ rO
          else
           some false
   else
    some false
 else
  (H3).bind fun Mz =>
  some Mz
theorem YH {q8:(Int×Int)} {rm:(Int×Int×Int)} {rZ:(Int×Int×Int)} {rO:(Int×Int×Int)} {v:Bool} {Q:Hm} {bx:ar} {qd:List I}  (jJ:qI [.tmp 6] Q (fun v=>(B v)) v) (qz:rv 169 [(11,(h0 q8.1)),(13,(h0 rm.1)),(14,(h0 rm.2.1)),(16,(h0 rZ.1)),(17,(h0 rZ.2.1)),(19,(h0 rO.1)),(20,(h0 rO.2.1))] qd) (h:MZ q8 rm rZ rO  = some v) :
  dQ Tryz.prog Qj 6 0 none P3 qd [bx] Q:=by
 obtain ⟨rB,rfl⟩:=qz.ex;unfold MZ at h;unfold P3;conv=>whnf
 obtain ⟨IY,Nh,h⟩:=p8 h;refine ⟨(p6 rfl rfl),_,MT Nh,?_⟩;conv=>whnf
 obtain ⟨Jv,K_,h⟩:=p8 h;refine ⟨(p6 rfl rfl),_,MT K_,?_⟩;conv=>whnf
 obtain ⟨Jw,La,h⟩:=p8 h;refine ⟨(p6 rfl rfl),_,MT La,?_⟩;conv=>whnf
 obtain ⟨Lw,Lb,h⟩:=p8 h;refine ⟨(p6 rfl rfl),_,MT Lb,?_⟩;conv=>whnf
 refine bs h (fun J6 h=>?_) fun J6 h=>?_
 ·rw [J6];conv=>whnf
  obtain ⟨Lx,Ni,h⟩:=p8 h;refine ⟨(p6 rfl rfl),_,MT Ni,?_⟩;conv=>whnf
  refine bs h (fun Lc h=>?_) fun Lc h=>?_
  ·rw [Lc];(conv=>whnf);obtain ⟨Mx,Nj,h⟩:=p8 h;refine ⟨(p6 rfl rfl),_,MT Nj,?_⟩;(conv=>whnf);refine bs h (fun Ld h=>?_) fun Ld h=>?_
   ·rw [Ld];(conv=>whnf);obtain ⟨My,Le,h⟩:=p8 h;refine ⟨rfl,_,Kg Le,?_⟩;(conv=>whnf);exact p_ h jJ rfl rfl
   ·rw [Ld];(conv=>whnf);exact p_ h jJ rfl rfl
  ·rw [Lc];(conv=>whnf);exact p_ h jJ rfl rfl
 ·rw [J6];conv=>whnf
  exact p_ h jJ rfl rfl
theorem ahT {p:(qg×(Int×Int))} {qJ:p9} {number:Int} {v:Bool} (h:PD p qJ number=some v):qw 6 [(.agg [(.av (p.1.flatMap p7) p.1.length .shared),(h0 p.2.1),(h0 p.2.2)]),(.av (qJ.map r1) qJ.length .shared),(r1 number)] (B v):=by
 refine qL eG ad3 rfl rfl fun Q bp=>?_;have jJ:qI [.tmp 6] Q (fun v=>(B v)) v:=fun T H bE=>bp _ T H bE;unfold PD at h;unfold Zk;obtain ⟨HD,qE⟩:∃ c,P3=c:=⟨_,rfl⟩;rw [qE];conv=>whnf
 obtain ⟨aS,gM,h⟩:=p8 h;refine ⟨qi.pl,_,Pw gM,?_⟩;conv=>whnf
 cases aS
 ·conv=>whnf
  replace h:=rW rfl h;obtain ⟨Mz,Lf,h⟩:=p8 h;refine ⟨rfl,_,Kg Lf,?_⟩;conv=>whnf
  exact p_ h jJ rfl rfl
 ·conv=>whnf
  replace h:=rV rfl h;refine bs h (fun gN h=>?_) fun gN h=>?_
  ·rw [gN];(conv=>whnf);obtain ⟨bj,qs,h⟩:=p8 h;refine ⟨rfl,_,Kg qs,?_⟩;(conv=>whnf);exact p_ h jJ rfl rfl
  ·rw [gN];(conv=>whnf);obtain ⟨eK,qK,h⟩:=p8 h;refine ⟨qi.pl,_,LL qK,?_⟩;(conv=>whnf);obtain ⟨q5,qY,h⟩:=p8 h;refine ⟨qi.pl,_,Sp qY,?_⟩;(conv=>whnf);refine qP h id fun rn h=>?_;(conv=>whnf);obtain ⟨q8,qS,h⟩:=p8 h;refine ⟨qi.pl,_,JF qS,?_⟩;(conv=>whnf);obtain ⟨rm,ry,h⟩:=p8 h;refine ⟨qi.pl,_,N2 ry,?_⟩;(conv=>whnf);obtain ⟨rZ,q_,h⟩:=p8 h;refine ⟨qi.pl,_,N2 q_,?_⟩;(conv=>whnf);obtain ⟨rO,r2,h⟩:=p8 h;refine ⟨qi.pl,_,N2 r2,?_⟩;(conv=>whnf);obtain ⟨HH,I_,h⟩:=p8 h;refine ⟨qi.pl,_,Yc I_,?_⟩;(conv=>whnf);refine bs h (fun IQ h=>?_) fun IQ h=>?_
   ·rw [IQ];(conv=>whnf);refine bs h (fun I' h=>?_) fun I' h=>?_
    ·rw [I'];(conv=>whnf);exact p_ h jJ rfl rfl
    ·rw [I'];(conv=>whnf);refine bs h (fun J0 h=>?_) fun J0 h=>?_
     ·rw [J0];(conv=>whnf);exact p_ h jJ rfl rfl
     ·rw [J0];(conv=>whnf);refine bs h (fun IU h=>?_) fun IU h=>?_
      ·rw [IU];(conv=>whnf);exact p_ h jJ rfl rfl
      ·rw [IU];(conv=>whnf);refine bs h (fun J1 h=>?_) fun J1 h=>?_
       ·rw [J1];(conv=>whnf);exact p_ h jJ rfl rfl
       ·rw [J1];(conv=>whnf);refine bs h (fun J2 h=>?_) fun J2 h=>?_
        ·rw [J2];(conv=>whnf);exact p_ h jJ rfl rfl
        ·rw [J2];(conv=>whnf);refine bs h (fun J3 h=>?_) fun J3 h=>?_
         ·rw [J3];(conv=>whnf);exact p_ h jJ rfl rfl
         ·rw [J3];(conv=>whnf);refine bs h (fun J4 h=>?_) fun J4 h=>?_
          ·rw [J4];(conv=>whnf);refine bs h (fun J5 h=>?_) fun J5 h=>?_
           ·rw [J5];(conv=>whnf);exact p_ h jJ rfl rfl
           ·rw [J5];(conv=>whnf);refine bs h (fun K8 h=>?_) fun K8 h=>?_
            ·rw [K8];(conv=>whnf);refine bs h (fun K9 h=>?_) fun K9 h=>?_
             ·rw [K9];(conv=>whnf);exact p_ h jJ rfl rfl
             ·rw [K9];(conv=>whnf);subst qE;refine YH ?_ (by exact ⟨rfl,rfl⟩) h;exact fun T H bE=>jJ T H bE
            ·rw [K8];(conv=>whnf);subst qE;refine YH ?_ (by exact ⟨rfl,rfl⟩) h;exact fun T H bE=>jJ T H bE
          ·rw [J4];(conv=>whnf);exact p_ h jJ rfl rfl
   ·rw [IQ];(conv=>whnf);exact p_ h jJ rfl rfl
end Go.Proofs.YtkoioidpbbbaiaaGreat.Ab


namespace Go.Proofs.YtkoioidpbbbaiaaGreat.Ab
open Go
set_option maxRecDepth 20000
set_option maxHeartbeats 1000000
theorem acJ {p:qb} (h:q7 p) {o:List Int} (k:qp p.1.length o) {d:Int} (ab:p.2.1≤d) (ae:d≤p.2.2) :
  MZ (qx p o,0) (qA p o 0 p.2.1,qA p o 1 p.2.1,0) (qA p o 0 p.2.2,qA p o 1 p.2.2,0) (qA p o 0 d,qA p o 1 d,0)=some true:=by
 have bD:=h.lo;have GO:=h.hi;have hle:=h.le;have bm:=Ja (a:=0) h k (d:=p.2.1) (by omega);have cw:=Ja (a:=1) h k (d:=p.2.1) (by omega);have e2:=Ja (a:=0) h k (d:=p.2.2) (by omega);have lQ:=Ja (a:=1) h k (d:=p.2.2) (by omega);have aaC:=Ja (a:=0) h k (d:=d) (by omega);have aaD:=Ja (a:=1) h k (d:=d) (by omega);obtain ⟨a7,a9⟩:=abh (o:=o) ab ae;unfold MZ;simp only;rw [MS (by omega),sb,MS (by omega),sb,MS (by omega),sb,MS (by omega),sb,if_pos (decide_eq_true (abi p o)),MS (by omega),sb,if_pos (decide_eq_true a7),MS (by omega),sb,if_pos (decide_eq_true a9),works];rfl
theorem ahU (p:qb) {Q:List Int} (bp:∀ b∈Q,0≤b∧b≤255) {Ju:Int} (pV:0≤Ju∧Ju≤255):PD p Q Ju=some true:=by
 unfold PD;rw [So,sb];by_cases ak:rk p=0
 ·rw [if_pos (decide_eq_true ak)];have h:=I6.1 ak;have bD:=h.lo;have GO:=h.hi;have hle:=h.le;have aI:=h.len;by_cases a_:(20:Int)<(Q.length:Int)
  ·rw [if_pos (decide_eq_true a_),works];rfl
  ·rw [if_neg (by simpa using a_),Px h,sb];obtain ⟨o,k,aq⟩:=Yg (n:=p.1.length) (by omega) bp (by omega);(have rC:w (w (p.2.2-p.2.1)+1)=p.2.2-p.2.1+1:=by rw [qD (n:=p.2.2-p.2.1) (by omega),qD (by omega)]);have da:0≤Ju.tmod (p.2.2-p.2.1+1):=vJ _ pV.1;have db:=vK Ju (show 0<p.2.2-p.2.1+1 by omega);rw [aq,sb,rC,qC (by omega),N1 h k,sb,Sr h k ⟨sR _,hle⟩,sb,Sr h k ⟨hle,sR _⟩,sb,qD (n:=Ju) (by omega),qD (n:=p.2.1+_) (by omega),Sr h k (by omega),sb,Yb (by omega),sb,if_pos ak];have GY:=M9 k;have pE:=acP p;have zc:=Qw p (HQ p);simp only;rw [if_pos trivial,if_neg (by simp),if_neg (by simp),if_neg (by simp),if_neg (by simp),if_neg (by simp),if_neg (by simpa using GY)];have e:(decide ((0:Int)<(JX p:Int)) == decide (Js p=0))=true:=by
    rw [beq_iff_eq,Bool.eq_iff_iff,decide_eq_true_eq,decide_eq_true_eq,pE];omega
   rw [if_pos e,if_neg (by simp)];have aw:=acJ h k (d:=p.2.1+Ju.tmod (p.2.2-p.2.1+1)) (by omega) (by omega);by_cases aQ:qx p o=0
   ·have:=abz h k aQ;rw [if_pos (decide_eq_true aQ),if_neg (by simp;omega)];exact aw
   ·rw [if_neg (by simpa using aQ)];exact aw
 ·rw [if_neg (by simpa using ak),works];rfl
theorem abn (p:qb) {Q:List Int} (bp:∀ b∈Q,0≤b∧b≤255) {Ju:Int} (pV:0≤Ju∧Ju≤255):qw 6 [V2 p,.av (Q.map r1) Q.length .shared,r1 Ju] (B true):=ahT (ahU p bp pV)
end Go.Proofs.YtkoioidpbbbaiaaGreat.Ab


namespace Go.Proofs.YtkoioidpbbbaiaaGreat.Ab
open Go
set_option maxRecDepth 20000
set_option maxHeartbeats 4000000
noncomputable def P7:gE :=
 .loop (some (p' false [1,1,3,1,5,4,177])) (.seq (p2 [p3 74 14,p0 75 [.nc 5] (.yM 0),qh 76 75,qW 77 76,qn 78 74 77 .lss] (.cond (.nc 78) .skip (.exit 0))) (.seq (.block 1 (ra [p0 81 [.nc 13] (.yM 0),p0 82 [.Bs 81] .take,p0 83 [.nc 5] (.yM 0),p0 84 [.Bs 83] (.zF .one),p3 85 14,re 86 84 85 2,qv 87 86 0,p0 88 [.Bs 87] (.zF .one),p3 89 11,p0 90 [.nc 5] (.yM 0),p0 91 [.Bs 90] (.zF .one),p3 92 14,re 93 91 92 2,qv 94 93 1,p0 95 [.Bs 94] (.zF .one),qn 96 89 95 .mul,qn 97 88 96 .add,p0 98 [.nc 5] (.yM 0),p0 99 [.Bs 98] (.zF .one),p3 100 14,re 101 99 100 2,qv 102 101 1,p0 103 [.Bs 102] (.zF .one),p0 104 [.Bs 97,.Bs 103] (.build [.int .i64 0,.int .i64 0] [(0,1),(1,1)]),p0 105 [.Bs 104] (.yB 1 2 [.int .i64 0,.int .i64 0] [0]),p0 106 [.jq 82,.jq 105] (.app 2 16),p0 107 [.nc 13] (.yM 0),⟨none,[.jq 107,.jq 106],none,none,.st 1⟩])) (qO [p1 79 14,qV 80 79 1,p1 14 80])))
noncomputable def Zy:gE :=
 p2 [p0 5 [.jq 0] .yy,p0 10 [.cv (.bool false)] .mU] (.seq (p2 [p0 28 [.nc 5] (.zE (.str 3)),p0 29 [.cv (.func 26 [] []),.nc 28] (.call 3),p0 30 [.Bs 29] (.un .not),p1 31 30,cl 32 [.nc 1] 31 false .mU,cl 33 [.jq 32] 31 false .zJ,cl 34 [.Bs 33,.cv (.int .i64 20)] 31 false (.bin .gtr),p0 35 [.Bs 31,.cv (.bool true),.Bs 34] .pick] (.cond (.nc 35) (p2 [p0 36 [.cv (.func 11 [] [])] (.call 3),p1 10 36] .ret) .skip)) (p2 [p1 37 4,p0 38 [.Bs 37] (.conv .i64),p0 39 [.nc 5] (.yM 1),qv 40 39 0,qh 41 40,qV 42 41 1,qn 43 38 42 .rem,p1 11 43] (p2 [p0 44 [.nc 5] (.yM 0),qh 45 44,p0 46 [.nc 5] (.yM 1),qv 47 46 0,qh 48 47,p1 49 2,p0 50 [.Bs 49] (.conv .i64),qn 51 48 50 .sub,p0 52 [.cv (.int .i64 0),.jq 51] .max,p0 53 [.nc 5] (.yM 1),qv 54 53 1,qh 55 54,p1 56 3,p0 57 [.Bs 56] (.conv .i64),qn 58 55 57 .add,p0 59 [.cv (.int .i64 50),.jq 58] .min,p0 60 [.Bs 52,.Bs 59] (.build [.int .i64 0,.int .i64 0] [(0,1),(1,1)]),p0 61 [.Bs 45,.Bs 60] (.build [.av [] 0 .full,.int .i64 0,.int .i64 0] [(0,1),(1,2)]),p0 12 [] (.alloc [.av [] 0 .full,.int .i64 0,.int .i64 0]),⟨none,[.nc 12,.jq 61],none,none,.st 3⟩] (p2 [p0 62 [.nc 5] (.yM 1),qv 63 62 0,qh 64 63,p3 65 11,qn 66 64 65 .sub,p0 67 [.nc 5] (.yM 1),qv 68 67 1,qh 69 68,p3 70 11,qn 71 69 70 .sub,p0 72 [.Bs 66,.Bs 71] (.build [.int .i64 0,.int .i64 0] [(0,1),(1,1)]),p0 73 [.Bs 72] (.build [.av [] 0 .full,.int .i64 0,.int .i64 0] [(1,2)]),p0 13 [] (.alloc [.av [] 0 .full,.int .i64 0,.int .i64 0]),⟨none,[.nc 13,.jq 73],none,none,.st 3⟩] (.seq (p2 [qf 14 0] (.block 0 P7)) (p2 [p0 108 [.nc 5] (.yM 0),qh 109 108,qW 110 109,p1 111 1,p0 112 [.cv (.func 28 [] []),.nc 110,.nc 111] (.call 3),p1 15 112] (p2 [p0 114 [.nc 5] (.zE (.str 3)),p0 115 [.cv (.func 27 [] []),.nc 114] (.call 3),p1 113 115,qB 116 113 0,p0 117 [.Bs 113] (.ext 1),p1 16 116,p1 17 117] (p2 [p0 119 [.nc 12] (.zE (.str 3)),p0 120 [.cv (.func 27 [] []),.nc 119] (.call 3),p1 118 120,qB 121 118 0,p0 122 [.Bs 118] (.ext 1),p1 18 121,p1 19 122] (p2 [p0 124 [.Bs 5] (.zE (.str 3)),p3 125 15,p0 126 [.cv (.func 29 [] []),.nc 124,.nc 125] (.call 3),p1 123 126,qB 127 123 0,p0 128 [.Bs 123] (.ext 1),p1 20 127,p1 21 128] (p2 [p0 130 [.Bs 12] (.zE (.str 3)),p3 131 15,p0 132 [.cv (.func 29 [] []),.nc 130,.nc 131] (.call 3),p1 129 132,qB 133 129 0,p0 134 [.Bs 129] (.ext 1),p1 22 133,p1 23 134] (.seq (p2 [p1 135 17,p0 136 [.Bs 135] (.un .not),p1 137 136,cl 138 [.jq 19] 137 false .mU,cl 139 [.Bs 138] 137 false (.un .not),p0 140 [.Bs 137,.cv (.bool true),.Bs 139] .pick,p1 141 140,cl 142 [.jq 21] 141 false .mU,cl 143 [.Bs 142,.cv (.int .i64 0)] 141 false (.bin .neq),p0 144 [.Bs 141,.cv (.bool true),.Bs 143] .pick,p1 145 144,cl 146 [.jq 23] 145 false .mU,cl 147 [.Bs 146,.cv (.int .i64 0)] 145 false (.bin .neq),p0 148 [.Bs 145,.cv (.bool true),.Bs 147] .pick,p1 149 148,cl 150 [.jq 18] 149 false .mU,cl 151 [.nc 16] 149 false .mU,cl 152 [.Bs 150,.Bs 151] 149 false (.bin .lss),p0 153 [.Bs 149,.cv (.bool true),.Bs 152] .pick,p1 154 153,cl 155 [.jq 22] 154 false .mU,cl 156 [.nc 20] 154 false .mU,cl 157 [.Bs 155,.Bs 156] 154 false (.bin .lss),p0 158 [.Bs 154,.cv (.bool true),.Bs 157] .pick] (.cond (.nc 158) (p2 [p0 10 [.cv (.bool false)] .mU] .ret) .skip)) (.seq (p2 [p0 159 [.nc 13] (.zE (.str 3)),p0 160 [.cv (.func 26 [] []),.nc 159] (.call 3),p0 161 [.Bs 160] (.un .not)] (.cond (.nc 161) (p2 [p0 162 [.cv (.func 11 [] [])] (.call 3),p1 10 162] .ret) .skip)) (p2 [p0 164 [.nc 13] (.zE (.str 3)),p0 165 [.cv (.func 27 [] []),.nc 164] (.call 3),p1 163 165,qB 166 163 0,p0 167 [.Bs 163] (.ext 1),p1 24 166,p1 25 167] (p2 [p0 169 [.Bs 13] (.zE (.str 3)),p1 170 15,p0 171 [.cv (.func 29 [] []),.nc 169,.nc 170] (.call 3),p1 168 171,qB 172 168 0,p0 173 [.Bs 168] (.ext 1),p1 26 172,p1 27 173] (p2 [p1 174 25,p1 175 174,cl 176 [.jq 24] 175 true .mU,cl 177 [.jq 16] 175 true .mU,cl 178 [.Bs 176,.Bs 177] 175 true (.bin .eql),p0 179 [.Bs 175,.Bs 178,.cv (.bool false)] .pick,p1 180 179,cl 181 [.jq 27] 180 true .mU,cl 182 [.Bs 181,.cv (.int .i64 0)] 180 true (.bin .eql),p0 183 [.Bs 180,.Bs 182,.cv (.bool false)] .pick,p1 184 183,cl 185 [.jq 26] 184 true .mU,cl 186 [.jq 20] 184 true .mU,cl 187 [.Bs 185,.Bs 186] 184 true (.bin .eql),p0 188 [.Bs 184,.Bs 187,.cv (.bool false)] .pick,p1 189 188,⟨some 190,[.cv (.func 11 [] [])],some (189,true),none,.call 3⟩,p0 191 [.Bs 189,.Bs 190,.cv (.bool false)] .pick,p1 10 191] .ret)))))))))))))))
theorem aeg:qo Tryz.prog Qr 9=some (Zy,192,[.tmp 10]):=by kernel_rfl
def L1 (p:(qg×(Int×Int))) (rL:Int) (qa:qg→Option Bool):Nat→Int→qg→Option Bool
 | 0,_,_=>none
 | m+1,s1,s2 =>
   if (decide (s1<(p.1.length:Int)))=true then
    qk (0≤s1∧s1<(p.1.length:Int)) <|
    qk (0≤s1∧s1<(p.1.length:Int)) <|
    qk (0≤s1∧s1<(p.1.length:Int)) <|
    qk ((s2.length+1)*16≤140737488355328) <|
    L1 p rL qa m (w (s1+(1:Int))) (s2++[((w ((ix p.1 s1).1+(w (((w rL).tmod (w (p.2.1+(1:Int))))*(ix p.1 s1).2)))),(ix p.1 s1).2)])
   else
    qa s2
def PL (p:(qg×(Int×Int))) (qJ:p9) (low high rL:Int):Option Bool :=
 (LK p).bind fun aS =>
 if aS=true then
  if (decide ((20:Int)<(qJ.length:Int)))=true then
   (H3).bind fun bj =>
   some bj
  else
   qk ((w (p.2.1+(1:Int)))≠0) <|
   L1 p rL (fun yn =>
     (MR (p.1.length:Int) qJ).bind fun eK =>
     (KL p).bind fun q5 =>
     (KL (p.1,((max (0:Int) (w (p.2.1-(w low)))),(min (50:Int) (w (p.2.2+(w high))))))).bind fun q8 =>
     (Iw p eK).bind fun rm =>
     (Iw (p.1,((max (0:Int) (w (p.2.1-(w low)))),(min (50:Int) (w (p.2.2+(w high)))))) eK).bind fun rZ =>
     if q5.2=true then
      if q8.2=true then
       if (decide (rm.2≠(0:Int)))=true then
        some false
       else
        if (decide (rZ.2≠(0:Int)))=true then
         some false
        else
         if (decide (q8.1<q5.1))=true then
          some false
         else
          if (decide (rZ.1<rm.1))=true then
           some false
          else
           (LK (yn,((w (p.2.1-((w rL).tmod (w (p.2.1+(1:Int)))))),(w (p.2.2-((w rL).tmod (w (p.2.1+(1:Int))))))))).bind fun rO =>
           if rO=true then
            (KL (yn,((w (p.2.1-((w rL).tmod (w (p.2.1+(1:Int)))))),(w (p.2.2-((w rL).tmod (w (p.2.1+(1:Int))))))))).bind fun HH =>
            (Iw (yn,((w (p.2.1-((w rL).tmod (w (p.2.1+(1:Int)))))),(w (p.2.2-((w rL).tmod (w (p.2.1+(1:Int)))))))) eK).bind fun IY =>
            if HH.2=true then
             if (decide (HH.1=q5.1))=true then
              if (decide (IY.2=(0:Int)))=true then
               if (decide (IY.1=rm.1))=true then
                (H3).bind fun Jv =>
                some Jv
               else
                some false
              else
               some false
             else
              some false
            else
             some false
           else
            (H3).bind fun Jw =>
            some Jw
      else
       some false
     else
      some false) qj (0:Int) ([]:List (Int×Int))
 else
  (H3).bind fun ND =>
  some ND
theorem ah8 {p:(qg×(Int×Int))} {rL:Int} {qa:qg→Option Bool} {s1:Int} {s2:qg} {qJ:p9} {low:Int} {high:Int} {v:Bool} {Q:Hm}   {H8:hE} (ri:∀ (yn:qg) (qd:List I),qa yn=some v→rv 192 [(1,(.av (qJ.map r1) qJ.length .shared)),(5,(.bS [(q2 p.1 .shared),(h0 p.2.1),(h0 p.2.2)])),(12,(.ptr 0 0)),(13,(.ptr 1 0))] qd→Q (.exit 0) qd [ar.cells [(q2 p.1 .shared),(h0 (max (0:Int) (w (p.2.1-(w low))))),(h0 (min (50:Int) (w (p.2.2+(w high)))))],ar.cells [(.av (yn.flatMap HA) yn.length .full),(h0 (w (p.2.1-((w rL).tmod (w (p.2.1+(1:Int))))))),(h0 (w (p.2.2-((w rL).tmod (w (p.2.1+(1:Int)))))))]]) (Q0:∀ (yn:qg) (qd:List I),qa yn=some v→rv 192 [(1,(.av (qJ.map r1) qJ.length .shared)),(5,(.bS [(q2 p.1 .shared),(h0 p.2.1),(h0 p.2.2)])),(12,(.ptr 0 0)),(13,(.ptr 1 0))] qd→Q (.exit 0) qd [ar.cells [(q2 p.1 .shared),(h0 (max (0:Int) (w (p.2.1-(w low))))),(h0 (min (50:Int) (w (p.2.2+(w high)))))],ar.cells [(.av (yn.flatMap HA) yn.length (.own 2)),(h0 (w (p.2.1-((w rL).tmod (w (p.2.1+(1:Int))))))),(h0 (w (p.2.2-((w rL).tmod (w (p.2.1+(1:Int)))))))]]) (Lo:(H8=hE.full∨H8=(.own 2))) {T:List I} (b0:eZ (p' false [1,1,3,1,5,4,177]) T=qc 192 [(1,(.av (qJ.map r1) qJ.length .shared)),(5,(.bS [(q2 p.1 .shared),(h0 p.2.1),(h0 p.2.2)])),(11,(h0 ((w rL).tmod (w (p.2.1+(1:Int)))))),(12,(.ptr 0 0)),(13,(.ptr 1 0)),(14,(h0 s1))]) (h:L1 p rL qa qj s1 s2=some v) :
  dQ Tryz.prog Qr 9 0 none P7 T [ar.cells [(q2 p.1 .shared),(h0 (max (0:Int) (w (p.2.1-(w low))))),(h0 (min (50:Int) (w (p.2.2+(w high)))))],ar.cells [(.av (s2.flatMap HA) s2.length H8),(h0 (w (p.2.1-((w rL).tmod (w (p.2.1+(1:Int))))))),(h0 (w (p.2.2-((w rL).tmod (w (p.2.1+(1:Int)))))))]] Q:=by
 unfold P7;refine wp_loop b0 ?_;refine .intro (fun m T H=>∃ (s1:Int) (s2:qg) (H8:hE),(H8=hE.full∨H8=(.own 2))∧T=qc 192 [(1,(.av (qJ.map r1) qJ.length .shared)),(5,(.bS [(q2 p.1 .shared),(h0 p.2.1),(h0 p.2.2)])),(11,(h0 ((w rL).tmod (w (p.2.1+(1:Int)))))),(12,(.ptr 0 0)),(13,(.ptr 1 0)),(14,(h0 s1))]∧H=[ar.cells [(q2 p.1 .shared),(h0 (max (0:Int) (w (p.2.1-(w low))))),(h0 (min (50:Int) (w (p.2.2+(w high)))))],ar.cells [(.av (s2.flatMap HA) s2.length H8),(h0 (w (p.2.1-((w rL).tmod (w (p.2.1+(1:Int))))))),(h0 (w (p.2.2-((w rL).tmod (w (p.2.1+(1:Int)))))))]]∧L1 p rL qa m s1 s2=some v) qj ⟨s1,s2,_,Lo,rfl,rfl,h⟩ ?_;clear h b0;rintro m T H ⟨s1,s2,H8,Lo,rfl,rfl,h⟩;cases m
 ·exact r0 h
 rename_i m;rw [L1.eq_2] at h;rcases Lo with rfl | rfl
 ·conv=>whnf
  refine bs h (fun qY h=>?_) fun qY h=>?_
  ·rw [qY];(conv=>whnf);refine qP h id fun rn h=>?_;rw [HW p7 2 Jd p.1 s1 rn];(conv=>whnf);refine qP h id fun qS h=>?_;rw [HW p7 2 Jd p.1 s1 qS];(conv=>whnf);refine qP h id fun ry h=>?_;rw [HW p7 2 Jd p.1 s1 ry];(conv=>whnf);obtain ⟨q_,h⟩:=rR h;refine ⟨by first | rfl | (simp;done) | exact HX HA _ L2 _,by have:=q_;omega,by decide,q_,by first | rfl | (simp;done) | exact HX HA _ L2 _,?_⟩
   erw [On HA s2 ((w ((ix p.1 s1).1+(w (((w rL).tmod (w (p.2.1+(1:Int))))*(ix p.1 s1).2)))),(ix p.1 s1).2)];(conv=>whnf);exact ⟨m,sD m,(w (s1+(1:Int))),(s2++[((w ((ix p.1 s1).1+(w (((w rL).tmod (w (p.2.1+(1:Int))))*(ix p.1 s1).2)))),(ix p.1 s1).2)]),_,(.inr rfl),rfl,rfl,h⟩
  ·rw [qY];(conv=>whnf);exact ri _ _ h ⟨rfl,rfl⟩
 ·conv=>whnf
  refine bs h (fun qY h=>?_) fun qY h=>?_
  ·rw [qY];(conv=>whnf);refine qP h id fun rn h=>?_;rw [HW p7 2 Jd p.1 s1 rn];(conv=>whnf);refine qP h id fun qS h=>?_;rw [HW p7 2 Jd p.1 s1 qS];(conv=>whnf);refine qP h id fun ry h=>?_;rw [HW p7 2 Jd p.1 s1 ry];(conv=>whnf);obtain ⟨q_,h⟩:=rR h;refine ⟨by first | rfl | (simp;done) | exact HX HA _ L2 _,by have:=q_;omega,rfl,q_,?_⟩
   erw [On HA s2 ((w ((ix p.1 s1).1+(w (((w rL).tmod (w (p.2.1+(1:Int))))*(ix p.1 s1).2)))),(ix p.1 s1).2)];(conv=>whnf);exact ⟨m,sD m,(w (s1+(1:Int))),(s2++[((w ((ix p.1 s1).1+(w (((w rL).tmod (w (p.2.1+(1:Int))))*(ix p.1 s1).2)))),(ix p.1 s1).2)]),_,(.inr rfl),rfl,rfl,h⟩
  ·rw [qY];(conv=>whnf);exact Q0 _ _ h ⟨rfl,rfl⟩
theorem ah9 {p:(qg×(Int×Int))} {qJ:p9} {low:Int} {high:Int} {rL:Int} {v:Bool} (h:PL p qJ low high rL=some v):qw 9 [(.agg [(.av (p.1.flatMap p7) p.1.length .shared),(h0 p.2.1),(h0 p.2.2)]),(.av (qJ.map r1) qJ.length .shared),(r1 low),(r1 high),(r1 rL)] (B v):=by
 refine qL eG aeg rfl rfl fun Q bp=>?_;have jJ:qI [.tmp 10] Q (fun v=>(B v)) v:=fun T H bE=>bp _ T H bE;unfold PL at h;unfold Zy;obtain ⟨HD,qE⟩:∃ c,P7=c:=⟨_,rfl⟩;rw [qE];conv=>whnf
 refine ⟨rfl,?_⟩;conv=>whnf
 obtain ⟨aS,gM,h⟩:=p8 h;refine ⟨qi.pl,_,Pw gM,?_⟩;conv=>whnf
 cases aS
 ·conv=>whnf
  replace h:=rW rfl h;obtain ⟨ND,Nt,h⟩:=p8 h;refine ⟨rfl,_,Kg Nt,?_⟩;conv=>whnf
  exact p_ h jJ rfl rfl
 ·conv=>whnf
  replace h:=rV rfl h;refine bs h (fun gN h=>?_) fun gN h=>?_
  ·rw [gN];(conv=>whnf);obtain ⟨bj,qs,h⟩:=p8 h;refine ⟨rfl,_,Kg qs,?_⟩;(conv=>whnf);exact p_ h jJ rfl rfl
  ·rw [gN];(conv=>whnf);refine qP h id fun qK h=>?_;(conv=>whnf);subst qE;refine ah8 ?_ ?_ (.inl rfl) (by exact rfl) h
   ·intro yn qd h qz;obtain ⟨rB,rfl⟩:=qz.ex;(conv=>whnf);obtain ⟨eK,r2,h⟩:=p8 h;refine ⟨qi.pl,_,Sp r2,?_⟩;(conv=>whnf);obtain ⟨q5,I_,h⟩:=p8 h;refine ⟨qi.pl,_,LL I_,?_⟩;(conv=>whnf);obtain ⟨q8,IQ,h⟩:=p8 h;refine ⟨qi.pl,_,LL IQ,?_⟩;(conv=>whnf);obtain ⟨rm,I',h⟩:=p8 h;refine ⟨qi.pl,_,JF I',?_⟩;(conv=>whnf);obtain ⟨rZ,J0,h⟩:=p8 h;refine ⟨qi.pl,_,JF J0,?_⟩;(conv=>whnf);refine bs h (fun IU h=>?_) fun IU h=>?_
    ·rw [IU];(conv=>whnf);refine bs h (fun J1 h=>?_) fun J1 h=>?_
     ·rw [J1];(conv=>whnf);refine bs h (fun J2 h=>?_) fun J2 h=>?_
      ·rw [J2];(conv=>whnf);exact p_ h jJ rfl rfl
      ·rw [J2];(conv=>whnf);refine bs h (fun J3 h=>?_) fun J3 h=>?_
       ·rw [J3];(conv=>whnf);exact p_ h jJ rfl rfl
       ·rw [J3];(conv=>whnf);refine bs h (fun J4 h=>?_) fun J4 h=>?_
        ·rw [J4];(conv=>whnf);exact p_ h jJ rfl rfl
        ·rw [J4];(conv=>whnf);refine bs h (fun J5 h=>?_) fun J5 h=>?_
         ·rw [J5];(conv=>whnf);exact p_ h jJ rfl rfl
         ·rw [J5];(conv=>whnf);obtain ⟨rO,K8,h⟩:=p8 h;refine ⟨qi.pl,_,Pw K8,?_⟩;(conv=>whnf);cases rO
          ·(conv=>whnf);replace h:=rW rfl h;obtain ⟨Jw,Lc,h⟩:=p8 h;refine ⟨rfl,_,Kg Lc,?_⟩;(conv=>whnf);exact p_ h jJ rfl rfl
          ·(conv=>whnf);replace h:=rV rfl h;obtain ⟨HH,K9,h⟩:=p8 h;refine ⟨qi.pl,_,LL K9,?_⟩;(conv=>whnf);obtain ⟨IY,Nh,h⟩:=p8 h;refine ⟨qi.pl,_,JF Nh,?_⟩;(conv=>whnf);refine bs h (fun K_ h=>?_) fun K_ h=>?_
           ·rw [K_];(conv=>whnf);refine bs h (fun La h=>?_) fun La h=>?_
            ·rw [La];(conv=>whnf);refine bs h (fun Lb h=>?_) fun Lb h=>?_
             ·rw [Lb];(conv=>whnf);refine bs h (fun J6 h=>?_) fun J6 h=>?_
              ·rw [J6];(conv=>whnf);obtain ⟨Jv,Ni,h⟩:=p8 h;refine ⟨rfl,_,Kg Ni,?_⟩;(conv=>whnf);exact p_ h jJ rfl rfl
              ·rw [J6];(conv=>whnf);exact p_ h jJ rfl rfl
             ·rw [Lb];(conv=>whnf);exact p_ h jJ rfl rfl
            ·rw [La];(conv=>whnf);exact p_ h jJ rfl rfl
           ·rw [K_];(conv=>whnf);exact p_ h jJ rfl rfl
     ·rw [J1];(conv=>whnf);exact p_ h jJ rfl rfl
    ·rw [IU];(conv=>whnf);exact p_ h jJ rfl rfl
   ·intro yn qd h qz;obtain ⟨rB,rfl⟩:=qz.ex;(conv=>whnf);obtain ⟨Lw,Nj,h⟩:=p8 h;refine ⟨qi.pl,_,Sp Nj,?_⟩;(conv=>whnf);obtain ⟨Lx,Ld,h⟩:=p8 h;refine ⟨qi.pl,_,LL Ld,?_⟩;(conv=>whnf);obtain ⟨Mx,Le,h⟩:=p8 h;refine ⟨qi.pl,_,LL Le,?_⟩;(conv=>whnf);obtain ⟨My,Lf,h⟩:=p8 h;refine ⟨qi.pl,_,JF Lf,?_⟩;(conv=>whnf);obtain ⟨Mz,Nk,h⟩:=p8 h;refine ⟨qi.pl,_,JF Nk,?_⟩;(conv=>whnf);refine bs h (fun Lg h=>?_) fun Lg h=>?_
    ·rw [Lg];(conv=>whnf);refine bs h (fun Lh h=>?_) fun Lh h=>?_
     ·rw [Lh];(conv=>whnf);refine bs h (fun Li h=>?_) fun Li h=>?_
      ·rw [Li];(conv=>whnf);exact p_ h jJ rfl rfl
      ·rw [Li];(conv=>whnf);refine bs h (fun Lj h=>?_) fun Lj h=>?_
       ·rw [Lj];(conv=>whnf);exact p_ h jJ rfl rfl
       ·rw [Lj];(conv=>whnf);refine bs h (fun Lk h=>?_) fun Lk h=>?_
        ·rw [Lk];(conv=>whnf);exact p_ h jJ rfl rfl
        ·rw [Lk];(conv=>whnf);refine bs h (fun Ll h=>?_) fun Ll h=>?_
         ·rw [Ll];(conv=>whnf);exact p_ h jJ rfl rfl
         ·rw [Ll];(conv=>whnf);obtain ⟨NC,Nl,h⟩:=p8 h;refine ⟨qi.pl,_,Pw Nl,?_⟩;(conv=>whnf);cases NC
          ·(conv=>whnf);replace h:=rW rfl h;obtain ⟨Rk,Ns,h⟩:=p8 h;refine ⟨rfl,_,Kg Ns,?_⟩;(conv=>whnf);exact p_ h jJ rfl rfl
          ·(conv=>whnf);replace h:=rV rfl h;obtain ⟨Rh,Nm,h⟩:=p8 h;refine ⟨qi.pl,_,LL Nm,?_⟩;(conv=>whnf);obtain ⟨Ri,Nn,h⟩:=p8 h;refine ⟨qi.pl,_,JF Nn,?_⟩;(conv=>whnf);refine bs h (fun Lm h=>?_) fun Lm h=>?_
           ·rw [Lm];(conv=>whnf);refine bs h (fun Np h=>?_) fun Np h=>?_
            ·rw [Np];(conv=>whnf);refine bs h (fun Nq h=>?_) fun Nq h=>?_
             ·rw [Nq];(conv=>whnf);refine bs h (fun Ln h=>?_) fun Ln h=>?_
              ·rw [Ln];(conv=>whnf);obtain ⟨Rj,Nr,h⟩:=p8 h;refine ⟨rfl,_,Kg Nr,?_⟩;(conv=>whnf);exact p_ h jJ rfl rfl
              ·rw [Ln];(conv=>whnf);exact p_ h jJ rfl rfl
             ·rw [Nq];(conv=>whnf);exact p_ h jJ rfl rfl
            ·rw [Np];(conv=>whnf);exact p_ h jJ rfl rfl
           ·rw [Lm];(conv=>whnf);exact p_ h jJ rfl rfl
     ·rw [Lh];(conv=>whnf);exact p_ h jJ rfl rfl
    ·rw [Lg];(conv=>whnf);exact p_ h jJ rfl rfl
end Go.Proofs.YtkoioidpbbbaiaaGreat.Ab


namespace Go.Proofs.YtkoioidpbbbaiaaGreat.Ab
open Go
set_option maxRecDepth 20000
set_option maxHeartbeats 1000000
theorem acH {α β:Type} [Inhabited α] [Inhabited β] {l:List α} (g:α→β) {j:Int} (h:0≤j∧j<(l.length:Int)):ix (l.map g) j=g (ix l j):=by
 obtain ⟨i,rfl⟩:∃ i:Nat,j=(i:Int):=⟨j.toNat,by omega⟩;rw [rr (by simp;omega),rr (by omega),tK]
theorem age {S:List qt} {o:List Int} (g:qt→qt) (jJ:Jj S o) {i:Nat} (hi:i<o.length):qF (S.map g) o i=g (qF S o i):=acH g (jJ i hi)
theorem aeq {S:List qt} {o:List Int} {a:Nat} (g:qt→qt) (f:qt→Int) (jJ:Jj S o):rp (S.map g) o a f=rp S o a fun s=>f (g s):=by
 unfold rp;refine KC fun i hi=>?_;rw [age g jJ hi]
theorem ady {p q:qb} (ao:q.1.length=p.1.length) {c:Int} (ak:0≤c) (h:∀ o,qp p.1.length o→qx q o=c*qx p o):Js q=c*Js p:=by
 have ab:Js q≤qx q (HQ p):=M9 (by rw [ao];exact K1 p);rw [h _ (K1 p)] at ab;have aJ:qp p.1.length (HQ q):=by rw [←ao];exact K1 q
 have ae:=Int.mul_le_mul_of_nonneg_left (M9 aJ) ak;rw [←h _ aJ] at ae;show qx q (HQ q)=_;have iR:qx q (HQ q)≤c*qx p (HQ p):=ab;show qx q (HQ q)=c*qx p (HQ p);omega
theorem adx {p q:qb} (ao:q.1.length=p.1.length) (h:∀ o,qp p.1.length o→qx q o=qx p o):Js q=Js p:=by
 have:=ady ao (c:=1) (by omega) fun o k=>by rw [h o k];omega
 omega
theorem abk {S:List qt} {lo hi lo' hi':Int} (ab:lo'≤lo) (ae:lo≤hi) (aF:hi≤hi') (o:List Int):qx (S,(lo,hi)) o≤qx (S,(lo',hi')) o:=by
 have e1:=OA (p:=(S,(lo',hi'))) (o:=o) (lo:=lo') (d:=lo) (hi:=hi') ab (by omega);have b':=OA (p:=(S,(lo',hi'))) (o:=o) (lo:=lo') (d:=hi) (hi:=hi') (by omega) aF;show max (Hr (S,(lo',hi')) o lo) (Hr (S,(lo',hi')) o hi)≤max (Hr (S,(lo',hi')) o lo') (Hr (S,(lo',hi')) o hi');omega
def JP (d:Int) (s:qt):qt:=(s.1+d*s.2,s.2)
theorem aaB (D d:Int) (s:qt):q3 (D-d) (JP d s)=q3 D s:=by unfold q3 JP;simp only;grind
section
variable {p:qb}
theorem Vl (h:q7 p) {Ho:Int} (aP:0≤Ho∧Ho≤255) {K:List qt→Option Bool}:∀ (m i:Nat),i≤p.1.length→p.1.length-i<m →
  L1 p Ho K m (i:Int) ((p.1.take i).map (JP (Ho.tmod (p.2.1+1))))=K (p.1.map (JP (Ho.tmod (p.2.1+1))))
 | 0,_,_,h=>absurd h (by omega)
 | m+1,i,hi,hm=>by
   have bD:=h.lo;have GO:=h.hi;have hle:=h.le;have aI:=h.len;rw [L1];by_cases aR:i<p.1.length
   ·have da:0≤Ho.tmod (p.2.1+1):=vJ _ aP.1;have db:=vK Ho (show 0<p.2.1+1 by omega);have ah:=h.s _ (Jp (l:=p.1) (i:=(i:Int)) (by omega));have bm:=HZ (a:=Ho.tmod (p.2.1+1)) (b:=(ix p.1 (i:Int)).2) (A:=50) (B:=10) (by omega) ⟨ah.2.2.1,ah.2.2.2⟩;have cw:=ah.1;have e2:=ah.2.1;rw [if_pos (decide_eq_true (by omega)),qC (by omega),qC (by omega),qC (by omega),qC (by simp;omega),Io i (by omega),qD (n:=Ho) (by omega),qD (n:=p.2.1+1) (by omega),qD (n:=Ho.tmod (p.2.1+1)*(ix p.1 (i:Int)).2) (by omega),qD (by omega)];have a8:=Vl h aP (K:=K) m (i+1) (by omega) (by omega);rw [uD aR,sO,←rr aR] at a8;exact a8
   ·(obtain rfl:i=p.1.length:=by omega);rw [if_neg (by simp),List.take_length]
theorem ah_ (p:qb) {Q:List Int} (bp:∀ b∈Q,0≤b∧b≤255) {lw aO Ho:Int} (ab:0≤lw∧lw≤255) (ae:0≤aO∧aO≤255) (aF:0≤Ho∧Ho≤255):PL p Q lw aO Ho=some true:=by
 unfold PL;rw [So,sb];by_cases ak:rk p=0
 ·rw [if_pos (decide_eq_true ak)];have h:=I6.1 ak;have bD:=h.lo;have GO:=h.hi;have hle:=h.le;have aI:=h.len;by_cases a_:(20:Int)<(Q.length:Int)
  ·rw [if_pos (decide_eq_true a_),works];rfl
  ·rw [if_neg (by simpa using a_),qD (n:=p.2.1+1) (by omega),qC (by omega)];obtain ⟨o,k,aq⟩:=Yg (n:=p.1.length) (by omega) bp (by omega);refine (Vl h aF qj 0 (by omega) (Is (by omega))).trans ?_;have da:0≤Ho.tmod (p.2.1+1):=vJ _ aF.1;have db:=vK Ho (show 0<p.2.1+1 by omega);rw [qD (n:=lw) (by omega),qD (n:=aO) (by omega),qD (n:=Ho) (by omega),qD (n:=p.2.1-lw) (by omega),qD (n:=p.2.2+aO) (by omega)];obtain ⟨d,a1⟩:∃ d,d=Ho.tmod (p.2.1+1):=⟨_,rfl⟩;rw [←a1] at da db ⊢;rw [qD (n:=p.2.1-d) (by omega),qD (n:=p.2.2-d) (by omega)];have hw:q7 (p.1,(max 0 (p.2.1-lw),min 50 (p.2.2+aO))):=⟨h.n,h.s,by simp only;omega,by simp only;omega,by simp only;omega⟩;have kw:qp (p.1,(max 0 (p.2.1-lw),min 50 (p.2.2+aO))).1.length o:=k;rw [aq,sb,Px h,sb,Px hw,sb,N1 h k,sb,N1 hw kw,sb];have a7:∀ o,qx p o≤qx (p.1,(max 0 (p.2.1-lw),min 50 (p.2.2+aO))) o:=fun o=>abk (S:=p.1) (by omega) hle (by omega) o;have a9:Js p≤Js (p.1,(max 0 (p.2.1-lw),min 50 (p.2.2+aO))):=by
    have:=M9 (p:=p) (o:=HQ (p.1,(max 0 (p.2.1-lw),min 50 (p.2.2+aO)))) (K1 _);exact Int.le_trans this (a7 _)
   have bt:=a7 o;rw [if_pos rfl,if_pos rfl,if_neg (by simp),if_neg (by simp),if_neg (by simpa using a9),if_neg (by simpa using bt),So,sb];by_cases h8:rk (p.1.map (JP d),(p.2.1-d,p.2.2-d))=0
   ·have ad:=I6.1 h8;(have acK:qp (p.1.map (JP d),(p.2.1-d,p.2.2-d)).1.length o:=by simpa using k);rw [if_pos (decide_eq_true h8),Px ad,sb,N1 ad acK,sb];have e1:∀ o,qp p.1.length o→qx (p.1.map (JP d),(p.2.1-d,p.2.2-d)) o=qx p o:=fun o k=>by
     have em:∀ a D,qA (p.1.map (JP d),(p.2.1-d,p.2.2-d)) o a (D-d)=qA p o a D:=fun a D=>by
      show rp (p.1.map (JP d)) o a (q3 (D-d))=_;rw [aeq _ _ (Hw k)];simp only [aaB]
     unfold qx Hr;simp only [em]
    have b':Js (p.1.map (JP d),(p.2.1-d,p.2.2-d))=Js p:=adx (by simp) e1;rw [if_pos rfl,if_pos (decide_eq_true b'),if_pos (by simp),if_pos (decide_eq_true (e1 o k)),works];rfl
   ·rw [if_neg (by simpa using h8),works];rfl
 ·rw [if_neg (by simpa using ak),works];rfl
theorem abm (p:qb) {Q:List Int} (bp:∀ b∈Q,0≤b∧b≤255) {lw aO Ho:Int} (ab:0≤lw∧lw≤255) (ae:0≤aO∧aO≤255) (aF:0≤Ho∧Ho≤255):qw 9 [V2 p,.av (Q.map r1) Q.length .shared,r1 lw,r1 aO,r1 Ho] (B true):=ah9 (ah_ p bp ab ae aF)
end
end Go.Proofs.YtkoioidpbbbaiaaGreat.Ab
