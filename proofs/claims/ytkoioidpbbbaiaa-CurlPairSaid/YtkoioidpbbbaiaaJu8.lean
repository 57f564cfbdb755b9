
import Derived.Test.YtkoioidpbbbaiaaJu5
import Derived.Test.YtkoioidpbbbaiaaJu7
import Derived.Test.YtkoioidpbbbaiaaJu6
import Derived.KernelRfl
import Derived.Test.YtkoioidpbbbaiaaProg
set_option linter.unusedSimpArgs false
set_option linter.unusedVariables false
set_option linter.unusedSectionVars false

open Bool renaming and_eq_true→sn,and_true→tw,or_false→vO
open Int renaming le_refl→sK,tmod_eq_emod_of_nonneg→vH,toNat_natCast→tx
open List renaming append_assoc→sx,append_nil→sN,drop_eq_getElem_cons→s9,exists_cons_of_ne_nil→tP,filter_append→ub,getD_eq_getElem?_getD→sA,getElem?_append_left→sj,getElem?_eq_getElem→sk,getElem?_eq_some_iff→sd,getElem?_map→sq,getElem?_set_ne→sf,getElem?_set_self→sm,getElem_map→ua,getElem_mem→tR,getElem_reverse→vk,length_append→sE,length_erase_of_mem→tE,length_filter_le→vj,length_map→s6,length_reverse→vQ,map_append→sT,map_set→tM,mem_cons→sB,mem_filter→sW,mem_map→sD,nil_append→tp,range_succ→vL,take_of_length_le→tf,take_succ_eq_append_getElem→uH
open Nat renaming le_refl→se,lt_succ_self→sC,mod_lt→uK,mul_one→tr,zero_add→sG,zero_le→sH
open Option renaming bind_some→sc
namespace Go.Proofs.Ytkoioidpbbbaiaa.Ab
open Go
set_option maxRecDepth 20000
set_option maxHeartbeats 4000000
end Go.Proofs.Ytkoioidpbbbaiaa.Ab


namespace Go.Proofs.Ytkoioidpbbbaiaa.Ab
open Go
set_option maxRecDepth 20000
set_option maxHeartbeats 1000000
def rP (p:qd):List (List Int):=q' p.1.length (qo p.1.length)
theorem Ko {p:qd} {o:List Int}:o∈rP p↔qs p.1.length o:=afd.symm
theorem Ra {p:qd} (h:qW p):(rP p).length≤100000:=WH h.len.2
theorem aaI {p:qd}:(rP p)[0]?=some (qo p.1.length):=WG _ _ (ahk _)
theorem all_cons {p:qd}:∃ r,rP p=qo p.1.length::r:=by
 have:=aaI (p:=p);cases h:rP p with
 | nil=>rw [h] at this;cases this
 | cons a r=>rw [h] at this;exact ⟨r,by rw [Option.some.inj this]⟩
def HM (p:qd) (b o:List Int):List Int:=if qX p o<qX p b then o else b
def MJ (p:qd):List Int:=((rP p).drop 1).foldl (HM p) (qo p.1.length)
def Kk (p:qd):Nat:=((rP p).filter fun o=>decide (qX p o=0)).length
section
variable {p:qd}
theorem ahh {α:Type} {l:List α} {j:Nat} (aw:j<l.length):l.take (j+1)=l.take j++[l[j]]:=uH aw
theorem abr:(rP p).foldl (HM p) (qo p.1.length)=MJ p:=by
 unfold MJ;obtain ⟨r,ai⟩:=all_cons (p:=p);rw [ai];show List.foldl _ (HM p _ _) r=_;rw [show HM p (qo p.1.length) (qo p.1.length)=qo p.1.length by unfold HM;split <;> rfl];rfl
theorem YV (n:Nat):qs n (qo n):=KS.2 (.refl _)
theorem aim (h:qW p) {x y:List Int} (aj:qs p.1.length x) (aY:qs p.1.length y):LL (p,()) x y=some (decide (qX p x<qX p y)):=by
 unfold LL;rw [OY h aj,sc,OY h aY,sc]
theorem R' (h:qW p):∀ (m j:Nat) (b:List Int),1+j≤(rP p).length→(rP p).length-(1+j)<m→b=(((rP p).drop 1).take j).foldl (HM p) (qo p.1.length)→qs p.1.length b →
  LK (rP p) (LL (p,())) (fun z=>some z) m b (j:Int)=some (MJ p)
 | 0,_,_,_,h,_,_=>absurd h (by omega)
 | m+1,j,b,aw,hm,af,bS=>by
   have ac4:=Ra h;rw [LK];have e1:((1:Int)).toNat=1:=rfl;rw [e1];(have el:((rP p).drop 1).length=(rP p).length-1:=by simp);by_cases aR:j<((rP p).drop 1).length
   ·rw [if_pos (decide_eq_true (by omega)),qD (by omega),rB aR];have kI:((rP p).drop 1)[j]∈rP p:=List.mem_of_mem_drop (tR aR);have al:=Ko.1 kI;rw [aim h al bS,sc,Iw j (by omega)];have bu:HM p b ((rP p).drop 1)[j]=(((rP p).drop 1).take (j+1)).foldl (HM p) (qo p.1.length):=by
     rw [ahh aR,List.foldl_append,←af];rfl
    by_cases ak:qX p ((rP p).drop 1)[j]<qX p b
    ·rw [if_pos (decide_eq_true ak)];refine R' h m (j+1) _ (by omega) (by omega) ?_ al;rw [←bu];unfold HM;rw [if_pos ak]
    ·rw [if_neg (by simpa using ak)];refine R' h m (j+1) _ (by omega) (by omega) ?_ bS;rw [←bu];unfold HM;rw [if_neg ak]
   ·rw [if_neg (by simpa using by omega)];rw [tf (by omega)] at af;rw [af];rfl
theorem Tr (aB:p.1.length≤1000):K2 p=some (if ry p=0 then (MJ p,0) else ([],ry p)):=by
 unfold K2;rw [Ty aB,sc];by_cases h:ry p=0
 ·rw [if_pos h,if_pos h];have ad:=JL.1 h;have ao:=ad.len;simp only;rw [if_neg (by decide),qD (show 0<p.1.length∧p.1.length≤7 by omega)];show (O0 (rP p) (LL (p,()))).bind _=_;obtain ⟨r,ai⟩:=all_cons (p:=p);have aQ:0<(rP p).length:=by rw [ai];simp
  unfold O0;rw [qD (by omega),qD (by omega)];have f_:ix (rP p) (0:Int)=qo p.1.length:=by rw [ai];rfl
  rw [f_];have:=R' ad ql 0 (qo p.1.length) (by omega) (Il (by have:=Ra ad;omega)) rfl (YV _);rw [show ((0:Nat):Int)=0 from rfl] at this;rw [this,sc]
 ·rw [if_neg h,if_neg h];simp only;rw [if_pos (decide_eq_true h)]
theorem abR (q:List Int→Bool) (l:List (List Int)):(l.filter q).length≤l.length:=vj _ _
theorem Vx (h:qW p):∀ (l r:List (List Int)),rP p=r++l→IJ (Ky (p,())) l ((r.filter fun o=>decide (qX p o=0)).length:Int)=some ((Kk p:Int))
 | [],r,e=>by rw [sN] at e;subst e;rfl
 | o::l,r,e=>by
   have ac4:=Ra h;have al:qs p.1.length o:=Ko.1 (by rw [e];simp);(have hlen:r.length+(l.length+1)=(rP p).length:=by rw [e];simp);have jJ:=abR (fun o=>decide (qX p o=0)) r;have a8:=Vx h l (r++[o]) (by rw [e];simp);rw [ub,sE] at a8;show (Ky (p,()) _ o).bind (IJ (Ky (p,())) l)=_;unfold Ky;rw [OY h al,sc,sc];by_cases ak:qX p o=0
   ·rw [if_pos (decide_eq_true ak),Iw _ (by omega)];rw [show ([o].filter fun o=>decide (qX p o=0)).length=1 by simp [ak]] at a8;exact a8
   ·rw [if_neg (by simpa using ak)];rw [show ([o].filter fun o=>decide (qX p o=0)).length=0 by simp [ak]] at a8;exact a8
theorem OM (aB:p.1.length≤1000):JI p=some (if ry p=0 then ((Kk p:Int),0) else (0,ry p)):=by
 unfold JI;rw [Ty aB,sc];by_cases h:ry p=0
 ·rw [if_pos h,if_pos h];have ad:=JL.1 h;have ao:=ad.len;simp only;rw [if_neg (by decide),qD (show 0<p.1.length∧p.1.length≤7 by omega)];have:=Vx ad (rP p) [] rfl;show (IJ (Ky (p,())) (rP p) 0).bind _=_;have this:IJ (Ky (p,())) (rP p) 0=some ((Kk p:Int)):=this;rw [this,sc]
 ·rw [if_neg h,if_neg h];simp only;rw [if_pos (decide_eq_true h)]
theorem abt (p:qd) (E:List (List Int)):∀ (b:List Int),(E.foldl (HM p) b=b∨E.foldl (HM p) b∈E)∧qX p (E.foldl (HM p) b)≤qX p b∧∀ o∈E,qX p (E.foldl (HM p) b)≤qX p o:=by
 induction E with
 | nil=>intro b;exact ⟨.inl rfl,sK _,by simp⟩
 | cons a E a8 =>
   intro b;obtain ⟨ab,ae,aF⟩:=a8 (HM p b a);have af:(HM p b a=b∨HM p b a=a)∧qX p (HM p b a)≤qX p b∧qX p (HM p b a)≤qX p a:=by
    unfold HM;split
    ·exact ⟨.inr rfl,by omega,by omega⟩
    ·exact ⟨.inl rfl,by omega,by omega⟩
   rw [List.foldl_cons];refine ⟨?_,by omega,fun o aq=>?_⟩
   ·rcases ab with ab | ab
    ·rcases af.1 with e | e
     ·left;rw [ab,e]
     ·right;rw [ab,e];simp
    ·right;simp [ab]
   ·rcases sB.1 aq with rfl | aq
    ·omega
    ·exact aF o aq
theorem abu (p:qd):qs p.1.length (MJ p):=by
 rw [←abr];obtain ⟨ab,_,_⟩:=abt p (rP p) (qo p.1.length);rcases ab with ab | ab
 ·rw [ab];exact YV _
 ·exact Ko.1 ab
theorem Zi (aB:p.1.length≤1000):Lw p=some (if ry p=0 then (qX p (MJ p),0) else (0,ry p)):=by
 unfold Lw;rw [Tr aB,sc];by_cases h:ry p=0
 ·rw [if_pos h,if_pos h];have ad:=JL.1 h;have af:=abu p;simp only;rw [if_neg (by simp),LH aB (by rw [af.1];have:=ad.len;omega),if_pos (KU.2 ⟨ad,af⟩)];rfl
 ·rw [if_neg h,if_neg h];simp only;rw [if_pos (decide_eq_true h)]
theorem Vs (p:qd):0<Kk p↔∃ o,qs p.1.length o∧qX p o=0:=by
 unfold Kk;rw [List.length_pos_iff_exists_mem];constructor
 ·rintro ⟨o,aq⟩;obtain ⟨ab,ae⟩:=sW.1 aq;exact ⟨o,Ko.1 ab,of_decide_eq_true ae⟩
 ·rintro ⟨o,ab,ae⟩;exact ⟨o,sW.2 ⟨Ko.2 ab,decide_eq_true ae⟩⟩
end
end Go.Proofs.Ytkoioidpbbbaiaa.Ab


namespace Go.Proofs.Ytkoioidpbbbaiaa.Ab
open Go
set_option maxRecDepth 20000
set_option maxHeartbeats 4000000
def Hy (N:Nat) (H H':List ar):Prop:=H.length≤H'.length∧∀ (j:Nat) (c:List I),N≤j→H[j]?=some (.cells c)→H'[j]?=some (.cells c)
theorem Hy.refl (N:Nat) (H:List ar):Hy N H H:=⟨se _,fun _ _ _ h=>h⟩
theorem Hy.trans {N:Nat} {H H1 H2:List ar} (h:Hy N H H1) (k:Hy N H1 H2):Hy N H H2:=⟨Nat.le_trans h.1 k.1,fun j c aw ak=>k.2 j c aw (h.2 j c aw ak)⟩
structure Q8 (l N:Nat) (Inv:Nat→List ar→Prop):Prop where
 len:∀ i H,Inv i H→l<N∧N≤H.length
 more:∀ i H Z,Inv i H→Inv i (H++Z)
 set:∀ i H j c dR,Inv i H→N≤j→H[j]?=some (.cells c)→Inv i (H.set j (.cells dR))
def TZ (P:Program) (k:FuncId) (cap:List I) (E:List I):Prop :=
 ∀ (l N:Nat) (Inv:Nat→List ar→Prop),Q8 l N Inv →
   (∀ (i:Nat) (h:i<E.length) (H:List ar),Inv i H→∃ H',Inv (i+1) H'∧Hy N H H'∧Sem P (.yield l) [E[i]] H 0 (.bool true) H') →
   ∀ H,Inv 0 H→∃ H',Inv E.length H'∧Sem P (.fn k) (.yield l::cap) H 0 (.tuple []) H'
structure IA (L:Nat) (b:I) (p:Nat) (U:List Int) (H:List ar):Prop where
 y:H[p]?=some (.cells [.yield L])
 u:H[p+1]?=some (.cells (U.map hX))
 g:H[p+2]?=some (.cells [Ji b p])
theorem IA.set {L p:Nat} {b:I} {U:List Int} {H:List ar} (h:IA L b p U H) (NM:List Int):IA L b p NM (H.set (p+1) (.cells (NM.map hX))) :=
 ⟨by rw [sf (by omega)];exact h.y,sm (sd.1 h.u).1,by rw [sf (by omega)];exact h.g⟩
theorem IA.cB {L p N:Nat} {b:I} {U:List Int} {H H':List ar} (h:IA L b p U H) (aB:N≤p) (k:Hy N H H'):IA L b p U H':=⟨k.2 _ _ aB h.y,k.2 _ _ (by omega) h.u,k.2 _ _ (by omega) h.g⟩
theorem ag7 {Mi Mj:I} {Q:cN→List I→List ar→Prop} {begun:List Int} {i n:Nat} {H:List ar} {L p:Nat} {b:I} {U:List Int} (l7:IA L b p U H) (HD:U.length=7) (hi:i<7) (af:begun.length≤7)
  (dT:∃ H',IA L b p U H'∧Sem Try.prog (.fn 66) [.av ((begun++[(i:Int)]).map hX) (begun++[(i:Int)]).length (.uniq 1),b,.ptr p 0,.ptr (p+1) 0,.ptr (p+2) 0] H 0 (.bool true) H' ∧
   Q .normal (qh 52 [(0,Ht begun),(3,.ptr (p+1) 0),(4,.ptr (p+2) 0),(26,hX n),(27,hX i),(28,Mi),(33,Mj),(50,.bool false)]) (H'.set (p+1) (.cells ((U.set i 0).map hX)))) :
  dN Try.prog Ld 66 0 none Mc (qh 52 [(0,Ht begun),(3,.ptr (p+1) 0),(4,.ptr (p+2) 0),(7,hX i),(26,hX n),(27,hX i),(28,Mi),(33,Mj)]) H Q:=by
 obtain ⟨H',acx,cl,bo⟩:=dT;have fin:∀ dE,dE=qh 52 [(0,Ht begun),(3,.ptr (p+1) 0),(4,.ptr (p+2) 0),(7,hX i),(8,.bool true),(26,hX n),(27,hX i),(28,Mi),(33,Mj)]→dN Try.prog Ld 66 0 none Ow dE H' Q:=by
  rintro _ rfl;unfold Ow;conv=>whnf
  refine ⟨by omega,?_⟩;conv=>whnf
  refine Ez acx.u ?_;conv=>whnf
  rw [show 0+(i:Int).toNat*1=i by omega];refine Gr (by simp;omega) ?_;conv=>whnf
  rw [show (List.map hX U).set i (I.int IntKind.i64 0)=(U.set i 0).map hX by rw [tM]];exact bo
 unfold Mc;cases begun with
 | nil =>
   (conv=>whnf);refine Ez l7.g ?_;(conv=>whnf);refine ⟨⟨by decide,by decide,by decide⟩,?_⟩;(conv=>whnf);refine ⟨rfl,by decide,?_⟩;(conv=>whnf);refine ⟨by decide,by decide,rfl,?_⟩;(conv=>whnf);refine ⟨_,_,rE cl,?_⟩;(conv=>whnf);exact fin _ rfl
 | cons a l =>
   (conv=>whnf);refine Ez l7.g ?_;(conv=>whnf);refine ⟨⟨rfl,by omega,sK _⟩,?_⟩;(conv=>whnf);rw [tx,tr,tf (by simp)];refine ⟨rfl,by decide,?_⟩;(conv=>whnf);refine ⟨by decide,by omega,by simp,?_⟩;(conv=>whnf);(have e1:List.map hX (a::l)++[hX (i:Int)]=((a::l)++[(i:Int)]).map hX:=by simp);(have b9:(a::l).length+1=((a::l)++[(i:Int)]).length:=by simp);refine ⟨_,_,rE (by erw [e1,b9];exact cl),?_⟩;(conv=>whnf);exact fin _ rfl
def aaE (L N:Nat) (Inv:Nat→List ar→Prop) (c:Nat) (begun:List Int) (E:List (List Int)):Prop :=
 ∀ (j:Nat) (l:List Int),E[j]?=some l→∀ H:List ar,Inv (c+j) H→∃ H',Inv (c+j+1) H'∧Hy N H H'∧Sem Try.prog (.yield L) [Ht (begun++l)] H 0 (.bool true) H'
theorem VS {b:((List (Int×Int))×(Int×Int))×Unit} (qS:b.1.1.length≤7) (iP:0<b.1.1.length) {L N:Nat} {Inv:Nat→List ar→Prop} (kB:Q8 L N Inv) {p:Nat} (aB:N≤p) :
  ∀ (k:Nat) (begun:List Int) (Je:hB) (U:List Int) (c:Nat),U.length=7→(∀ i,0≤U.getD i 0)→begun.length+k=b.1.1.length→(rF U b.1.1.length).length=k→((Je=.full∧begun=[])∨Je=.uniq 1∧begun≠[])→aaE L N Inv c begun (q' k (rF U b.1.1.length)) →
  ∀ H,Inv c H→IA L (.bR [lj b]) p U H→∃ H',Inv (c+(q' k (rF U b.1.1.length)).length) H'∧Hy N H H'∧Sem Try.prog (.fn 66) [.av (begun.map hX) begun.length Je,.bR [lj b],.ptr p 0,.ptr (p+1) 0,.ptr (p+2) 0] H 0 (.bool true) H'
 | 0,begun,Je,U,c,HD,_,al,ao,CP,ai,H,ag,l7=>by
   obtain ⟨H',acv,acw,cl⟩:=ai 0 [] rfl H ag;(have bI:begun≠[]:=fun e=>by subst e;simp at al;omega);have CP:Je=.uniq 1:=by
    rcases CP with ⟨_,h⟩ | ⟨h,_⟩
    ·exact absurd h bI
    ·exact h
   subst CP;obtain ⟨a,l,rfl⟩:=tP bI;rw [sN] at cl;refine ⟨H',acv,acw,?_⟩;refine rG eD PE rfl cl.1 fun Q bo=>?_;unfold Mb Md;obtain ⟨fY,HB⟩:∃ c,J7=c:=⟨_,rfl⟩;rw [HB];(conv=>whnf);rw [decide_eq_true (show (((a::l).length:Nat):Int)=(b.1.1.length:Int) by omega)];(conv=>whnf);refine Ez l7.y ?_;(conv=>whnf);refine ⟨_,_,rE cl,?_⟩;(conv=>whnf);exact bo _ _ _ ⟨.inr rfl,lF.refl _,rfl⟩
 | k+1,begun,Je,U,c,HD,N2,al,ao,CP,ai,H,ag,l7=>by
   obtain ⟨n,aI⟩:∃ n,n=b.1.1.length:=⟨_,rfl⟩;have NK:=VS (L:=L) qS iP kB aB k;rw [←aI] at qS iP al ao ai NK ⊢
   obtain ⟨Kx,L4,Lj⟩:=Ph (fun i rO Ij=>i<n→Inv (c+Ho k U n i) rO∧IA L (.bR [lj b]) p U rO →
    (Inv (c+Ho k U n (i+1)) Ij∧IA L (.bR [lj b]) p U Ij∧Hy N rO Ij) ∧
    (U.getD i 0=0→∃ H2,IA L (.bR [lj b]) p (U.set i 1) H2∧Ij=H2.set (p+1) (.cells (U.map hX))∧Sem Try.prog (.fn 66) [.av ((begun++[(i:Int)]).map hX) (begun++[(i:Int)]).length (.uniq 1),.bR [lj b],.ptr p 0,.ptr (p+1) 0,.ptr (p+2) 0] (rO.set (p+1) (.cells ((U.set i 1).map hX))) 0 (.bool true) H2)∧(U.getD i 0≠0→Ij=rO)) H (fun i rO=>by
    by_cases aP:i<n∧Inv (c+Ho k U n i) rO∧IA L (.bR [lj b]) p U rO
    ·obtain ⟨hi,aP⟩:=aP;by_cases aQ:U.getD i 0=0
     ·have hm:(i:Int)∈rF U n:=WW.2 ⟨i,hi,aQ,rfl⟩
      obtain ⟨H2,aA,aG,aT⟩:=NK (begun++[(i:Int)]) (.uniq 1) (U.set i 1) (c+Ho k U n i) (by simpa using HD) (Yz N2) (by simp;omega) (by rw [MV (by omega) aQ,tE hm];omega) (.inr ⟨rfl,by simp⟩) (fun j l aw H' b7=>by
       rw [MV (by omega) aQ] at aw;rw [show c+Ho k U n i+j=c+(Ho k U n i+j) by omega] at b7 ⊢;obtain ⟨hC,bl,cr,eY⟩:=ai _ _ (WD hi aQ aw) H' b7;refine ⟨hC,bl,cr,?_⟩
       rw [sx];exact eY) (rO.set (p+1) (.cells ((U.set i 1).map hX))) (kB.set _ _ _ _ _ aP.1 (by omega) aP.2.u) (aP.2.set _)
      rw [MV (by omega) aQ] at aA;have MR:IA L (.bR [lj b]) p (U.set i 1) H2:=(aP.2.set (U.set i 1)).cB aB aG;refine ⟨H2.set (p+1) (.cells (U.map hX)),fun _ _=>⟨⟨?_,MR.set U,?_⟩,fun _=>⟨H2,MR,rfl,aT⟩,fun h=>absurd aQ h⟩⟩
      ·rw [Pk,if_pos aQ,←Nat.add_assoc];exact kB.set _ _ _ _ _ aA (by omega) MR.u
      ·refine ⟨by have:=aG.1;simp at this ⊢;omega,fun j cs aw ak=>?_⟩;by_cases e:j=p+1
       ·subst e;rw [aP.2.u] at ak;rw [←Option.some.inj ak];exact (MR.set U).u
       ·rw [sf (by omega)];exact aG.2 j cs aw (by rw [sf (by omega)];exact ak)
     ·refine ⟨rO,fun _ _=>⟨⟨?_,aP.2,Hy.refl _ _⟩,fun ab=>absurd ab aQ,fun _=>rfl⟩⟩;rw [Pk,if_neg aQ];exact aP.1
    ·exact ⟨rO,fun ab h=>absurd ⟨ab,h⟩ aP⟩)
   have cY:∀ i,i≤n→Inv (c+Ho k U n i) (Kx i)∧IA L (.bR [lj b]) p U (Kx i)∧Hy N H (Kx i):=fun i=>by
    induction i with
    | zero=>intro _;rw [L4];exact ⟨ag,l7,Hy.refl _ _⟩
    | succ i a8 =>
      intro hi;obtain ⟨aA,aG,aT⟩:=a8 (by omega);obtain ⟨⟨bl,cr,eY⟩,_,_⟩:=Lj i (by omega) ⟨aA,aG⟩;exact ⟨bl,cr,aT.trans eY⟩
   have RZ:Ho k U n n=(q' (k+1) (rF U n)).length:=rfl;refine ⟨Kx n,by rw [←RZ];exact (cY n (se _)).1,(cY n (se _)).2.2,?_⟩;refine rG eD PE rfl (Ja (cY n (se _)).2.2.1) fun Q bo=>?_;have main:∀ T,T=qh 52 [(0,Ht begun),(1,.bR [lj b]),(2,.ptr p 0),(3,.ptr (p+1) 0),(4,.ptr (p+2) 0),(6,.bool false),(17,.bool false)]→dN Try.prog Ld 66 0 none J7 T H Q:=by
    rintro _ rfl;unfold J7 S1 SZ;obtain ⟨br,eP⟩:∃ c,Mc=c:=⟨_,rfl⟩;rw [eP];(conv=>whnf);rw [←aI];refine .intro (fun m T H'=>∃ i:Nat,i≤n∧m=n-i∧T=qh 52 [(0,Ht begun),(3,.ptr (p+1) 0),(4,.ptr (p+2) 0),(26,hX n),(27,hX i)]∧H'=Kx i) n ⟨0,sH _,rfl,rfl,L4.symm⟩ ?_;rintro m T H' ⟨i,hi,rfl,rfl,rfl⟩;(conv=>whnf);refine HO (fun aR=>?_) (fun aR=>?_)
    ·(have hc:i<n:=by omega);obtain ⟨aA,aG,_⟩:=cY i hi;obtain ⟨_,a7,a9⟩:=Lj i hc ⟨aA,aG⟩;(conv=>whnf);refine ⟨by omega,?_⟩;(conv=>whnf);refine Ez aG.u ?_;(conv=>whnf);rw [show 0+(i:Int).toNat*1=i by omega];refine Ez (x:=hX (U.getD i 0)) (by rw [sq,sA,sk (show i<U.length by omega)];rfl) ?_;(conv=>whnf);(have rC:IntKind.i64.wrap ((i:Int)+1)=((i+1:Nat):Int):=by rw [HX _ (by omega) (by omega)];omega);refine HO (fun aQ=>?_) (fun aQ=>?_)
     ·(conv=>whnf);refine ⟨n-(i+1),by omega,i+1,by omega,rfl,by rw [rC];rfl,?_⟩;rw [a9 (by omega)]
     ·(have N0:U.getD i 0=0:=by have:=N2 i;omega);obtain ⟨H2,MR,acR,cl⟩:=a7 N0;(conv=>whnf);refine ⟨by omega,?_⟩;(conv=>whnf);refine Ez aG.u ?_;(conv=>whnf);rw [show 0+(i:Int).toNat*1=i by omega];refine Gr (by simp;omega) ?_;(conv=>whnf);rw [show (List.map hX U).set i (I.int IntKind.i64 1)=(U.set i 1).map hX by rw [tM]];subst eP;refine ag7 (aG.set (U.set i 1)) (by simpa using HD) (by omega) (by omega) ⟨H2,MR,cl,?_⟩;(conv=>whnf);refine ⟨n-(i+1),by omega,i+1,by omega,rfl,by rw [rC];rfl,?_⟩;rw [List.set_set,Yx (by omega) N0,acR]
    ·(obtain rfl:i=n:=by omega);(conv=>whnf);exact bo _ _ _ ⟨.inr rfl,lF.refl _,rfl⟩
   rcases CP with ⟨rfl,rfl⟩ | ⟨rfl,bI⟩
   ·unfold Mb Md;obtain ⟨fY,HB⟩:∃ c,J7=c:=⟨_,rfl⟩;rw [HB];(conv=>whnf);rw [decide_eq_false (show ¬ (((([]:List Int).length:Nat):Int)=(b.1.1.length:Int)) by simp only [List.length_nil];omega)];(conv=>whnf);subst HB;exact main _ rfl
   ·obtain ⟨a,l,rfl⟩:=tP bI;unfold Mb Md;obtain ⟨fY,HB⟩:∃ c,J7=c:=⟨_,rfl⟩;rw [HB];(conv=>whnf);rw [decide_eq_false (show ¬ ((((a::l).length:Nat):Int)=(b.1.1.length:Int)) by omega)];(conv=>whnf);subst HB;exact main _ rfl
theorem agQ {b:((List (Int×Int))×(Int×Int))×Unit} (qS:b.1.1.length≤7) (iP:0<b.1.1.length):TZ Try.prog 65 [.bR [lj b]] ((q' b.1.1.length (qo b.1.1.length)).map Ht):=by
 intro L N Inv kB ai H ag;have jQ:=WB qS;obtain ⟨H1,bV⟩:∃ H1,H1=((H++[.cells [.yield L]])++[.cells [hX 0,hX 0,hX 0,hX 0,hX 0,hX 0,hX 0]])++[.cells [Ji (.bR [lj b]) H.length]]:=⟨_,rfl⟩;have l1:(H++[ar.cells [I.yield L]]).length=H.length+1:=by simp
 have l2:((H++[ar.cells [I.yield L]])++[ar.cells [I.int IntKind.i64 0,I.int IntKind.i64 0,I.int IntKind.i64 0,I.int IntKind.i64 0,I.int IntKind.i64 0,I.int IntKind.i64 0,I.int IntKind.i64 0]]).length=H.length+2:=by simp
 have l7:IA L (.bR [lj b]) H.length [0,0,0,0,0,0,0] H1:=by
  subst bV;refine ⟨?_,?_,?_⟩
  ·rw [sx,sj (by rw [l1];omega)];exact Jj _ _
  ·rw [sj (by rw [l2];omega),←l1];exact Jj _ _
  ·rw [←l2];exact Jj _ _
 obtain ⟨H',aA,aG,aT⟩:=VS (b:=b) (L:=L) qS iP kB (kB.len _ _ ag).2 b.1.1.length [] .full [0,0,0,0,0,0,0] 0 rfl (fun i=>by
  rw [sA]
  match i with
  | 0 | 1 | 2 | 3 | 4 | 5 | 6 | i+7=>simp) (by simp) (by rw [jQ];simp [qo]) (.inl ⟨rfl,rfl⟩) (fun j l aw H' b7=>by
    rw [jQ] at aw;obtain ⟨ab,ae⟩:=sd.1 aw;rw [sG] at b7 ⊢;obtain ⟨H2,bl,cr,eY⟩:=ai j (by simpa using ab) H' b7;rw [ua,ae] at eY
    exact ⟨H2,bl,cr,eY⟩) H1 (by rw [bV,sx,sx];exact kB.more _ _ _ ag) l7
 rw [jQ,sG] at aA;refine ⟨H',by rw [s6];exact aA,?_⟩;refine rG eD WO rfl (Ja (by have:=aG.1;rw [bV] at this;simp at this;omega)) fun Q bo=>?_;rw [bV] at aT;unfold SX SY;conv=>whnf
 refine Ez (x:=.cells [.a0]) (by simp) ?_;conv=>whnf
 rw [H9];refine Ez (x:=.cells [Ji (.bR [lj b]) H.length]) (by rw [List.getElem?_append_right (se _),l1,l2,Nat.sub_self];rfl) ?_;conv=>whnf
 refine ⟨_,_,rE (by rw [l1,l2];exact aT),?_⟩;conv=>whnf
 exact bo _ _ _ ⟨.inl rfl,lF.refl _,rfl⟩
theorem agK {α:Type} {P:Program} {A:dt} {fn:FuncId} {rl:Option Nat} {k:FuncId} {cap:List I} {t:Nat} {bp:List Nat} {gE cp:Code} {T:List I} {H:List ar} {Q:cN→List I→List ar→Prop} {f:α→I} {L:List α} (IX:TZ P k cap (L.map f))
  (ax:dc T t=.func k [] cap) {Inv:Nat→List ar→Prop} (kB:Q8 H.length (H.length+1) Inv) (aQ:Inv 0 (H++[.loop .ready none fn (T.map I.view) bp gE cp A]))
  (L9:∀ (i:Nat) (h:i<L.length) (H1:List ar),Inv i H1→∃ H',Inv (i+1) H'∧Hy (H.length+1) H1 H'∧Sem P (.yield H.length) [f L[i]] H1 0 (.bool true) H')
  (hc:inLoop H rl=true) (ac3:∀ H',Inv L.length H'→H'[H.length]?=some (.loop .ready none fn (T.map I.view) bp gE cp A)) (bo:∀ H',Inv L.length H'→Q .normal (T.map I.settle) (H'.set H.length .dead)):dN P A fn 0 rl (.AP (.m_ t) bp gE cp) T H Q:=by
 show hF T t _;rw [iN,ax]
 obtain ⟨H',b7,cl⟩:=IX H.length (H.length+1) Inv kB (fun i h H1 bV=>by
  have aX:i<L.length:=by simpa using h
  obtain ⟨H2,bl,cr,eY⟩:=L9 i aX H1 bV
  exact ⟨H2,bl,cr,by rw [ua];exact eY⟩) _ aQ
 rw [s6] at b7;refine ⟨hc,.tuple [],H',.ready,none,fn,T.map I.view,bp,gE,cp,A,cl,ac3 _ b7,by decide,bo _ b7⟩
end Go.Proofs.Ytkoioidpbbbaiaa.Ab


namespace Go.Proofs.Ytkoioidpbbbaiaa.Ab
open Go
noncomputable def Yh:gB :=
 .ou false [p3 7 27]
noncomputable def Oz:gB :=
 p4 [p3 58 11,p3 59 58,ch 60 [.jm 13] 59 true .mR,p2 61 [.Bv 59,.Bv 60,.cv (.bool false)] .pick] (.cond (.m_ 61) (qR [p3 62 9,p2 63 [.m_ 6,.Bv 62] (.zx 7 1),⟨none,[.jm 63,.cv (.int .i64 1)],none,none,.st 1⟩]) .skip)
noncomputable def OA:gB :=
 p4 [p2 49 [.m_ 4] (.zH .one),p5 50 7,p5 51 8,qw 52 51 2 .rem,p3 53 8,p2 54 [.Bv 53] (.yE 1 1 [.int .i64 0] [0]),p2 55 [.cv (.func 53 [] []),.jm 49,.jm 50,.jm 52,.jm 54] (.call 1),p3 48 55,qn 56 48 0,p2 57 [.Bv 48] (.ext 1),p3 12 56,p3 13 57] Oz
noncomputable def P5:gB :=
 p4 [p2 40 [.m_ 4] (.zH .one),p5 41 7,p5 42 8,qw 43 42 2 .rem,p2 44 [.cv (.int .i64 1),.Bv 43] (.bin .sub),p2 45 [.cv (.func 53 [] []),.jm 40,.jm 41,.jm 44,.cv (.av [] 0 .full)] (.call 1),p3 39 45,qn 46 39 0,p2 47 [.Bv 39] (.ext 1),p3 10 46,p3 11 47] OA
noncomputable def Ym:gB :=
 .seq (p4 [p5 35 9,p2 36 [.m_ 6,.Bv 35] (.zx 7 1),qj 37 36,qw 38 37 0 .gtr] (.cond (.m_ 38) (.exit 3) .skip)) P5
noncomputable def Tc:gB :=
 .block 3 (p4 [p5 32 30,p2 33 [.m_ 28,.m_ 30] (.kV 1),qj 34 33,p3 8 32,p3 9 34] Ym)
noncomputable def Yl:gB :=
 .block 1 (p4 [p5 28 7,p2 29 [.m_ 28] .zM,qg 30 0] (.block 2 (.loop (some (qc false [4,1,1,2,20,3,55])) (p4 [p2 31 [.m_ 30,.m_ 29] (.bin .lss)] (.seq (.cond (.m_ 31) .skip (.exit 2)) (.seq Tc (qR [qY 64 30 1,p3 30 64])))))))
theorem ad8:eu Go.Proofs.Try.prog Kg (rz Go.Proofs.Try.prog 25 0) 0=some Yh:=by kernel_rfl
theorem aeb:eu Go.Proofs.Try.prog Kg (rA Go.Proofs.Try.prog 25 0) 0=some Yl:=by kernel_rfl
end Go.Proofs.Ytkoioidpbbbaiaa.Ab


namespace Go.Proofs.Ytkoioidpbbbaiaa.Ab
open Go
set_option maxRecDepth 20000
set_option maxHeartbeats 4000000
def Kj (b:Hi) (o:List Int) (F:List Int) (i:Int):Option (List Int) :=
 qx (0≤ix o i∧ix o i<7) <|
 if 0<ix F (ix o i) then some F else
 (II b o (w (1-i.tmod 2)) []).bind fun x=>(II b o (i.tmod 2) [i]).bind fun y =>
 some (if (x.2 && y.2)=true then F.set (ix o i).toNat 1 else F)
theorem Ia.q7 {b:Hi} {m j:Nat} {H:List ar} {o cw:ar} (h:Ia b m H) (aw:H[j]?=some o) (hm:∀ es c,o≠.map es c):Ia b m (H.set j cw):=by
 obtain ⟨es,Jf,ab,ae⟩:=h;have ac5:j≠m:=fun e=>by subst e;rw [ab] at aw;exact hm _ _ (Option.some.inj aw).symm
 refine ⟨es,Jf,by rw [sf ac5];exact ab,fun e he=>?_⟩;obtain ⟨x,id,c,A,aA,aG,aT,bq,bf⟩:=ae e he;have h7:j≠id:=fun e=>by subst e;rw [bq] at aw;exact hm _ _ (Option.some.inj aw).symm
 exact ⟨x,id,c,A,aA,aG,aT,by rw [sf h7];exact bq,bf⟩
structure Good (b:Hi) (rW:ar) (F:List Int) (H:List ar):Prop where
 f:Ia b 0 H
 p:H[1]?=some (.cells [r1 b 0])
 m:H[2]?=some (.cells (F.map hX))
 l:H[3]?=some rW
 n:F.length=7
theorem Good.ext {b:Hi} {rW:ar} {F:List Int} {H H':List ar} (h:Good b rW F H) (aP:Ia b 0 H') (he:Iz 0 H H'):Good b rW F H':=by
 have aF:=(sd.1 h.l).1;exact ⟨aP,by rw [he.2 1 (by omega) (by omega)];exact h.p,by rw [he.2 2 (by omega) (by omega)];exact h.m,by rw [he.2 3 (by omega) aF];exact h.l,h.n⟩
theorem Good.mark {b:Hi} {rW:ar} {F Jy:List Int} {H:List ar} (h:Good b rW F H) (aI:Jy.length=7):Good b rW Jy (H.set 2 (.cells (Jy.map hX))) :=
 ⟨h.f.q7 h.m (fun _ _ e=>by cases e),by rw [sf (by omega)];exact h.p,sm (sd.1 h.m).1,by rw [sf (by omega)];exact h.l,aI⟩
theorem Iz.cB {H H':List ar} (h:Iz 0 H H'):Hy 4 H H':=⟨h.1,fun j c aw ak=>by rw [h.2 j (by omega) (sd.1 ak).1];exact ak⟩
theorem adz {b:Hi} {o F Jy:List Int} {i:Int} (h:Kj b o F i=some Jy) {rW:ar} {H:List ar} (rQ:Good b rW F H) :
  ∃ H',Good b rW Jy H'∧Hy 4 H H'∧(0≤ix o i∧ix o i<7)∧(0<ix F (ix o i)→H'=H) ∧
    (¬ 0<ix F (ix o i)→∃ x y H1 H2,(x.2 && y.2)=true∧Jy=F.set (ix o i).toNat 1∧H'=H2.set 2 (.cells (Jy.map hX))∧Good b rW F H2∧Good b rW F H1 ∧
      Sem Try.prog (.fn 53) [r1 b 0,.av (o.map hX) o.length .shared,hX (w (1-i.tmod 2)),.av [] 0 .full] H 0 (.tuple [.av [] 0 .shared,B x.2]) H1 ∧
      Sem Try.prog (.fn 53) [r1 b 0,.av (o.map hX) o.length .shared,hX (i.tmod 2),.av [hX i] 1 (.uniq 1)] H1 0 (.tuple [.av ((y:List qq×Bool).1.flatMap qm) y.1.length .shared,B y.2]) H2 ∨
     (x.2 && y.2)=false∧Jy=F∧H'=H2∧Good b rW F H2∧Good b rW F H1 ∧
      Sem Try.prog (.fn 53) [r1 b 0,.av (o.map hX) o.length .shared,hX (w (1-i.tmod 2)),.av [] 0 .full] H 0 (.tuple [.av [] 0 .shared,B (x:List qq×Bool).2]) H1 ∧
      Sem Try.prog (.fn 53) [r1 b 0,.av (o.map hX) o.length .shared,hX (i.tmod 2),.av [hX i] 1 (.uniq 1)] H1 0 (.tuple [.av (y.1.flatMap qm) y.1.length .shared,B y.2]) H2):=by
 unfold Kj at h;obtain ⟨ah,h⟩:=rZ h;by_cases aB:0<ix F (ix o i)
 ·rw [if_pos aB] at h;obtain rfl:=Option.some.inj h;exact ⟨H,rQ,Hy.refl _ _,ah,fun _=>rfl,fun aI=>absurd aB aI⟩
 ·rw [if_neg aB] at h;obtain ⟨x,aj,h⟩:=p9 h;obtain ⟨y,aY,h⟩:=p9 h;obtain rfl:=Option.some.inj h;obtain ⟨xi,W7,s1⟩:=ZJ aj (m:=0) (lo:=0) (H:=H) (sH _);have e1:Iz 0 H (H++[W7]):=⟨by simp,fun j _ aw=>by rw [sj aw]⟩;have cc:Good b rW F (H++[W7]):=rQ.ext (rQ.f.more _) e1;obtain ⟨H2,f2,b9,s2⟩:=ZK aY (lo:=0) (se 0) cc.f;have b_:Good b rW F H2:=cc.ext f2 b9;cases af:(x.2 && y.2) with
  | true =>
    rw [if_pos rfl];refine ⟨H2.set 2 (.cells ((F.set (ix o i).toNat 1).map hX)),b_.mark (by rw [List.length_set];exact b_.n),?_,ah,fun h=>absurd h aB,fun _=>⟨x,y,_,H2,.inl ⟨af,rfl,rfl,b_,cc,s1,s2⟩⟩⟩;have k:=(e1.cB).trans b9.cB;refine ⟨by have:=k.1;simpa using this,fun j c aw ak=>by rw [sf (by omega)];exact k.2 j c aw ak⟩
  | false =>
    rw [if_neg (by decide)];exact ⟨H2,b_,(e1.cB).trans b9.cB,ah,fun h=>absurd h aB,fun _=>⟨x,y,_,H2,.inr ⟨af,rfl,rfl,b_,cc,s1,s2⟩⟩⟩
theorem abN {F:List Int} {k:Int} (al:0≤k∧k<7) (bF:F.length=7):(F.map hX)[0+k.toNat*1]?=some (hX (ix F k)):=by
 have h:k.toNat<F.length:=by omega
 rw [sG,tr,sq,sk h];simp [ix,sA,sk h]
theorem agI {b:Hi} {o F Jy:List Int} (aq:o≠[]) (fI:o.length≤1000) (h:IJ (Kj b o) (qo o.length) F=some Jy) {gq Gl r4 Ju Nx:I} {H:List ar} (rQ:Good b (.loop .ready none 25 (qh 86 [(2,gq),(3,Gl),(4,.ptr 1 0),(5,r4),(6,.ptr 2 0),(23,Ju),(26,Nx)]) [27] (rz Try.prog 25 0) (rA Try.prog 25 0) Kg) F H) :
  ∃ H',Good b (.loop .ready none 25 (qh 86 [(2,gq),(3,Gl),(4,.ptr 1 0),(5,r4),(6,.ptr 2 0),(23,Ju),(26,Nx)]) [27] (rz Try.prog 25 0) (rA Try.prog 25 0) Kg) Jy H'∧Hy 4 H H'∧Sem Try.prog (.yield 3) [Ht o] H 0 (.bool true) H':=by
 obtain ⟨HC,N1,L3,RM⟩:=Pq h;rw [Mh] at L3;obtain ⟨n,aI⟩:∃ n,n=o.length:=⟨_,rfl⟩;rw [←aI] at L3 fI;obtain ⟨IY,V5⟩:∃ IY:ar,IY=(.loop .busy none 25 (qh 86 [(2,gq),(3,Gl),(4,.ptr 1 0),(5,r4),(6,.ptr 2 0),(23,Ju),(26,Nx)]) [27] (rz Try.prog 25 0) (rA Try.prog 25 0) Kg):=⟨_,rfl⟩;obtain ⟨PF,R3⟩:∃ PF:ar,PF=(.loop .ready none 25 (qh 86 [(2,gq),(3,Gl),(4,.ptr 1 0),(5,r4),(6,.ptr 2 0),(23,Ju),(26,Nx)]) [27] (rz Try.prog 25 0) (rA Try.prog 25 0) Kg):=⟨_,rfl⟩;rw [←R3] at rQ ⊢;have Dp:∀ es c,PF≠.map es c:=fun _ _ e=>by rw [R3] at e;cases e
 have kJ:∀ es c,IY≠.map es c:=fun _ _ e=>by rw [V5] at e;cases e
 have acu:Good b IY F (H.set 3 IY):=⟨rQ.f.q7 rQ.l Dp,by rw [sf (by omega)];exact rQ.p,by rw [sf (by omega)];exact rQ.m,sm (sd.1 rQ.l).1,rQ.n⟩;have acs:∀ i (hi:i<n),Kj b o (HC i) (i:Int)=some (HC (i+1)):=fun i hi=>by
  have:=RM i (by rw [Mh];omega);simpa [qo] using this
 classical
 obtain ⟨Hs,gI,MQ⟩:=Ph (fun i rO Ij=>i<n→Good b IY (HC i) rO→Good b IY (HC (i+1)) Ij∧Hy 4 rO Ij∧(0≤ix o i∧ix o i<7)∧(0<ix (HC i) (ix o i)→Ij=rO) ∧
   (¬ 0<ix (HC i) (ix o i)→∃ x y H1 H2,(x.2 && y.2)=true∧HC (i+1)=(HC i).set (ix o i).toNat 1∧Ij=H2.set 2 (.cells ((HC (i+1)).map hX))∧Good b IY (HC i) H2∧Good b IY (HC i) H1 ∧
     Sem Try.prog (.fn 53) [r1 b 0,.av (o.map hX) o.length .shared,hX (w (1-(i:Int).tmod 2)),.av [] 0 .full] rO 0 (.tuple [.av [] 0 .shared,B x.2]) H1 ∧
     Sem Try.prog (.fn 53) [r1 b 0,.av (o.map hX) o.length .shared,hX ((i:Int).tmod 2),.av [hX (i:Int)] 1 (.uniq 1)] H1 0 (.tuple [.av ((y:List qq×Bool).1.flatMap qm) y.1.length .shared,B y.2]) H2 ∨
    (x.2 && y.2)=false∧HC (i+1)=HC i∧Ij=H2∧Good b IY (HC i) H2∧Good b IY (HC i) H1 ∧
     Sem Try.prog (.fn 53) [r1 b 0,.av (o.map hX) o.length .shared,hX (w (1-(i:Int).tmod 2)),.av [] 0 .full] rO 0 (.tuple [.av [] 0 .shared,B (x:List qq×Bool).2]) H1 ∧
     Sem Try.prog (.fn 53) [r1 b 0,.av (o.map hX) o.length .shared,hX ((i:Int).tmod 2),.av [hX (i:Int)] 1 (.uniq 1)] H1 0 (.tuple [.av (y.1.flatMap qm) y.1.length .shared,B y.2]) H2)) (H.set 3 IY) (fun i rO=>by
  by_cases aO:i<n∧Good b IY (HC i) rO
  ·obtain ⟨H',aA⟩:=adz (acs i aO.1) aO.2;exact ⟨H',fun _ _=>aA⟩
  ·exact ⟨rO,fun ab ae=>absurd ⟨ab,ae⟩ aO⟩)
 have cY:∀ i,i≤n→Good b IY (HC i) (Hs i)∧Hy 4 (H.set 3 IY) (Hs i):=fun i=>by
  induction i with
  | zero=>intro _;rw [gI,N1];exact ⟨acu,Hy.refl _ _⟩
  | succ i a8 =>
    intro hi;obtain ⟨aA,aG⟩:=a8 (by omega);obtain ⟨bl,cr,_⟩:=MQ i (by omega) aA;exact ⟨bl,aG.trans cr⟩
 obtain ⟨Lh,Wd⟩:=cY n (se _);rw [L3] at Lh;have hlen:H.length≤(Hs n).length:=by have:=Wd.1;simpa using this
 refine ⟨(Hs n).set 3 PF,⟨Lh.f.q7 Lh.l kJ,by rw [sf (by omega)];exact Lh.p,by rw [sf (by omega)];exact Lh.m,sm (sd.1 Lh.l).1,Lh.n⟩,⟨by simpa using hlen,fun j c aw ak=>by rw [sf (by omega)];exact Wd.2 j c aw (by rw [sf (by omega)];exact ak)⟩,?_⟩;subst R3;refine P9 eD ad8 aeb rQ.l rfl (Ja (by simpa using hlen)) ?_;obtain ⟨f_,e,mu⟩:=tP aq;have acM:Ht o=.av (o.map hX) o.length (.own 1):=by rw [mu];rfl
 rw [acM];unfold Yh;conv=>whnf
 refine ⟨rfl,rQ.l,?_⟩;rw [←V5];unfold Yl;obtain ⟨dS,Cu⟩:∃ c,Tc=c:=⟨_,rfl⟩;rw [Cu];conv=>whnf
 rw [←aI];refine .intro (fun m T H'=>∃ i:Nat,i≤n∧m=n-i∧T=qh 86 [(4,.ptr 1 0),(6,.ptr 2 0),(7,.av (o.map hX) n (.own 1)),(28,.av (o.map hX) n .shared),(29,hX n),(30,hX i)]∧H'=Hs i) n ⟨0,sH _,rfl,rfl,gI.symm⟩ ?_;rintro m T H' ⟨i,hi,rfl,rfl,rfl⟩;conv=>whnf
 refine HO (fun aR=>?_) (fun aR=>?_)
 ·have hc:i<n:=by omega
  have IW:0≤(i:Int)∧(i:Int)<(o.length:Int):=by omega
  have a:=cY i hi;obtain ⟨_,_,ah,a7,a9⟩:=MQ i hc a.1;have rC:IntKind.i64.wrap ((i:Int)+1)=((i+1:Nat):Int):=by rw [HX _ (by omega) (by omega)];omega
  subst Cu;unfold Tc Ym;obtain ⟨br,eP⟩:∃ c,P5=c:=⟨_,rfl⟩;rw [eP];conv=>whnf
  refine ⟨by omega,?_⟩;rw [rh hX o (i:Int) IW];conv=>whnf
  refine ⟨ah,?_⟩;conv=>whnf
  refine Ez a.1.m ?_;conv=>whnf
  refine Ez (x:=hX (ix (HC i) (ix o i))) (abN ah a.1.n) ?_;conv=>whnf
  refine HO (fun aB=>?_) (fun aB=>?_)
  ·(conv=>whnf);refine ⟨n-(i+1),by omega,i+1,by omega,rfl,by rw [rC];rfl,?_⟩;rw [a7 aB]
  ·obtain ⟨x,y,H1,H2,a1⟩:=a9 aB;subst eP;rcases a1 with ⟨af,Pt,b7,b_,cc,s1,s2⟩ | ⟨af,Pt,b7,b_,cc,s1,s2⟩
   ·unfold P5;obtain ⟨abw,NZ⟩:∃ c,OA=c:=⟨_,rfl⟩;rw [NZ];(conv=>whnf);refine Ez a.1.p ?_;(conv=>whnf);refine ⟨by decide,?_⟩;(conv=>whnf);rw [←aI] at s1 s2;refine ⟨_,_,rE s1,?_⟩;(conv=>whnf);subst NZ;unfold OA;obtain ⟨B',NY⟩:∃ c,Oz=c:=⟨_,rfl⟩;rw [NY];(conv=>whnf);refine Ez cc.p ?_;(conv=>whnf);refine ⟨by decide,?_⟩;(conv=>whnf);refine ⟨_,_,rE s2,?_⟩;(conv=>whnf);subst NY;unfold Oz;cases aj:x.2 <;> cases aY:y.2 <;> rw [aj,aY] at af
    ·cases af
    ·cases af
    ·cases af
    ·(conv=>whnf);refine ⟨ah,?_⟩;(conv=>whnf);refine Ez b_.m ?_;(conv=>whnf);refine Gr (by rw [s6,b_.n];omega) ?_;(conv=>whnf);refine ⟨n-(i+1),by omega,i+1,by omega,rfl,by rw [rC];rfl,?_⟩;rw [b7,Pt,tM,sG,tr]
   ·unfold P5;obtain ⟨abw,NZ⟩:∃ c,OA=c:=⟨_,rfl⟩;rw [NZ];(conv=>whnf);refine Ez a.1.p ?_;(conv=>whnf);refine ⟨by decide,?_⟩;(conv=>whnf);rw [←aI] at s1 s2;refine ⟨_,_,rE s1,?_⟩;(conv=>whnf);subst NZ;unfold OA;obtain ⟨B',NY⟩:∃ c,Oz=c:=⟨_,rfl⟩;rw [NY];(conv=>whnf);refine Ez cc.p ?_;(conv=>whnf);refine ⟨by decide,?_⟩;(conv=>whnf);refine ⟨_,_,rE s2,?_⟩;(conv=>whnf);subst NY;unfold Oz;cases aj:x.2 <;> cases aY:y.2 <;> rw [aj,aY] at af
    ·(conv=>whnf);refine ⟨n-(i+1),by omega,i+1,by omega,rfl,by rw [rC];rfl,?_⟩;rw [b7]
    ·(conv=>whnf);refine ⟨n-(i+1),by omega,i+1,by omega,rfl,by rw [rC];rfl,?_⟩;rw [b7]
    ·(conv=>whnf);refine ⟨n-(i+1),by omega,i+1,by omega,rfl,by rw [rC];rfl,?_⟩;rw [b7]
    ·cases af
 ·obtain rfl:i=n:=by omega
  conv=>whnf
  exact ⟨rfl,Lh.l,lF.refl _⟩
end Go.Proofs.Ytkoioidpbbbaiaa.Ab


namespace Go.Proofs.Ytkoioidpbbbaiaa.Ab
open Go
noncomputable def SH:gB :=
 .ou false [p5 75 14,p5 76 14,qZ 77 76,p3 78 14,qZ 79 78,p2 80 [.jm 75,.jm 77,.jm 79] (.Bk 1 false true true),p3 81 15,p2 82 [.Bv 81] (.yE 1 1 [.int .i64 0] [0]),p2 83 [.jm 80,.jm 82] (.app 1 8),p3 14 83]
noncomputable def SI:gB :=
 .block 5 (p4 [p5 71 69, p2 72 [.m_ 68, .m_ 69] (.other (Oper.mk (some 72) (Op.index 87 (Operand.tmp 68) (Operand.tmp 69)) 3 "curl.go:170" (Array.mk []) none) 0), p3 15 71, p3 16 72] (p4 [p3 73 16, qw 74 73 0 .gtr] (.cond (.m_ 74) SH .skip)))
noncomputable def SJ:gB :=
 .seq (p4 [p2 68 [.Bv 6] (.zH (.arr 7)),qg 69 0] (.block 4 (.loop (some (qc false [14,1,53,2,16])) (p4 [p2 70 [.m_ 69,.cv (.int .i64 7)] (.bin .lss)] (.seq (.cond (.m_ 70) .skip (.exit 4)) (.seq SI (qR [qY 84 69 1,p3 69 84]))))))) (p4 [p3 85 14,p3 2 85,qg 3 0] .ret)
noncomputable def Ot:gB :=
 .seq (p4 [p2 65 [.m_ 6] (.zH (.arr 7)), p2 66 [] (.build [.int .i64 0, .int .i64 0, .int .i64 0, .int .i64 0, .int .i64 0, .int .i64 0, .int .i64 0] []), p2 67 [.Bv 65, .Bv 66] (.other (Oper.mk (some 67) (Op.binOp .eql 87 (Operand.tmp 65) (Operand.tmp 66) 87) 4 "curl.go:166" (Array.mk [Edge.mk 0 Ground.data, Edge.mk 1 Ground.data]) none) 0)] (.cond (.m_ 67) (p4 [p2 2 [.cv (.av [] 0 .full)] (.nil 1), qg 3 0] .ret) .skip)) (p4 [p2 14 [.cv (.av [] 0 .full)] (.nil 1)] SJ)
noncomputable def PO:gB :=
 .seq (p4 [p5 22 5,qw 23 22 0 .neq] (.cond (.m_ 23) (p4 [p3 24 5,p2 2 [.cv (.av [] 0 .full)] (.nil 1),p3 3 24] .ret) .skip)) (p4 [p2 6 [] (.alloc [.int .i64 0,.int .i64 0,.int .i64 0,.int .i64 0,.int .i64 0,.int .i64 0,.int .i64 0])] (.seq (p4 [p2 25 [.m_ 4] (.zH .one),p2 26 [.cv (.func 46 [] []),.jm 25] (.call 9)] (.block 0 (.AP (.m_ 26) [27] (rz Go.Proofs.Try.prog 25 0) (rA Go.Proofs.Try.prog 25 0)))) Ot))
noncomputable def XQ:gB :=
 p4 [p2 18 [.Bv 1] (.zH (.str 3)),p2 19 [.cv (.func 36 [] []),.jm 18,.cv (.av [] 0 .full)] (.call 8),p3 17 19,qn 20 17 0,p2 21 [.Bv 17] (.ext 1),p2 4 [] (.alloc [.eF]),⟨none,[.m_ 4,.jm 20],none,none,.st 1⟩,p3 5 21] PO
noncomputable def XP:gB :=
 p4 [p2 1 [.jm 0] .yB,p2 2 [.cv (.av [] 0 .full)] (.nil 1),qg 3 0] XQ
theorem adU:qt Go.Proofs.Try.prog Kg 25=some (XP,86,[.tmp 2,.tmp 3]):=by kernel_rfl
end Go.Proofs.Ytkoioidpbbbaiaa.Ab


namespace Go.Proofs.Ytkoioidpbbbaiaa.Ab
open Go
set_option maxRecDepth 20000
set_option maxHeartbeats 4000000
theorem Yv {P:Program} {k:FuncId} {args:List I} {H H':List ar} {lo:Nat} {r:I} (h:Sem P (.fn k) (args.map I.ca) H lo r H'):Sem P (.fn k) args H lo r H':=by
 obtain ⟨aQ,ab,ae⟩:=h;exact ⟨aQ,ab,fun B aa J S w vs ag aI ad=>ae B aa J S w vs ag aI ad.ca⟩
abbrev ME (p:qd):List I:=[(.agg [(.av (p.1.flatMap p') p.1.length .shared),(hX p.2.1),(hX p.2.2)]),(.av [] 0 .full)]
section
variable {p:qd}
theorem abB {e:Int} {lo:Nat} (h:rV p []=some (none,e)):oU Try.prog 8 lo (.fn 36) (ME p) [] (.tuple [.eF,hX e]) [] :=
 ⟨_,EE (r:=.tuple [.eF,hX e]) (H':=[rR p]) (Yv (args:=ME p) (by exact Zx h)),by
  show (k6 _ _ _ _ _ _ (.fn 36) (ME p) [] 0).bind _=_
  rw [ED];rfl⟩
theorem abD {t:qd×Unit} {e:Int} {lo:Nat} (h:rV p []=some (some t,e)):oU Try.prog 8 lo (.fn 36) (ME p) [] (.tuple [.bR [(.av (p.1.flatMap p') p.1.length .shared),(hX p.2.1),(hX p.2.2),.map 0],hX 0]) [.map [] 0] :=
 ⟨_,EE (r:=.tuple [.ptr 2 0,hX 0]) (H':=[rR p,.map [] 0,.cells [(.av (p.1.flatMap p') p.1.length .shared),(hX p.2.1),(hX p.2.2),.map 1]]) (Yv (args:=ME p) (by exact (OX h).2.2)),by
  show (k6 _ _ _ _ _ _ (.fn 36) (ME p) [] 0).bind _=_;rw [ED];have e1:dZ (bL [rR p,.map [] 0,.cells [(.av (p.1.flatMap p') p.1.length .shared),(hX p.2.1),(hX p.2.2),.map 1]] 0 1 0 6) [(.av (p.1.flatMap p') p.1.length .shared),(hX p.2.1),(hX p.2.2),.map 1]=some [(.av (p.1.flatMap p') p.1.length .shared),(hX p.2.1),(hX p.2.2),.map 0] :=
   rL (yZ (HF (fun _=>p6 rfl (p6 rfl rfl)) _ _ _)) (rL (yZ rfl) (rL (yZ rfl) (rL rfl Jb)))
  have b9:bL [rR p,.map [] 0,.cells [(.av (p.1.flatMap p') p.1.length .shared),(hX p.2.1),(hX p.2.2),.map 1]] 0 1 0 8 (.tuple [.ptr 2 0,hX 0])=some (.tuple [.bR [(.av (p.1.flatMap p') p.1.length .shared),(hX p.2.1),(hX p.2.2),.map 0],hX 0]) :=
   NW (rL (show (dZ (bL [rR p,.map [] 0,.cells [(.av (p.1.flatMap p') p.1.length .shared),(hX p.2.1),(hX p.2.2),.map 1]] 0 1 0 6) [(.av (p.1.flatMap p') p.1.length .shared),(hX p.2.1),(hX p.2.2),.map 1]).map I.bR=_ by rw [e1];rfl) (rL rfl Jb))
  show (match mapM (bL [rR p,.map [] 0,.cells [(.av (p.1.flatMap p') p.1.length .shared),(hX p.2.1),(hX p.2.2),.map 1]] 0 1 0 8) [],bL [rR p,.map [] 0,.cells [(.av (p.1.flatMap p') p.1.length .shared),(hX p.2.1),(hX p.2.2),.map 1]] 0 1 0 8 (.tuple [.ptr 2 0,hX 0]) with | some es',some v=>some (v,[]++[ar.map es' 0]) | _,_=>none)=_
  rw [b9];rfl⟩
end
def MI (b:Hi) (F:List Int) (o:List Int):Option (List Int):=IJ (Kj b o) (qo o.length) F
def LY (F:List Int):List Int×Int:=if decide (F=[0,0,0,0,0,0,0])=true then ([],0) else ((qo 7).filter (fun s=>decide (0<ix F s)),0)
def Mm (p:qd):Option (List Int×Int) :=
 (rV p []).bind fun r=>match r with
 | (none,q)=>if decide (q≠0)=true then some ([],q) else none
 | (some b,_) =>
   qx (0<b.1.1.length∧b.1.1.length≤7) <|
   (IJ (MI b) (q' b.1.1.length (qo b.1.1.length)) [0,0,0,0,0,0,0]).bind fun F =>
   some (LY F)
theorem adM {n:Nat} {left:List Int}:∀ e∈q' n left,e.length=n:=fun e he=>by
 induction n generalizing left e with
 | zero=>simp [q'] at he;simp [he]
 | succ n a8 =>
   simp only [q',List.mem_flatMap,sD] at he;obtain ⟨x,_,l,ao,rfl⟩:=he;simp [a8 l ao]
theorem Good.more {b:Hi} {rW:ar} {F:List Int} {H:List ar} (h:Good b rW F H) (Z:List ar):Good b rW F (H++Z) :=
 h.ext (h.f.more Z) ⟨by simp,fun j _ aw=>by rw [sj aw]⟩
theorem Good.agV {b:Hi} {rW:ar} {F:List Int} {H:List ar} {j:Nat} {c:List I} (dR:List I) (h:Good b rW F H) (aw:4≤j) (ak:H[j]?=some (.cells c)):Good b rW F (H.set j (.cells dR)) :=
 ⟨h.f.q7 ak (fun _ _ e=>by cases e),by rw [sf (by omega)];exact h.p,by rw [sf (by omega)];exact h.m,by rw [sf (by omega)];exact h.l,h.n⟩
theorem YT (n:Nat):qo (n+1)=qo n++[(n:Int)]:=by simp [qo,vL]
theorem ahg {b:Hi} {rW:ar} {F:List Int} {H':List ar} (rQ:Good b rW F H') {gq Gl r4 Ju Nx:I} {Q:cN→List I→List ar→Prop}
  (jG:∀ T H,Ib [.tmp 2,.tmp 3] (.tuple [.av ((LY F).1.map hX) (LY F).1.length .shared,hX (LY F).2]) .ret T H→Q .ret T H) :
  dN Try.prog Kg 25 0 none Ot (qh 86 [(2,gq),(3,Gl),(4,.ptr 1 0),(5,r4),(6,.ptr 2 0),(23,Ju),(26,Nx)]) (H'.set 3 .dead) Q:=by
 unfold Ot;obtain ⟨br,eP⟩:∃ c,SJ=c:=⟨_,rfl⟩;rw [eP];have hm:(H'.set 3 .dead)[2]?=some (.cells (F.map hX)):=by rw [sf (by omega)];exact rQ.m
 have aI:=rQ.n;conv=>whnf
 refine Ez hm ?_;conv=>whnf
 refine ⟨by simp [aI],?_⟩;rw [WA hX F (fun _=>rfl) aI];conv=>whnf
 refine ⟨_,_,fun C=>Sp rfl rfl (aaG .i64 (e:=3) (len:=7) (kd:=.i64) (xs:=F) (ys:=[(0:Int),0,0,0,0,0,0]) (by kernel_rfl) (by kernel_rfl) (by kernel_rfl) (by kernel_rfl) aI rfl),?_⟩;conv=>whnf
 unfold LY at jG;refine HO (fun bj=>?_) (fun bj=>?_)
 ·rw [decide_eq_true bj] at jG;conv=>whnf
  exact jG _ _ (IG rfl rfl)
 ·rw [decide_eq_false bj] at jG;conv=>whnf
  subst eP;unfold SJ;obtain ⟨a9,b_⟩:∃ c,SI=c:=⟨_,rfl⟩;rw [b_];conv=>whnf
  refine Ez hm ?_;conv=>whnf
  refine ⟨by simp [aI],?_⟩;rw [WA hX F (fun _=>rfl) aI];conv=>whnf
  refine .intro (fun m T H=>∃ (i:Nat) (L:List Int) (c:hB),i≤7∧m=7-i∧L=(qo i).filter (fun s=>decide (0<ix F s))∧c=.uniq 1∧T=qh 86 [(14,.av (L.map hX) L.length c),(68,.agg (F.map hX)),(69,hX i)]∧H=H'.set 3 .dead) 7 ⟨0,[],_,by omega,rfl,rfl,rfl,rfl,rfl⟩ ?_;rintro m T H ⟨i,L,c,hi,rfl,fm,rfl,rfl,rfl⟩;conv=>whnf
  refine HO (fun aR=>?_) (fun aR=>?_)
  ·(have rC:IntKind.i64.wrap ((i:Int)+1)=((i+1:Nat):Int):=by rw [HX _ (by omega) (by omega)];omega);subst b_;unfold SI;obtain ⟨a7,cc⟩:∃ c,SH=c:=⟨_,rfl⟩;rw [cc];(conv=>whnf);refine ⟨_,_,fun C=>afg rfl (aaH (e:=3) (len:=7) (kd:=.i64) (by kernel_rfl) (by kernel_rfl) (by kernel_rfl) (by kernel_rfl) aI ⟨by omega,aR⟩),?_⟩;(conv=>whnf);refine HO (fun aB=>?_) (fun aB=>?_)
   ·subst cc;unfold SH;have ai9:L.length≤7:=by
     have:=vj (fun s=>decide (0<ix F s)) (qo i);rw [Mh] at this;rw [fm];omega
    (conv=>whnf);refine ⟨⟨rfl,by omega,sK _⟩,?_⟩;(conv=>whnf);rw [tx,tr,tf (by simp)];refine ⟨rfl,by decide,?_⟩;(conv=>whnf);refine ⟨by decide,by omega,by simp,?_⟩;(conv=>whnf);refine ⟨7-(i+1),by omega,i+1,_,.uniq 1,by omega,rfl,rfl,rfl,?_,rfl⟩;rw [YT,ub,←fm,show [(i:Int)].filter (fun s=>decide (0<ix F s))=[(i:Int)] by simp [aB],sT,sE,rC];rfl
   ·(conv=>whnf);refine ⟨7-(i+1),by omega,i+1,L,.uniq 1,by omega,rfl,?_,rfl,by rw [rC];rfl,rfl⟩;rw [YT,ub,←fm,show [(i:Int)].filter (fun s=>decide (0<ix F s))=[] by simp [aB],sN]
  ·(obtain rfl:i=7:=by omega);(conv=>whnf);rw [fm];exact jG _ _ (IG rfl rfl)
theorem Zm {p:qd} {v:List Int×Int} (h:Mm p=some v):qy 25 [.agg [.av (p.1.flatMap p') p.1.length .shared,hX p.2.1,hX p.2.2]] (.tuple [.av (v.1.map hX) v.1.length .shared,hX v.2]):=by
 unfold Mm at h;obtain ⟨⟨aS,bh⟩,ai,h⟩:=p9 h;refine qQ eD adU rfl (Jq (p6 (rT (fun _=>rfl) _ _ _) (p6 rfl rfl))) fun Q bo=>?_;have jG:∀ T H,Ib [.tmp 2,.tmp 3] (.tuple [.av (v.1.map hX) v.1.length .shared,hX v.2]) .ret T H→Q .ret T H:=fun T H bD=>bo _ T H bD;unfold XP XQ;obtain ⟨dS,Cu⟩:∃ c,PO=c:=⟨_,rfl⟩;rw [Cu];conv=>whnf
 refine ⟨rfl,?_⟩;conv=>whnf
 rcases aS with _ | b
 ·refine ⟨_,_,abB ai,?_⟩;conv=>whnf
  subst Cu;unfold PO;refine bs h (fun af h=>?_) fun af h=>?_
  ·obtain ⟨b5,iM⟩:∃ c,Ot=c:=⟨_,rfl⟩;rw [iM];rw [show I.int IntKind.i64 bh=hX bh from rfl];(conv=>whnf);rw [af];(conv=>whnf);obtain rfl:=Option.some.inj h;exact jG _ _ (IG rfl rfl)
  ·cases h
 ·obtain ⟨rfl,rfl,_⟩:=OX ai;refine ⟨_,_,abD ai,?_⟩;conv=>whnf
  obtain ⟨⟨Dl,MT⟩,h⟩:=rZ h;obtain ⟨F,ao,h⟩:=p9 h;obtain rfl:=Option.some.inj h;subst Cu;unfold PO;obtain ⟨b5,iM⟩:∃ c,Ot=c:=⟨_,rfl⟩;rw [iM];conv=>whnf
  refine ⟨_,_,call9 (bs:=[lj (p,())]) rfl (p6 (It (p,())) rfl) (Tz (b:=(p,())) (v:=()) rfl),?_⟩;obtain ⟨br,eP⟩:∃ c,gB.AP (.m_ 26) [27] (rz Try.prog 25 0) (rA Try.prog 25 0)=c:=⟨_,rfl⟩;rw [eP];conv=>whnf
  subst eP;obtain ⟨HC,N1,L3,RM⟩:=Pq ao;obtain ⟨rW,Px⟩:∃ rW:ar,rW=.loop .ready none 25 (qh 86 [(2,I.view (.av [] 0 (.uniq 1))),(3,hX 0),(4,.ptr 1 0),(5,hX 0),(6,.ptr 2 0),(23,B (decide ((0:Int)≠0))),(26,I.view (.func 65 [] [.bR [lj (p,())]]))]) [27] (rz Try.prog 25 0) (rA Try.prog 25 0) Kg:=⟨_,rfl⟩;have kJ:∀ c,rW≠.cells c:=fun c e=>by rw [Px] at e;cases e
  refine agK (f:=Ht) (agQ (b:=(p,())) MT Dl) (Inv:=fun i H=>Good (p,()) rW (HC i) H) (by exact rfl) ⟨fun i H rQ=>⟨sC _,(sd.1 rQ.l).1⟩,fun i H Z rQ=>rQ.more Z,fun i H j c dR rQ aw ak=>rQ.agV dR aw ak⟩ ?_ ?_ (rl:=none) (by exact rfl) ?_ ?_
  ·show Good _ _ (HC 0) _;rw [N1,Px];exact ⟨⟨[],0,rfl,fun e he=>absurd he (by simp)⟩,rfl,rfl,rfl,rfl⟩
  ·intro i hi H1 rQ;rw [Px] at rQ ⊢;exact agI (Sb Dl _ (tR hi)) (by rw [adM _ (tR hi)];omega) (RM i hi) rQ
  ·intro H' rQ;rw [Px] at rQ;exact rQ.l
  ·intro H' rQ;rw [L3] at rQ;subst iM;exact ahg rQ jG

end Go.Proofs.Ytkoioidpbbbaiaa.Ab


namespace Go.Proofs.Ytkoioidpbbbaiaa.Ab
open Go
set_option maxRecDepth 20000
set_option maxHeartbeats 1000000
def Da (p:qd) (o:List Int) (i:Nat):Bool:=decide (HA p o (1-i % 2)) && decide (H0 p o (i % 2) i)
abbrev Ik:=Nat→Bool
def OJ (p:qd) (o:List Int) (i:Nat) (M:Ik):Ik:=fun s=>M s || (decide (s=(ix o (i:Int)).toNat) && Da p o i)
def KT (p:qd) (o:List Int) (M:Ik):Nat→Ik
 | 0=>M
 | k+1=>OJ p o k (KT p o M k)
def allM (p:qd):List (List Int)→Ik→Ik
 | [],M=>M
 | o::r,M=>allM p r (KT p o M o.length)
def HL (p:qd):Ik:=allM p (rP p) fun _=>false
theorem Xc {p:qd} {o:List Int} {M:Ik} {s:Nat}:∀ {k:Nat},KT p o M k s=true↔M s=true∨∃ i,i<k∧s=(ix o (i:Int)).toNat∧Da p o i=true
 | 0=>by simp [KT]
 | k+1=>by
   unfold KT OJ;rw [Bool.or_eq_true,Xc,sn,decide_eq_true_eq];constructor
   ·rintro ((h | ⟨i,ab,ae⟩) | h)
    ·exact .inl h
    ·exact .inr ⟨i,by omega,ae⟩
    ·exact .inr ⟨k,by omega,h⟩
   ·rintro (h | ⟨i,ab,ae⟩)
    ·exact .inl (.inl h)
    ·by_cases e:i=k
     ·subst e;exact .inr ae
     ·exact .inl (.inr ⟨i,by omega,ae⟩)
theorem T7 {p:qd} {s:Nat}:∀ {E:List (List Int)} {M:Ik},allM p E M s=true↔M s=true∨∃ o∈E,∃ i,i<o.length∧s=(ix o (i:Int)).toNat∧Da p o i=true
 | [],M=>by simp [allM]
 | o::r,M=>by
   unfold allM;rw [T7,Xc];constructor
   ·rintro ((h | h) | ⟨cw,ab,ae⟩)
    ·exact .inl h
    ·exact .inr ⟨o,by simp,h⟩
    ·exact .inr ⟨cw,by simp [ab],ae⟩
   ·rintro (h | ⟨cw,ab,ae⟩)
    ·exact .inl (.inl h)
    ·rcases sB.1 ab with rfl | ab
     ·exact .inl (.inr ae)
     ·exact .inr ⟨cw,ab,ae⟩
theorem Ru {p:qd} {s:Nat}:HL p s=true↔∃ o,qs p.1.length o∧∃ i,i<o.length∧s=(ix o (i:Int)).toNat∧Da p o i=true:=by
 unfold HL;rw [T7];constructor
 ·rintro (h | ⟨o,ab,ae⟩)
  ·cases h
  ·exact ⟨o,Ko.1 ab,ae⟩
 ·rintro ⟨o,ab,ae⟩;exact .inr ⟨o,Ko.2 ab,ae⟩
theorem abl {p:qd} {s:Nat} (h:HL p s=true):s<p.1.length:=by
 obtain ⟨o,k,i,hi,rfl,_⟩:=Ru.1 h;have:=r0 k i hi;omega
def HZ (p:qd):List Int:=(qo p.1.length).filter fun s=>HL p s.toNat
def z1 (M:Ik):List Int:=(List.range 7).map fun s=>if M s=true then 1 else 0
theorem ae4 (M:Ik):(z1 M).length=7:=by simp [z1]
theorem WY (M:Ik) {s:Nat} (h:s<7):ix (z1 M) (s:Int)=if M s=true then 1 else 0:=by
 rw [rB (by rw [ae4];exact h)];simp [z1]
theorem ae5 (M:Ik) {v:Nat} (h:v<7):(z1 M).set v 1=z1 fun s=>M s || decide (s=v):=by
 apply List.ext_getElem (by simp [z1]);intro j ab ae;rw [List.getElem_set];simp only [z1,ua,List.getElem_range];by_cases e:v=j
 ·subst e;simp
 ·rw [if_neg e]
  have:decide (j=v)=false:=by simp;omega
  rw [this,vO]
section
variable {p:qd} {o:List Int}
theorem abm (h:qW p) (k:qs p.1.length o) {i:Nat} (hi:i<o.length) (M:Ik):Kj (p,()) o (z1 M) (i:Int)=some (z1 (OJ p o i M)):=by
 have ac2:=qs.WC h k;have ai:=r0 k i hi;have aI:=k.1;obtain ⟨v,ad⟩:∃ v:Nat,ix o (i:Int)=(v:Int):=⟨(ix o (i:Int)).toNat,by omega⟩;have hu:OJ p o i M=fun s=>M s || (decide (s=v) && Da p o i):=by unfold OJ;rw [ad];rfl
 rw [hu];unfold Kj;rw [ad] at ai ⊢;rw [qD (by omega),WY M (by omega)];cases CD:M v with
 | true =>
   rw [if_pos (by simp)];congr 1;unfold z1;refine List.map_congr_left fun s _=>?_;by_cases e:s=v
   ·subst e;simp [CD]
   ·simp [e]
 | false =>
   rw [if_neg (by simp),Nj];(have e1:w (1-((i % 2:Nat):Int))=((1-i % 2:Nat):Int):=by rw [qK (by omega)];omega);rw [e1,ZI h k,sc];unfold Da;rcases ZH h k (a:=i % 2) hi with ⟨s,ab,ae,aF⟩ | ⟨ab,ae⟩
   ·rw [ab,sc,decide_eq_true (LZ.2 ⟨s,ae,aF⟩)];simp only [tw];by_cases aP:HA p o (1-i % 2)
    ·rw [if_pos (decide_eq_true aP),decide_eq_true aP,tx,ae5 M (by omega)];simp only [tw]
    ·rw [if_neg (by simpa using aP),decide_eq_false aP];simp only [Bool.and_false,vO]
   ·rw [ab,sc,decide_eq_false ae];simp only [Bool.and_false,vO];rw [if_neg (by decide)]
theorem Vw (h:qW p) (k:qs p.1.length o) (M:Ik):∀ (m i:Nat),i≤o.length→o.length-i=m→IJ (Kj (p,()) o) ((qo o.length).drop i) (z1 (KT p o M i))=some (z1 (KT p o M o.length))
 | 0,i,hi,hm=>by
   (obtain rfl:i=o.length:=by omega);rw [List.drop_of_length_le (by rw [JH];omega)];rfl
 | m+1,i,hi,hm=>by
   (have aR:i<o.length:=by omega);have e1:(qo o.length).drop i=(i:Int)::(qo o.length).drop (i+1):=by
    rw [s9 (by rw [JH];omega)];congr 1;rw [←rB,R_ aR]
   rw [e1];show (Kj (p,()) o (z1 (KT p o M i)) (i:Int)).bind (fun t=>IJ (Kj (p,()) o) _ t)=_;rw [abm h k aR,sc];exact Vw h k M m (i+1) (by omega) (by omega)
theorem abp (h:qW p) (k:qs p.1.length o) (M:Ik):MI (p,()) (z1 M) o=some (z1 (KT p o M o.length)):=Vw h k M o.length 0 (by omega) rfl
theorem Vy (h:qW p):∀ (E:List (List Int)) (M:Ik),(∀ o∈E,qs p.1.length o)→IJ (MI (p,())) E (z1 M)=some (z1 (allM p E M))
 | [],_,_=>rfl
 | o::r,M,rv=>by
   show (MI (p,()) (z1 M) o).bind (fun t=>IJ (MI (p,())) r t)=_;rw [abp h (rv o (by simp)),sc];exact Vy h r _ fun cw aX=>rv cw (by simp [aX])
theorem abd {p:qd} (h:qW p):LY (z1 (HL p))=(HZ p,0):=by
 have f_:(qo 7).filter (fun s=>decide (0<ix (z1 (HL p)) s))=(qo 7).filter fun s=>HL p s.toNat:=by
  refine List.filter_congr fun s ah=>?_;have:=MX.1 ah;obtain ⟨v,rfl⟩:∃ v:Nat,s=(v:Int):=⟨s.toNat,by omega⟩;rw [WY _ (by omega),tx];cases HL p v <;> rfl
 have e1:(qo 7).filter (fun s=>HL p s.toNat)=HZ p:=by
  unfold HZ;have key:∀ r:List Int,(∀ s∈r,(p.1.length:Int)≤s)→r.filter (fun s=>HL p s.toNat)=[]:=fun r ai=>by
   rw [List.filter_eq_nil_iff];intro s ah af;have:=abl af;have:=ai s ah;omega
  rcases h.n with e | e | e
  ·rw [e,show qo 7=qo 3++[3,4,5,6] from rfl,ub,key [3,4,5,6] (by rw [e];decide),sN]
  ·rw [e,show qo 7=qo 5++[5,6] from rfl,ub,key [5,6] (by rw [e];decide),sN]
  ·rw [e]
 unfold LY;by_cases bj:z1 (HL p)=[0,0,0,0,0,0,0]
 ·rw [if_pos (decide_eq_true bj)];rw [bj] at f_;rw [←e1,←f_];rfl
 ·rw [if_neg (by simpa using bj),f_,e1]
theorem Zl (aB:p.1.length≤1000):Mm p=some (if ry p=0 then (HZ p,0) else ([],ry p)):=by
 unfold Mm;rw [Ty aB,sc];by_cases h:ry p=0
 ·rw [if_pos h,if_pos h];have ad:=JL.1 h;have ao:=ad.len;simp only;rw [qD (show 0<p.1.length∧p.1.length≤7 by omega)];have e:IJ (MI (p,())) (q' p.1.length (qo p.1.length)) [0,0,0,0,0,0,0]=some (z1 (HL p)):=Vy ad (rP p) (fun _=>false) fun o aq=>Ko.1 aq;rw [e,sc,abd ad]
 ·rw [if_neg h,if_neg h];simp only;rw [if_pos (decide_eq_true h)]
end
end Go.Proofs.Ytkoioidpbbbaiaa.Ab


namespace Go.Proofs.Ytkoioidpbbbaiaa.Ab
open Go
set_option maxRecDepth 20000
set_option maxHeartbeats 4000000
noncomputable def QK:gB :=
 .loop (some (qc false [0,2,3,1,20])) (.seq (p4 [p5 11 5,p5 12 0,qZ 13 12,qv 14 11 13 .lss] (.cond (.m_ 14) .skip (.exit 0))) (.seq (.block 1 (.seq (q4 [p5 17 0,p5 18 5,rk 19 17 18 1,qj 20 19,p5 21 1,p5 22 5,rk 23 21 22 1,qj 24 23,qv 25 20 24 .neq]) (.cond (.m_ 25) (p4 [p2 4 [.cv (.bool false)] .mR] .ret) .skip))) (qR [p3 15 5,qY 16 15 1,p3 5 16])))
noncomputable def ZV:gB :=
 p4 [p2 4 [.cv (.bool false)] .mR] (.seq (p4 [p5 6 0,qZ 7 6,p5 8 1,qZ 9 8,qv 10 7 9 .neq] (.cond (.m_ 10) (p4 [p2 4 [.cv (.bool false)] .mR] .ret) .skip)) (.seq (p4 [qg 5 0] (.block 0 QK)) (p4 [p2 4 [.cv (.bool true)] .mR] .ret)))
theorem aen:qt Try.prog Re 27=some (ZV,26,[.tmp 4]):=by kernel_rfl
def OP (a b:qa) (qf:Unit→Option Bool):Nat→Int→Option Bool
 | 0,_=>none
 | m+1,s1 =>
   if (decide (s1<(a.length:Int)))=true then
    qx (0≤s1∧s1<(a.length:Int)) <|
    qx (0≤s1∧s1<(b.length:Int)) <|
    if (decide ((ix a s1)≠(ix b s1)))=true then
     some false
    else
     OP a b qf m (w (s1+(1:Int)))
   else
    qf ()
def Ml (a b:qa):Option Bool :=
 if (decide ((a.length:Int)≠(b.length:Int)))=true then
  some false
 else
  OP a b (fun _ =>
    some true) ql (0:Int)
theorem ahP {a:qa} {b:qa} {qf:Unit→Option Bool} {s1:Int} {v:Bool} {Q:Hm}   (jG:qL [.tmp 4] Q (fun v=>(B v)) v) (rm:∀ (qe:List I),qf ()=some v→rr 26 [] qe→Q (.exit 0) qe []) {T:List I} (bZ:eW (qc false [0,2,3,1,20]) T=qh 26 [(0,(qF a .shared)),(1,(qF b .shared)),(5,(hX s1))]) (h:OP a b qf ql s1=some v) :
  dN Try.prog Re 27 0 none QK T [] Q:=by
 unfold QK;refine wp_loop bZ ?_;refine .intro (fun m T H=>∃ (s1:Int),T=qh 26 [(0,(qF a .shared)),(1,(qF b .shared)),(5,(hX s1))]∧H=[]∧OP a b qf m s1=some v) ql ⟨s1,rfl,rfl,h⟩ ?_;clear h bZ;rintro m T H ⟨s1,rfl,rfl,h⟩;cases m
 ·exact r3 h
 rename_i m;rw [OP.eq_2] at h;conv=>whnf
 refine bs h (fun gK h=>?_) fun gK h=>?_
 ·rw [gK];conv=>whnf
  refine qN h id fun qu h=>?_;rw [rh hX a s1 qu];conv=>whnf
  refine qN h id fun qH h=>?_;rw [rh hX b s1 qH];conv=>whnf
  refine bs h (fun qU h=>?_) fun qU h=>?_
  ·rw [qU];(conv=>whnf);exact p_ h jG rfl rfl
  ·rw [qU];(conv=>whnf);exact ⟨m,sC m,(w (s1+(1:Int))),rfl,rfl,h⟩
 ·rw [gK];conv=>whnf
  exact rm  _ h ⟨rfl,rfl⟩
theorem Tt {a:qa} {b:qa} {v:Bool} (h:Ml a b=some v):qy 27 [(.av (a.map hX) a.length .shared),(.av (b.map hX) b.length .shared)] (B v):=by
 refine qQ eD aen rfl rfl fun Q bo=>?_;have jG:qL [.tmp 4] Q (fun v=>(B v)) v:=fun T H bD=>bo _ T H bD;unfold Ml at h;unfold ZV;obtain ⟨HN,qI⟩:∃ c,QK=c:=⟨_,rfl⟩;rw [qI];conv=>whnf
 refine bs h (fun gJ h=>?_) fun gJ h=>?_
 ·rw [gJ];conv=>whnf
  exact p_ h jG rfl rfl
 ·rw [gJ];conv=>whnf
  subst qI;refine ahP ?_ ?_ (by exact rfl) h
  ·exact fun T H bD=>jG T H bD
  ·intro  qe h qA;obtain ⟨rn,rfl⟩:=qA.ex;(conv=>whnf);exact p_ h jG rfl rfl

noncomputable def Z3:gB :=
 p4 [p2 2 [.jm 0] .box,qg 4 0,qg 5 0] (p4 [p2 9 [.Bv 2] (.zH (.str 3)),p3 10 1,p2 11 [.cv (.func 22 [] []),.m_ 9,.m_ 10] (.call 3),p3 8 11,qn 12 8 0,p2 13 [.Bv 8] (.ext 1),p3 6 12,p3 7 13] (p4 [p3 14 6,qZ 15 14,p3 16 7,p3 4 15,p3 5 16] .ret))
theorem aev:qt Try.prog Ug 21=some (Z3,17,[.tmp 4,.tmp 5]):=by kernel_rfl
def Ii (p:(qk×(Int×Int))) (order:qa):Option (Int×Int) :=
 (Kq p order).bind fun aS =>
 some ((aS.1.length:Int),aS.2)
theorem LD {p:(qk×(Int×Int))} {order:qa} {v:(Int×Int)} (h:Ii p order=some v):qy 21 [(.agg [(.av (p.1.flatMap p') p.1.length .shared),(hX p.2.1),(hX p.2.2)]),(.av (order.map hX) order.length .shared)] (.tuple [(hX v.1),(hX v.2)]):=by
 refine qQ eD aev rfl (Jq (p6 rfl (p6 rfl rfl))) fun Q bo=>?_;have jG:qL [.tmp 4,.tmp 5] Q (fun v=>(.tuple [(hX v.1),(hX v.2)])) v:=fun T H bD=>bo _ T H bD;unfold Ii at h;unfold Z3;conv=>whnf
 obtain ⟨aS,gJ,h⟩:=p9 h;refine ⟨qb.pl,_,Qr gJ,?_⟩;conv=>whnf
 exact p_ h jG rfl rfl

def JK (x:(Int×Int)):List I:=[(hX x.1),(hX x.2)]
theorem Q6 (x:(Int×Int)):(JK x).length=2:=rfl
instance {d:Nat} {x:(Int×Int)}:qb (d+1) (JK x):=⟨(inferInstance:qb (d+1) [(hX x.1),(hX x.2)]).pl⟩
noncomputable def QZ:gB :=
 .loop (some (qc false [2,1,3,3,27])) (.seq (p4 [p5 13 8,qY 14 13 1,p5 15 2,qZ 16 15,qv 17 14 16 .lss] (.cond (.m_ 17) .skip (.exit 0))) (.seq (.block 1 (q4 [p2 20 [.m_ 7] (.yP 0),p2 21 [.Bv 20] .take,p5 22 2,p5 23 8,rk 24 22 23 1,qj 25 24,p5 26 2,p5 27 8,qY 28 27 1,rk 29 26 28 1,qj 30 29,p2 31 [.Bv 25,.Bv 30] (.build [.int .i64 0,.int .i64 0] [(0,1),(1,1)]),p2 32 [.Bv 31] (.yE 1 2 [.int .i64 0,.int .i64 0] [0]),p2 33 [.jm 21,.jm 32] (.app 2 16),p2 34 [.m_ 7] (.yP 0),⟨none,[.jm 34,.jm 33],none,none,.st 1⟩])) (qR [p3 18 8,qY 19 18 2,p3 8 19])))
noncomputable def aan:gB :=
 p4 [p2 6 [] (.alloc [.av [] 0 .full,.int .i64 0,.int .i64 0])] (p4 [p3 9 0,p3 10 1,p2 11 [.Bv 9,.Bv 10] (.build [.int .i64 0,.int .i64 0] [(0,1),(1,1)]),p2 12 [.Bv 11] (.build [.av [] 0 .full,.int .i64 0,.int .i64 0] [(1,2)]),p2 7 [] (.alloc [.av [] 0 .full,.int .i64 0,.int .i64 0]),⟨none,[.m_ 7,.jm 12],none,none,.st 3⟩] (.seq (p4 [qg 8 0] (.block 0 QZ)) (p4 [p2 35 [.Bv 7] (.zH (.str 3)),⟨none,[.m_ 6,.jm 35],none,none,.st 3⟩] .ret)))
theorem aeR:qt Try.prog Rk 54=some (aan,36,[.cell 6 (.str 3)]):=by kernel_rfl
def O3 (x:qa) (qf:qk→Option (qk×(Int×Int))):Nat→Int→qk→Option (qk×(Int×Int))
 | 0,_,_=>none
 | m+1,s1,s2 =>
   if (decide ((w (s1+(1:Int)))<(x.length:Int)))=true then
    qx (0≤s1∧s1<(x.length:Int)) <|
    qx (0≤(w (s1+(1:Int)))∧(w (s1+(1:Int)))<(x.length:Int)) <|
    qx ((s2.length+1)*16≤140737488355328) <|
    O3 x qf m (w (s1+(2:Int))) (s2++[((ix x s1),(ix x (w (s1+(1:Int)))))])
   else
    qf s2
def O2 (lo hi:Int) (x:qa):Option (qk×(Int×Int)) :=
 O3 x (fun yq =>
   some (yq,(lo,hi))) ql (0:Int) ([]:List (Int×Int))
theorem ait {x:qa} {qf:qk→Option (qk×(Int×Int))} {s1:Int} {s2:qk} {lo:Int} {hi:Int} {v:(qk×(Int×Int))} {Q:Hm}   {Lf:hB} (rm:∀ (yq:qk) (qe:List I),qf yq=some v→rr 36 [(6,(.ptr 0 0)),(7,(.ptr 1 0))] qe→Q (.exit 0) qe [ar.cells [(.av [] 0 .full),(hX (0:Int)),(hX (0:Int))],ar.cells [(.av (yq.flatMap JK) yq.length .full),(hX lo),(hX hi)]]) (ac1:∀ (yq:qk) (qe:List I),qf yq=some v→rr 36 [(6,(.ptr 0 0)),(7,(.ptr 1 0))] qe→Q (.exit 0) qe [ar.cells [(.av [] 0 .full),(hX (0:Int)),(hX (0:Int))],ar.cells [(.av (yq.flatMap JK) yq.length (.own 2)),(hX lo),(hX hi)]]) (RW:(Lf=hB.full∨Lf=(.own 2))) {T:List I} (bZ:eW (qc false [2,1,3,3,27]) T=qh 36 [(2,(qF x .shared)),(6,(.ptr 0 0)),(7,(.ptr 1 0)),(8,(hX s1))]) (h:O3 x qf ql s1 s2=some v) :
  dN Try.prog Rk 54 0 none QZ T [ar.cells [(.av [] 0 .full),(hX (0:Int)),(hX (0:Int))],ar.cells [(.av (s2.flatMap JK) s2.length Lf),(hX lo),(hX hi)]] Q:=by
 unfold QZ;refine wp_loop bZ ?_;refine .intro (fun m T H=>∃ (s1:Int) (s2:qk) (Lf:hB),(Lf=hB.full∨Lf=(.own 2))∧T=qh 36 [(2,(qF x .shared)),(6,(.ptr 0 0)),(7,(.ptr 1 0)),(8,(hX s1))]∧H=[ar.cells [(.av [] 0 .full),(hX (0:Int)),(hX (0:Int))],ar.cells [(.av (s2.flatMap JK) s2.length Lf),(hX lo),(hX hi)]]∧O3 x qf m s1 s2=some v) ql ⟨s1,s2,_,RW,rfl,rfl,h⟩ ?_;clear h bZ;rintro m T H ⟨s1,s2,Lf,RW,rfl,rfl,h⟩;cases m
 ·exact r3 h
 rename_i m;rw [O3.eq_2] at h;rcases RW with rfl | rfl
 ·conv=>whnf
  refine bs h (fun gJ h=>?_) fun gJ h=>?_
  ·rw [gJ];(conv=>whnf);refine qN h id fun gK h=>?_;rw [rh hX x s1 gK];(conv=>whnf);refine qN h id fun qu h=>?_;rw [rh hX x (w (s1+(1:Int))) qu];(conv=>whnf);obtain ⟨qH,h⟩:=rZ h;refine ⟨by first | rfl | (simp;done) | exact IE JK _ Q6 _,by have:=qH;omega,by decide,qH,by first | rfl | (simp;done) | exact IE JK _ Q6 _,?_⟩
   erw [Rs JK s2 ((ix x s1),(ix x (w (s1+(1:Int)))))];(conv=>whnf);exact ⟨m,sC m,(w (s1+(2:Int))),(s2++[((ix x s1),(ix x (w (s1+(1:Int)))))]),_,(.inr rfl),rfl,rfl,h⟩
  ·rw [gJ];(conv=>whnf);exact rm _ _ h ⟨rfl,rfl⟩
 ·conv=>whnf
  refine bs h (fun gJ h=>?_) fun gJ h=>?_
  ·rw [gJ];(conv=>whnf);refine qN h id fun gK h=>?_;rw [rh hX x s1 gK];(conv=>whnf);refine qN h id fun qu h=>?_;rw [rh hX x (w (s1+(1:Int))) qu];(conv=>whnf);obtain ⟨qH,h⟩:=rZ h;refine ⟨by first | rfl | (simp;done) | exact IE JK _ Q6 _,by have:=qH;omega,rfl,qH,?_⟩
   erw [Rs JK s2 ((ix x s1),(ix x (w (s1+(1:Int)))))];(conv=>whnf);exact ⟨m,sC m,(w (s1+(2:Int))),(s2++[((ix x s1),(ix x (w (s1+(1:Int)))))]),_,(.inr rfl),rfl,rfl,h⟩
  ·rw [gJ];(conv=>whnf);exact ac1 _ _ h ⟨rfl,rfl⟩
theorem TG {lo:Int} {hi:Int} {x:qa} {v:(qk×(Int×Int))} (h:O2 lo hi x=some v):qy 54 [(hX lo),(hX hi),(.av (x.map hX) x.length .shared)] (.agg [(.av (v.1.flatMap p') v.1.length .shared),(hX v.2.1),(hX v.2.2)]):=by
 refine qQ eD aeR rfl (Ih (p6 (HF (fun _=>(p6 rfl (p6 rfl rfl))) _ _ _) (p6 rfl (p6 rfl rfl)))) fun Q bo=>?_;have jG:qL [.cell 6 (.str 3)] Q (fun v=>(.agg [(q6 v.1 .shared),(hX v.2.1),(hX v.2.2)])) v:=fun T H bD=>bo _ T H bD;unfold O2 at h;unfold aan;obtain ⟨HN,qI⟩:∃ c,QZ=c:=⟨_,rfl⟩;rw [qI];conv=>whnf
 subst qI;refine ait ?_ ?_ (.inl rfl) (by exact rfl) h
 ·intro yq qe h qA;obtain ⟨rn,rfl⟩:=qA.ex;conv=>whnf
  exact p_ h jG rfl rfl
 ·intro yq qe h qA;obtain ⟨rn,rfl⟩:=qA.ex;conv=>whnf
  exact p_ h jG rfl rfl

noncomputable def Z_:gB :=
 p4 [p2 0 [] (.alloc [.av [] 0 .full,.int .i64 0,.int .i64 0])] (p4 [p2 1 [.cv (.int .i64 10),.cv (.int .i64 1),.cv (.int .i64 5),.cv (.int .i64 0),.cv (.int .i64 10),.cv (.int .i64 1)] (.yE 6 1 [.int .i64 0] [0,1,2,3,4,5]),p2 2 [.cv (.func 54 [] []),.cv (.int .i64 0),.cv (.int .i64 4),.m_ 1] (.call 3),⟨none,[.m_ 0,.jm 2],none,none,.st 3⟩] .ret)
theorem aeC:qt Try.prog Uj 29=some (Z_,3,[.cell 0 (.str 3)]):=by kernel_rfl
def OU  : Option (qk×(Int×Int)) :=
 (O2 (0:Int) (4:Int) [(10:Int),(1:Int),(5:Int),(0:Int),(10:Int),(1:Int)]).bind fun aS =>
 some aS
theorem Zq  {v:(qk×(Int×Int))} (h:OU  = some v):qy 29 [] (.agg [(.av (v.1.flatMap p') v.1.length .shared),(hX v.2.1),(hX v.2.2)]):=by
 refine qQ eD aeC rfl (Ih (p6 (HF (fun _=>(p6 rfl (p6 rfl rfl))) _ _ _) (p6 rfl (p6 rfl rfl)))) fun Q bo=>?_;have jG:qL [.cell 0 (.str 3)] Q (fun v=>(.agg [(q6 v.1 .shared),(hX v.2.1),(hX v.2.2)])) v:=fun T H bD=>bo _ T H bD;unfold OU at h;unfold Z_;conv=>whnf
 obtain ⟨aS,gJ,h⟩:=p9 h;refine ⟨(p6 rfl (p6 rfl (p6 rfl rfl))),_,TG gJ,?_⟩;conv=>whnf
 exact p_ h jG rfl rfl

noncomputable def Z':gB :=
 p4 [p2 0 [] (.alloc [.av [] 0 .full,.int .i64 0,.int .i64 0])] (p4 [p2 1 [.cv (.int .i64 3),.cv (.int .i64 0),.cv (.int .i64 5),.cv (.int .i64 0),.cv (.int .i64 8),.cv (.int .i64 0)] (.yE 6 1 [.int .i64 0] [0,1,2,3,4,5]),p2 2 [.cv (.func 54 [] []),.cv (.int .i64 0),.cv (.int .i64 0),.m_ 1] (.call 3),⟨none,[.m_ 0,.jm 2],none,none,.st 3⟩] .ret)
theorem aeD:qt Try.prog Ul 30=some (Z',3,[.cell 0 (.str 3)]):=by kernel_rfl
def OV  : Option (qk×(Int×Int)) :=
 (O2 (0:Int) (0:Int) [(3:Int),(0:Int),(5:Int),(0:Int),(8:Int),(0:Int)]).bind fun aS =>
 some aS
theorem Zs  {v:(qk×(Int×Int))} (h:OV  = some v):qy 30 [] (.agg [(.av (v.1.flatMap p') v.1.length .shared),(hX v.2.1),(hX v.2.2)]):=by
 refine qQ eD aeD rfl (Ih (p6 (HF (fun _=>(p6 rfl (p6 rfl rfl))) _ _ _) (p6 rfl (p6 rfl rfl)))) fun Q bo=>?_;have jG:qL [.cell 0 (.str 3)] Q (fun v=>(.agg [(q6 v.1 .shared),(hX v.2.1),(hX v.2.2)])) v:=fun T H bD=>bo _ T H bD;unfold OV at h;unfold Z';conv=>whnf
 obtain ⟨aS,gJ,h⟩:=p9 h;refine ⟨(p6 rfl (p6 rfl (p6 rfl rfl))),_,TG gJ,?_⟩;conv=>whnf
 exact p_ h jG rfl rfl

noncomputable def aaa:gB :=
 p4 [p2 0 [] (.alloc [.av [] 0 .full,.int .i64 0,.int .i64 0])] (p4 [p2 1 [.cv (.int .i64 4),.cv (.int .i64 0),.cv (.int .i64 6),.cv (.int .i64 0),.cv (.int .i64 1),.cv (.int .i64 0),.cv (.int .i64 6),.cv (.int .i64 0),.cv (.int .i64 4),.cv (.int .i64 0)] (.yE 10 1 [.int .i64 0] [0,1,2,3,4,5,6,7,8,9]),p2 2 [.cv (.func 54 [] []),.cv (.int .i64 0),.cv (.int .i64 9),.m_ 1] (.call 3),⟨none,[.m_ 0,.jm 2],none,none,.st 3⟩] .ret)
theorem aeE:qt Try.prog Um 31=some (aaa,3,[.cell 0 (.str 3)]):=by kernel_rfl
def OW  : Option (qk×(Int×Int)) :=
 (O2 (0:Int) (9:Int) [(4:Int),(0:Int),(6:Int),(0:Int),(1:Int),(0:Int),(6:Int),(0:Int),(4:Int),(0:Int)]).bind fun aS =>
 some aS
theorem Zu  {v:(qk×(Int×Int))} (h:OW  = some v):qy 31 [] (.agg [(.av (v.1.flatMap p') v.1.length .shared),(hX v.2.1),(hX v.2.2)]):=by
 refine qQ eD aeE rfl (Ih (p6 (HF (fun _=>(p6 rfl (p6 rfl rfl))) _ _ _) (p6 rfl (p6 rfl rfl)))) fun Q bo=>?_;have jG:qL [.cell 0 (.str 3)] Q (fun v=>(.agg [(q6 v.1 .shared),(hX v.2.1),(hX v.2.2)])) v:=fun T H bD=>bo _ T H bD;unfold OW at h;unfold aaa;conv=>whnf
 obtain ⟨aS,gJ,h⟩:=p9 h;refine ⟨(p6 rfl (p6 rfl (p6 rfl rfl))),_,TG gJ,?_⟩;conv=>whnf
 exact p_ h jG rfl rfl

noncomputable def aab:gB :=
 p4 [p2 2 [.cv (.av [] 0 .full)] (.nil 1)] (p4 [p3 3 0,p3 2 3] .ret)
theorem aeF:qt Try.prog Ui 28=some (aab,4,[.tmp 2]):=by kernel_rfl
def Hl (x:qa):Option qa :=
 some x
theorem HH {x:qa} {v:qa} (h:Hl x=some v):qy 28 [(.av (x.map hX) x.length .shared)] (.av (v.map hX) v.length .shared):=by
 refine qQ eD aeF rfl (rT (fun _=>rfl) _ _ _) fun Q bo=>?_;have jG:qL [.tmp 2] Q (fun v=>(qF v .shared)) v:=fun T H bD=>bo _ T H bD;unfold Hl at h;unfold aab;conv=>whnf
 exact p_ h jG rfl rfl

noncomputable def aac:gB :=
 p4 [p2 2 [.cv (.av [] 0 .full)] (.nil 3)] (p4 [p3 3 0,p3 2 3] .ret)
theorem aeG:qt Try.prog Up 34=some (aac,4,[.tmp 2]):=by kernel_rfl
def LI (x:(List (Int×(Int×Int)))):Option (List (Int×(Int×Int))) :=
 some x
theorem Qw {x:(List (Int×(Int×Int)))} {v:(List (Int×(Int×Int)))} (h:LI x=some v):qy 34 [(.av (x.flatMap qm) x.length .shared)] (.av (v.flatMap qm) v.length .shared):=by
 refine qQ eD aeG rfl (HF (fun _=>(p6 rfl (p6 rfl (p6 rfl rfl)))) _ _ _) fun Q bo=>?_;have jG:qL [.tmp 2] Q (fun v=>(.av (v.flatMap qm) v.length .shared)) v:=fun T H bD=>bo _ T H bD;unfold LI at h;unfold aac;conv=>whnf
 exact p_ h jG rfl rfl

noncomputable def aad:gB :=
 p4 [p2 6 [] (.alloc [.int .i64 0,.int .i64 0,.int .i64 0])] (p4 [p3 7 0,p3 8 1,p3 9 2,p2 10 [.Bv 8,.Bv 9] (.build [.int .i64 0,.int .i64 0] [(0,1),(1,1)]),p2 11 [.Bv 7,.Bv 10] (.build [.int .i64 0,.int .i64 0,.int .i64 0] [(0,1),(1,2)]),⟨none,[.m_ 6,.jm 11],none,none,.st 3⟩] .ret)
theorem aeH:qt Try.prog Uq 35=some (aad,12,[.cell 6 (.str 3)]):=by kernel_rfl
def LJ (P_ pull more:Int):Option (Int×(Int×Int)) :=
 some (P_,(pull,more))
theorem Qx {P_:Int} {pull:Int} {more:Int} {v:(Int×(Int×Int))} (h:LJ P_ pull more=some v):qy 35 [(hX P_),(hX pull),(hX more)] (.agg [(hX v.1),(hX v.2.1),(hX v.2.2)]):=by
 refine qQ eD aeH rfl (Ih (p6 rfl (p6 rfl (p6 rfl rfl)))) fun Q bo=>?_;have jG:qL [.cell 6 (.str 3)] Q (fun v=>(.agg [(hX v.1),(hX v.2.1),(hX v.2.2)])) v:=fun T H bD=>bo _ T H bD;unfold LJ at h;unfold aad;conv=>whnf
 exact p_ h jG rfl rfl
end Go.Proofs.Ytkoioidpbbbaiaa.Ab


namespace Go.Proofs.Ytkoioidpbbbaiaa.Ab
open Go
set_option maxRecDepth 100000
set_option maxHeartbeats 4000000
noncomputable def ZT:gB :=
 p4 [p2 0 [.cv (.bool false)] .mR] (p4 [p2 34 [.cv (.func 29 [] [])] (.call 3),p2 35 [.cv (.func 30 [] [])] (.call 3),p2 36 [.cv (.func 31 [] [])] (.call 3),p2 1 [] (.alloc [.av [] 0 .full,.int .i64 0,.int .i64 0]),p2 2 [] (.alloc [.av [] 0 .full,.int .i64 0,.int .i64 0]),p2 3 [] (.alloc [.av [] 0 .full,.int .i64 0,.int .i64 0]),⟨none,[.m_ 1,.jm 34],none,none,.st 3⟩,⟨none,[.m_ 2,.jm 35],none,none,.st 3⟩,⟨none,[.m_ 3,.jm 36],none,none,.st 3⟩] (.seq (q4 [p2 38 [.m_ 3] (.zH (.str 3)),p2 39 [.cv (.int .i64 1),.cv (.int .i64 0),.cv (.int .i64 2),.cv (.int .i64 3),.cv (.int .i64 4)] (.yE 5 1 [.int .i64 0] [0,1,2,3,4]),p2 40 [.cv (.func 28 [] []),.m_ 39] (.call 3),p2 41 [.cv (.func 12 [] []),.m_ 38,.m_ 40,.cv (.int .i64 0)] (.call 3),p3 37 41,qn 42 37 0,qn 43 37 1,qn 44 37 2,p3 4 42,p3 5 43,p3 6 44]) (.seq (q4 [p2 46 [.m_ 1] (.zH (.str 3)),p2 47 [.cv (.int .i64 1),.cv (.int .i64 0),.cv (.int .i64 2)] (.yE 3 1 [.int .i64 0] [0,1,2]),p2 48 [.cv (.func 28 [] []),.m_ 47] (.call 3),p2 49 [.cv (.func 12 [] []),.m_ 46,.m_ 48,.cv (.int .i64 5)] (.call 3),p3 45 49,qn 50 45 0,qn 51 45 1,qn 52 45 2,p3 7 50,p3 8 51,p3 9 52]) (.seq (q4 [p2 54 [.m_ 1] (.zH (.str 3)),p2 55 [.cv (.int .i64 1),.cv (.int .i64 0),.cv (.int .i64 2)] (.yE 3 1 [.int .i64 0] [0,1,2]),p2 56 [.cv (.func 28 [] []),.m_ 55] (.call 3),p2 57 [.cv (.func 14 [] []),.m_ 54,.m_ 56] (.call 3),p3 53 57,qn 58 53 0,qn 59 53 1,p3 10 58,p3 11 59]) (.seq (q4 [p2 61 [.Bv 1] (.zH (.str 3)),p2 62 [.cv (.int .i64 0),.cv (.int .i64 1),.cv (.int .i64 1)] (.yE 3 1 [.int .i64 0] [0,1,2]),p2 63 [.cv (.func 28 [] []),.m_ 62] (.call 3),p2 64 [.cv (.func 14 [] []),.m_ 61,.m_ 63] (.call 3),p3 60 64,qn 65 60 0,qn 66 60 1,p3 12 65,p3 13 66]) (p4 [p2 68 [.m_ 2] (.zH (.str 3)),p2 69 [.cv (.func 32 [] []),.m_ 68] (.call 3),p3 67 69,qn 70 67 0,p2 71 [.Bv 67] (.ext 1),p3 14 70,p3 15 71] (p4 [p2 73 [.m_ 2] (.zH (.str 3)),p2 74 [.cv (.func 33 [] []),.m_ 73] (.call 3),p3 72 74,qn 75 72 0,p2 76 [.Bv 72] (.ext 1),p3 16 75,p3 17 76] (p4 [p2 78 [.m_ 3] (.zH (.str 3)),p2 79 [.cv (.func 20 [] []),.m_ 78] (.call 3),p3 77 79,qn 80 77 0,p2 81 [.Bv 77] (.ext 1),p3 18 80,p3 19 81] (.seq (q4 [p2 83 [.m_ 2] (.zH (.str 3)),p2 84 [.cv (.int .i64 0),.cv (.int .i64 2),.cv (.int .i64 1)] (.yE 3 1 [.int .i64 0] [0,1,2]),p2 85 [.cv (.func 28 [] []),.m_ 84] (.call 3),p2 86 [.cv (.func 35 [] []),.cv (.int .i64 0),.cv (.int .i64 5),.cv (.int .i64 0)] (.call 3),p2 87 [.Bv 86] (.yE 1 3 [.int .i64 0,.int .i64 0,.int .i64 0] [0]),p2 88 [.cv (.func 34 [] []),.m_ 87] (.call 3),p2 89 [.cv (.func 23 [] []),.m_ 83,.m_ 85,.m_ 88] (.call 3),p3 82 89,qn 90 82 0,qn 91 82 1,p3 20 90,p3 21 91]) (.seq (q4 [p2 93 [.m_ 2] (.zH (.str 3)),p2 94 [.cv (.int .i64 0),.cv (.int .i64 2),.cv (.int .i64 1)] (.yE 3 1 [.int .i64 0] [0,1,2]),p2 95 [.cv (.func 28 [] []),.m_ 94] (.call 3),p2 96 [.cv (.func 35 [] []),.cv (.int .i64 2),.cv (.int .i64 1),.cv (.int .i64 0)] (.call 3),p2 97 [.Bv 96] (.yE 1 3 [.int .i64 0,.int .i64 0,.int .i64 0] [0]),p2 98 [.cv (.func 34 [] []),.m_ 97] (.call 3),p2 99 [.cv (.func 23 [] []),.m_ 93,.m_ 95,.m_ 98] (.call 3),p3 92 99,qn 100 92 0,qn 101 92 1,p3 22 100,p3 23 101]) (.seq (q4 [p2 103 [.m_ 2] (.zH (.str 3)),p2 104 [.cv (.int .i64 0),.cv (.int .i64 2),.cv (.int .i64 1)] (.yE 3 1 [.int .i64 0] [0,1,2]),p2 105 [.cv (.func 28 [] []),.m_ 104] (.call 3),p2 106 [.cv (.func 35 [] []),.cv (.int .i64 0),.cv (.int .i64 101),.cv (.int .i64 0)] (.call 3),p2 107 [.Bv 106] (.yE 1 3 [.int .i64 0,.int .i64 0,.int .i64 0] [0]),p2 108 [.cv (.func 34 [] []),.m_ 107] (.call 3),p2 109 [.cv (.func 23 [] []),.m_ 103,.m_ 105,.m_ 108] (.call 3),p3 102 109,qn 110 102 0,qn 111 102 1,p3 24 110,p3 25 111]) (.seq (q4 [p2 113 [.Bv 3] (.zH (.str 3)),p2 114 [.cv (.int .i64 1),.cv (.int .i64 0),.cv (.int .i64 2),.cv (.int .i64 3),.cv (.int .i64 4)] (.yE 5 1 [.int .i64 0] [0,1,2,3,4]),p2 115 [.cv (.func 28 [] []),.m_ 114] (.call 3),p2 116 [.cv (.func 21 [] []),.m_ 113,.m_ 115] (.call 3),p3 112 116,qn 117 112 0,qn 118 112 1,p3 26 117,p3 27 118]) (.seq (q4 [p2 120 [.m_ 2] (.zH (.str 3)),p2 121 [.cv (.int .i64 0),.cv (.int .i64 2),.cv (.int .i64 1)] (.yE 3 1 [.int .i64 0] [0,1,2]),p2 122 [.cv (.func 28 [] []),.m_ 121] (.call 3),p2 123 [.cv (.func 22 [] []),.m_ 120,.m_ 122] (.call 3),p3 119 123,qn 124 119 0,qn 125 119 1,p3 28 124,p3 29 125]) (p4 [p2 127 [.m_ 2] (.zH (.str 3)),p2 128 [.cv (.func 25 [] []),.m_ 127] (.call 3),p3 126 128,qn 129 126 0,p2 130 [.Bv 126] (.ext 1),p3 30 129,p3 31 130] (.seq (p4 [p3 131 6,qw 132 131 0 .neq,p3 133 132,ch 134 [.jm 9] 133 false .mR,ch 135 [.Bv 134,.cv (.int .i64 3)] 133 false (.bin .neq),p2 136 [.Bv 133,.cv (.bool true),.Bv 135] .pick,p3 137 136,ch 138 [.jm 11] 137 false .mR,ch 139 [.Bv 138,.cv (.int .i64 0)] 137 false (.bin .neq),p2 140 [.Bv 137,.cv (.bool true),.Bv 139] .pick,p3 141 140,ch 142 [.jm 13] 141 false .mR,ch 143 [.Bv 142,.cv (.int .i64 16)] 141 false (.bin .neq),p2 144 [.Bv 141,.cv (.bool true),.Bv 143] .pick,p3 145 144,ch 146 [.jm 15] 145 false .mR,ch 147 [.Bv 146,.cv (.int .i64 0)] 145 false (.bin .neq),p2 148 [.Bv 145,.cv (.bool true),.Bv 147] .pick,p3 149 148,ch 150 [.jm 17] 149 false .mR,ch 151 [.Bv 150,.cv (.int .i64 0)] 149 false (.bin .neq),p2 152 [.Bv 149,.cv (.bool true),.Bv 151] .pick,p3 153 152,ch 154 [.jm 19] 153 false .mR,ch 155 [.Bv 154,.cv (.int .i64 0)] 153 false (.bin .neq),p2 156 [.Bv 153,.cv (.bool true),.Bv 155] .pick,p3 157 156,ch 158 [.jm 21] 157 false .mR,ch 159 [.Bv 158,.cv (.int .i64 0)] 157 false (.bin .neq),p2 160 [.Bv 157,.cv (.bool true),.Bv 159] .pick,p3 161 160,ch 162 [.jm 23] 161 false .mR,ch 163 [.Bv 162,.cv (.int .i64 23)] 161 false (.bin .neq),p2 164 [.Bv 161,.cv (.bool true),.Bv 163] .pick,p3 165 164,ch 166 [.jm 25] 165 false .mR,ch 167 [.Bv 166,.cv (.int .i64 3)] 165 false (.bin .neq),p2 168 [.Bv 165,.cv (.bool true),.Bv 167] .pick,p3 169 168,ch 170 [.jm 27] 169 false .mR,ch 171 [.Bv 170,.cv (.int .i64 0)] 169 false (.bin .neq),p2 172 [.Bv 169,.cv (.bool true),.Bv 171] .pick,p3 173 172,ch 174 [.jm 29] 173 false .mR,ch 175 [.Bv 174,.cv (.int .i64 0)] 173 false (.bin .neq),p2 176 [.Bv 173,.cv (.bool true),.Bv 175] .pick,p3 177 176,ch 178 [.jm 31] 177 false .mR,ch 179 [.Bv 178,.cv (.int .i64 0)] 177 false (.bin .neq),p2 180 [.Bv 177,.cv (.bool true),.Bv 179] .pick] (.cond (.m_ 180) (p4 [p2 0 [.cv (.bool false)] .mR] .ret) .skip)) (.seq (q4 [p2 182 [.Bv 2] (.zH (.str 3)),p2 183 [.cv (.int .i64 0),.cv (.int .i64 2),.cv (.int .i64 1)] (.yE 3 1 [.int .i64 0] [0,1,2]),p2 184 [.cv (.func 28 [] []),.m_ 183] (.call 3),p3 185 28,p2 186 [.cv (.func 24 [] []),.m_ 182,.m_ 184,.m_ 185] (.call 3),p3 181 186,qn 187 181 0,qn 188 181 1,p3 32 187,p3 33 188]) (p4 [p3 189 4,qw 190 189 (-4) .eql,p3 191 190,ch 192 [.jm 5] 191 true .mR,ch 193 [.Bv 192,.cv (.int .i64 2)] 191 true (.bin .eql),p2 194 [.Bv 191,.Bv 193,.cv (.bool false)] .pick,p3 195 194,ch 196 [.jm 10] 195 true .mR,ch 197 [.Bv 196,.cv (.int .i64 9)] 195 true (.bin .eql),p2 198 [.Bv 195,.Bv 197,.cv (.bool false)] .pick,p3 199 198,ch 200 [.jm 14] 199 true .mR,ch 201 [.Bv 200,.cv (.int .i64 2)] 199 true (.bin .eql),p2 202 [.Bv 199,.Bv 201,.cv (.bool false)] .pick,p3 203 202,ch 204 [.jm 16] 203 true .mR,⟨some 205,[.cv (.int .i64 0),.cv (.int .i64 2),.cv (.int .i64 1)],some (203,true),none,.yE 3 1 [.int .i64 0] [0,1,2]⟩,⟨some 206,[.cv (.func 28 [] []),.m_ 205],some (203,true),none,.call 3⟩,⟨some 207,[.cv (.func 27 [] []),.m_ 204,.m_ 206],some (203,true),none,.call 3⟩,p2 208 [.Bv 203,.Bv 207,.cv (.bool false)] .pick,p3 209 208,ch 210 [.jm 18] 209 true .mR,ch 211 [.Bv 210,.cv (.int .i64 8)] 209 true (.bin .eql),p2 212 [.Bv 209,.Bv 211,.cv (.bool false)] .pick,p3 213 212,ch 214 [.jm 20] 213 true .mR,ch 215 [.Bv 214,.cv (.int .i64 1)] 213 true (.bin .eql),p2 216 [.Bv 213,.Bv 215,.cv (.bool false)] .pick,p3 217 216,ch 218 [.jm 26] 217 true .mR,ch 219 [.Bv 218,.cv (.int .i64 2)] 217 true (.bin .eql),p2 220 [.Bv 217,.Bv 219,.cv (.bool false)] .pick,p3 221 220,ch 222 [.jm 33] 221 true .mR,ch 223 [.Bv 222,.cv (.int .i64 0)] 221 true (.bin .eql),p2 224 [.Bv 221,.Bv 223,.cv (.bool false)] .pick,p3 225 224,ch 226 [.jm 32] 225 true .mR,ch 227 [.Bv 226,.cv (.int .i64 1)] 225 true (.bin .eql),p2 228 [.Bv 225,.Bv 227,.cv (.bool false)] .pick,p3 229 228,ch 230 [.jm 30] 229 true .mR,⟨some 231,[.cv (.int .i64 0),.cv (.int .i64 1),.cv (.int .i64 2)],some (229,true),none,.yE 3 1 [.int .i64 0] [0,1,2]⟩,⟨some 232,[.cv (.func 28 [] []),.m_ 231],some (229,true),none,.call 3⟩,⟨some 233,[.cv (.func 27 [] []),.m_ 230,.m_ 232],some (229,true),none,.call 3⟩,p2 234 [.Bv 229,.Bv 233,.cv (.bool false)] .pick,p3 0 234] .ret)))))))))))))))))
theorem ael:qt Try.prog Ua 11=some (ZT,235,[.tmp 0]):=by kernel_rfl
def rI  : Option Bool :=
 (OU).bind fun aS =>
 (OV).bind fun bh =>
 (OW).bind fun eH =>
 (Hl [(1:Int),(0:Int),(2:Int),(3:Int),(4:Int)]).bind fun qB =>
 (Iy eH qB (0:Int)).bind fun r5 =>
 (Hl [(1:Int),(0:Int),(2:Int)]).bind fun r6 =>
 (Iy aS r6 (5:Int)).bind fun r7 =>
 (Hl [(1:Int),(0:Int),(2:Int)]).bind fun HG =>
 (H_ aS HG).bind fun Hr =>
 (Hl [(0:Int),(1:Int),(1:Int)]).bind fun Hj =>
 (H_ aS Hj).bind fun I0 =>
 (Lw bh).bind fun Iu =>
 (K2 bh).bind fun Jc =>
 (JI eH).bind fun Jr =>
 (Hl [(0:Int),(2:Int),(1:Int)]).bind fun Js =>
 (LJ (0:Int) (5:Int) (0:Int)).bind fun Lp =>
 (LI [Lp]).bind fun Lq =>
 (Ix bh Js Lq).bind fun Kp =>
 (Hl [(0:Int),(2:Int),(1:Int)]).bind fun KX =>
 (LJ (2:Int) (1:Int) (0:Int)).bind fun Lr =>
 (LI [Lr]).bind fun Oh =>
 (Ix bh KX Oh).bind fun Oi =>
 (Hl [(0:Int),(2:Int),(1:Int)]).bind fun Nd =>
 (LJ (0:Int) (101:Int) (0:Int)).bind fun Oj =>
 (LI [Oj]).bind fun Nf =>
 (Ix bh Nd Nf).bind fun Ol =>
 (Hl [(1:Int),(0:Int),(2:Int),(3:Int),(4:Int)]).bind fun Ng =>
 (Ii eH Ng).bind fun Nh =>
 (Hl [(0:Int),(2:Int),(1:Int)]).bind fun Om =>
 (Kq bh Om).bind fun Ss =>
 (Mm bh).bind fun St =>
 if (decide (r5.2.2≠(0:Int)))=true then
  some false
 else
  if (decide (r7.2.2≠(3:Int)))=true then
   some false
  else
   if (decide (Hr.2≠(0:Int)))=true then
    some false
   else
    if (decide (I0.2≠(16:Int)))=true then
     some false
    else
     if (decide (Iu.2≠(0:Int)))=true then
      some false
     else
      if (decide (Jc.2≠(0:Int)))=true then
       some false
      else
       if (decide (Jr.2≠(0:Int)))=true then
        some false
       else
        if (decide (Kp.2≠(0:Int)))=true then
         some false
        else
         if (decide (Oi.2≠(23:Int)))=true then
          some false
         else
          if (decide (Ol.2≠(3:Int)))=true then
           some false
          else
           if (decide (Nh.2≠(0:Int)))=true then
            some false
           else
            if (decide (Ss.2≠(0:Int)))=true then
             some false
            else
             if (decide (St.2≠(0:Int)))=true then
              some false
             else
              (Hl [(0:Int),(2:Int),(1:Int)]).bind fun Xq =>
              (Lz bh Xq Ss.1).bind fun Su =>
              if (decide (r5.1=(-4:Int)))=true then
               if (decide (r5.2.1=(2:Int)))=true then
                if (decide (Hr.1=(9:Int)))=true then
                 if (decide (Iu.1=(2:Int)))=true then
                  (Hl [(0:Int),(2:Int),(1:Int)]).bind fun Xr =>
                  (Ml Jc.1 Xr).bind fun Sv =>
                  if Sv=true then
                   if (decide (Jr.1=(8:Int)))=true then
                    if (decide (Kp.1=(1:Int)))=true then
                     if (decide (Nh.1=(2:Int)))=true then
                      if (decide (Su.2=(0:Int)))=true then
                       if (decide (Su.1=(1:Int)))=true then
                        (Hl [(0:Int),(1:Int),(2:Int)]).bind fun Xs =>
                        (Ml St.1 Xs).bind fun Xt =>
                        some Xt
                       else
                        some false
                      else
                       some false
                     else
                      some false
                    else
                     some false
                   else
                    some false
                  else
                   some false
                 else
                  some false
                else
                 some false
               else
                some false
              else
               some false
theorem r9  {v:Bool} (h:rI  = some v):qy 11 [] (B v):=by
 refine qQ eD ael rfl rfl fun Q bo=>?_;have jG:qL [.tmp 0] Q (fun v=>(B v)) v:=fun T H bD=>bo _ T H bD;unfold rI at h;unfold ZT;conv=>whnf
 obtain ⟨aS,gJ,h⟩:=p9 h;refine ⟨rfl,_,Zq gJ,?_⟩;conv=>whnf
 obtain ⟨bh,gK,h⟩:=p9 h;refine ⟨rfl,_,Zs gK,?_⟩;conv=>whnf
 obtain ⟨eH,qu,h⟩:=p9 h;refine ⟨rfl,_,Zu qu,?_⟩;conv=>whnf
 obtain ⟨qB,qH,h⟩:=p9 h;refine ⟨(p6 rfl rfl),_,HH qH,rD,?_⟩;conv=>whnf
 obtain ⟨r5,qU,h⟩:=p9 h;refine ⟨qb.pl,_,Mq qU,rY rfl,?_⟩;conv=>whnf
 obtain ⟨r6,ru,h⟩:=p9 h;refine ⟨(p6 rfl rfl),_,HH ru,rD,?_⟩;conv=>whnf
 obtain ⟨r7,qS,h⟩:=p9 h;refine ⟨qb.pl,_,Mq qS,rY rfl,?_⟩;conv=>whnf
 obtain ⟨HG,rH,h⟩:=p9 h;refine ⟨(p6 rfl rfl),_,HH rH,rD,?_⟩;conv=>whnf
 obtain ⟨Hr,ra,h⟩:=p9 h;refine ⟨qb.pl,_,K4 ra,rY rfl,?_⟩;conv=>whnf
 obtain ⟨Hj,rq,h⟩:=p9 h;refine ⟨(p6 rfl rfl),_,HH rq,rD,?_⟩;conv=>whnf
 obtain ⟨I0,r8,h⟩:=p9 h;refine ⟨qb.pl,_,K4 r8,rY rfl,?_⟩;conv=>whnf
 obtain ⟨Iu,sa,h⟩:=p9 h;refine ⟨qb.pl,_,Zj sa,?_⟩;conv=>whnf
 obtain ⟨Jc,Hp,h⟩:=p9 h;refine ⟨qb.pl,_,Ts Hp,?_⟩;conv=>whnf
 obtain ⟨Jr,Ie,h⟩:=p9 h;refine ⟨qb.pl,_,OO Ie,?_⟩;conv=>whnf
 obtain ⟨Js,Hq,h⟩:=p9 h;refine ⟨(p6 rfl rfl),_,HH Hq,rD,?_⟩;conv=>whnf
 obtain ⟨Lp,H4,h⟩:=p9 h;refine ⟨(p6 rfl (p6 rfl (p6 rfl rfl))),_,Qx H4,rY rfl,?_⟩;conv=>whnf
 obtain ⟨Lq,Io,h⟩:=p9 h;refine ⟨(p6 rfl rfl),_,Qw Io,rY rfl,?_⟩;conv=>whnf
 obtain ⟨Kp,IK,h⟩:=p9 h;refine ⟨qb.pl,_,Ly IK,rY rfl,?_⟩;conv=>whnf
 obtain ⟨KX,H5,h⟩:=p9 h;refine ⟨(p6 rfl rfl),_,HH H5,rD,?_⟩;conv=>whnf
 obtain ⟨Lr,H6,h⟩:=p9 h;refine ⟨(p6 rfl (p6 rfl (p6 rfl rfl))),_,Qx H6,rY rfl,?_⟩;conv=>whnf
 obtain ⟨Oh,Ip,h⟩:=p9 h;refine ⟨(p6 rfl rfl),_,Qw Ip,rY rfl,?_⟩;conv=>whnf
 obtain ⟨Oi,IL,h⟩:=p9 h;refine ⟨qb.pl,_,Ly IL,rY rfl,?_⟩;conv=>whnf
 obtain ⟨Nd,IM,h⟩:=p9 h;refine ⟨(p6 rfl rfl),_,HH IM,rD,?_⟩;conv=>whnf
 obtain ⟨Oj,JA,h⟩:=p9 h;refine ⟨(p6 rfl (p6 rfl (p6 rfl rfl))),_,Qx JA,rY rfl,?_⟩;conv=>whnf
 obtain ⟨Nf,IP,h⟩:=p9 h;refine ⟨(p6 rfl rfl),_,Qw IP,rY rfl,?_⟩;conv=>whnf
 obtain ⟨Ol,IQ,h⟩:=p9 h;refine ⟨qb.pl,_,Ly IQ,rY rfl,?_⟩;conv=>whnf
 obtain ⟨Ng,Iq,h⟩:=p9 h;refine ⟨(p6 rfl rfl),_,HH Iq,rD,?_⟩;conv=>whnf
 obtain ⟨Nh,IU,h⟩:=p9 h;refine ⟨qb.pl,_,LD IU,rY rfl,?_⟩;conv=>whnf
 obtain ⟨Om,JS,h⟩:=p9 h;refine ⟨(p6 rfl rfl),_,HH JS,rD,?_⟩;conv=>whnf
 obtain ⟨Ss,Jk,h⟩:=p9 h;refine ⟨qb.pl,_,Qr Jk,rY rfl,?_⟩;conv=>whnf
 obtain ⟨St,JT,h⟩:=p9 h;refine ⟨qb.pl,_,Zm JT,?_⟩;conv=>whnf
 refine bs h (fun Jl h=>?_) fun Jl h=>?_
 ·rw [Jl];conv=>whnf
  exact p_ h jG rfl rfl
 ·rw [Jl];conv=>whnf
  refine bs h (fun IV h=>?_) fun IV h=>?_
  ·rw [IV];(conv=>whnf);exact p_ h jG rfl rfl
  ·rw [IV];(conv=>whnf);refine bs h (fun JU h=>?_) fun JU h=>?_
   ·rw [JU];(conv=>whnf);exact p_ h jG rfl rfl
   ·rw [JU];(conv=>whnf);refine bs h (fun JV h=>?_) fun JV h=>?_
    ·rw [JV];(conv=>whnf);exact p_ h jG rfl rfl
    ·rw [JV];(conv=>whnf);refine bs h (fun KA h=>?_) fun KA h=>?_
     ·rw [KA];(conv=>whnf);exact p_ h jG rfl rfl
     ·rw [KA];(conv=>whnf);refine bs h (fun KB h=>?_) fun KB h=>?_
      ·rw [KB];(conv=>whnf);exact p_ h jG rfl rfl
      ·rw [KB];(conv=>whnf);refine bs h (fun JW h=>?_) fun JW h=>?_
       ·rw [JW];(conv=>whnf);exact p_ h jG rfl rfl
       ·rw [JW];(conv=>whnf);refine bs h (fun KC h=>?_) fun KC h=>?_
        ·rw [KC];(conv=>whnf);exact p_ h jG rfl rfl
        ·rw [KC];(conv=>whnf);refine bs h (fun KD h=>?_) fun KD h=>?_
         ·rw [KD];(conv=>whnf);exact p_ h jG rfl rfl
         ·rw [KD];(conv=>whnf);refine bs h (fun KE h=>?_) fun KE h=>?_
          ·rw [KE];(conv=>whnf);exact p_ h jG rfl rfl
          ·rw [KE];(conv=>whnf);refine bs h (fun KF h=>?_) fun KF h=>?_
           ·rw [KF];(conv=>whnf);exact p_ h jG rfl rfl
           ·rw [KF];(conv=>whnf);refine bs h (fun KG h=>?_) fun KG h=>?_
            ·rw [KG];(conv=>whnf);exact p_ h jG rfl rfl
            ·rw [KG];(conv=>whnf);refine bs h (fun KH h=>?_) fun KH h=>?_
             ·rw [KH];(conv=>whnf);exact p_ h jG rfl rfl
             ·rw [KH];(conv=>whnf);obtain ⟨Xq,KI,h⟩:=p9 h;refine ⟨(p6 rfl rfl),_,HH KI,rD,?_⟩;(conv=>whnf);obtain ⟨Su,L5,h⟩:=p9 h;refine ⟨qb.pl,_,Tv L5,rY rfl,?_⟩;(conv=>whnf);refine bs h (fun KJ h=>?_) fun KJ h=>?_
              ·rw [KJ];(conv=>whnf);refine bs h (fun KK h=>?_) fun KK h=>?_
               ·rw [KK];(conv=>whnf);refine bs h (fun KL h=>?_) fun KL h=>?_
                ·rw [KL];(conv=>whnf);refine bs h (fun KM h=>?_) fun KM h=>?_
                 ·rw [KM];(conv=>whnf);obtain ⟨Xr,N3,h⟩:=p9 h;refine ⟨(p6 rfl rfl),_,HH N3,?_⟩;(conv=>whnf);obtain ⟨Sv,RQ,h⟩:=p9 h;refine ⟨qb.pl,_,Tt RQ,?_⟩;(conv=>whnf);cases Sv
                  ·(conv=>whnf);replace h:=rK rfl h;exact p_ h jG rfl rfl
                  ·(conv=>whnf);replace h:=rJ rfl h;refine bs h (fun L6 h=>?_) fun L6 h=>?_
                   ·rw [L6];(conv=>whnf);refine bs h (fun N4 h=>?_) fun N4 h=>?_
                    ·rw [N4];(conv=>whnf);refine bs h (fun RR h=>?_) fun RR h=>?_
                     ·rw [RR];(conv=>whnf);refine bs h (fun RS h=>?_) fun RS h=>?_
                      ·rw [RS];(conv=>whnf);refine bs h (fun RT h=>?_) fun RT h=>?_
                       ·rw [RT];(conv=>whnf);obtain ⟨Xs,acK,h⟩:=p9 h;refine ⟨(p6 rfl rfl),_,HH acK,?_⟩;(conv=>whnf);obtain ⟨Xt,acL,h⟩:=p9 h;refine ⟨qb.pl,_,Tt acL,?_⟩;(conv=>whnf);exact p_ h jG rfl rfl
                       ·rw [RT];(conv=>whnf);exact p_ h jG rfl rfl
                      ·rw [RS];(conv=>whnf);exact p_ h jG rfl rfl
                     ·rw [RR];(conv=>whnf);exact p_ h jG rfl rfl
                    ·rw [N4];(conv=>whnf);exact p_ h jG rfl rfl
                   ·rw [L6];(conv=>whnf);exact p_ h jG rfl rfl
                 ·rw [KM];(conv=>whnf);exact p_ h jG rfl rfl
                ·rw [KL];(conv=>whnf);exact p_ h jG rfl rfl
               ·rw [KK];(conv=>whnf);exact p_ h jG rfl rfl
              ·rw [KJ];(conv=>whnf);exact p_ h jG rfl rfl
end Go.Proofs.Ytkoioidpbbbaiaa.Ab


namespace Go.Proofs.Ytkoioidpbbbaiaa.Ab
open Go
set_option maxRecDepth 20000
set_option maxHeartbeats 1000000
def JE:qd:=([(10,1),(5,0),(10,1)],(0,4))
def r_:qd:=([(3,0),(5,0),(8,0)],(0,0))
def Lo:qd:=([(4,0),(6,0),(1,0),(6,0),(4,0)],(0,9))
theorem Zp:OU=some JE:=by decide +kernel
theorem Zr:OV=some r_:=by decide +kernel
theorem Zt:OW=some Lo:=by decide +kernel
theorem ahG:Iy Lo [1,0,2,3,4] 0=some (-4,2,0):=by
 rw [Mp (by decide) (by decide)];decide +kernel
theorem ahH:Iy JE [1,0,2] 5=some (0,0,3):=by
 rw [Mp (by decide) (by decide)];decide +kernel
theorem ahE:H_ JE [1,0,2]=some (9,0):=by
 rw [LH (by decide) (by decide)];decide +kernel
theorem ahF:H_ JE [0,1,1]=some (0,16):=by
 rw [LH (by decide) (by decide)];decide +kernel
theorem ahu:Lw r_=some (2,0):=by
 rw [Zi (by decide)];decide +kernel
theorem ahv:K2 r_=some ([0,2,1],0):=by
 rw [Tr (by decide)];decide +kernel
theorem ahw:JI Lo=some (8,0):=by
 rw [OM (by decide)];decide +kernel
theorem ahy:Ix r_ [0,2,1] [(0,(5,0))]=some (1,0):=by
 rw [Lx (by decide) (by decide) (by decide)];decide +kernel
theorem ahz:Ix r_ [0,2,1] [(2,(1,0))]=some (0,23):=by
 rw [Lx (by decide) (by decide) (by decide)];decide +kernel
theorem ahA:Ix r_ [0,2,1] [(0,(101,0))]=some (0,3):=by
 rw [Lx (by decide) (by decide) (by decide)];decide +kernel
theorem Pn {p:qd} {o:List Int} {a i t:Nat} (ab:¬ HA p o a) (ae:i<o.length) (aF:i % 2=a) (ba:t<2121) (bO:Jh p o a i (JF t)):rb p o a=1:=by
 unfold rb;rw [if_neg ab,if_pos ⟨i,ae,aF,t,ba,bO⟩]
theorem MO {p:qd} {o:List Int} {a:Nat} (ab:HA p o a):rb p o a=0:=by
 unfold rb;rw [if_pos ab]
theorem ahB:Ii Lo [1,0,2,3,4]=some (2,0):=by
 unfold Ii;obtain ⟨l,ab,ae⟩:=NA (p:=Lo) (o:=[1,0,2,3,4]) (by decide) (by decide);have rv:rN Lo [1,0,2,3,4]=0:=by decide +kernel
 rw [if_pos rv] at ab;rw [ab,sc,(ae rv).1];rw [Pn (i:=0) (t:=1014) (by decide +kernel) (by decide) (by decide) (by decide) (by decide +kernel),Pn (i:=1) (t:=1016) (by decide +kernel) (by decide) (by decide) (by decide) (by decide +kernel)];rfl
theorem ahC:∃ l,Kq r_ [0,2,1]=some (l,0)∧Lz r_ [0,2,1] l=some (1,0):=by
 obtain ⟨l,ab,ae⟩:=NA (p:=r_) (o:=[0,2,1]) (by decide) (by decide);have rv:rN r_ [0,2,1]=0:=by decide +kernel
 rw [if_pos rv] at ab;obtain ⟨aF,ba,bO⟩:=ae rv;have ao:l.length=1:=by
  rw [aF,Pn (i:=0) (t:=1015) (by decide +kernel) (by decide) (by decide) (by decide) (by decide +kernel),MO (by decide +kernel)]
 refine ⟨l,ab,?_⟩;rw [Tu (by decide) (by decide) (by omega),if_pos rv,if_pos ba,if_neg (by omega),ao];rfl
theorem ahD:Mm r_=some ([0,1,2],0):=by
 have af:∀ (s t:Nat) (o:List Int),qs 3 o→s=(ix o 0).toNat→t<2121→Jh r_ o 0 0 (JF t)→HA r_ o 1→o.length=3→HL r_ s=true:=fun s t o ab ae aF ba bO bP =>
  Ru.2 ⟨o,ab,0,by omega,ae,by
   unfold Da;rw [sn,decide_eq_true_eq,decide_eq_true_eq]
   exact ⟨bO,t,aF,ba⟩⟩
 have db:HL r_ 0=true:=af 0 1018 [0,1,2] (by decide) (by decide) (by decide) (by decide +kernel) (by decide +kernel) rfl;have bl:HL r_ 1=true:=af 1 1018 [1,0,2] (by decide) (by decide) (by decide) (by decide +kernel) (by decide +kernel) rfl;have cr:HL r_ 2=true:=af 2 1015 [2,0,1] (by decide) (by decide) (by decide) (by decide +kernel) (by decide +kernel) rfl;have e:HZ r_=[0,1,2]:=by
  unfold HZ;show List.filter (fun s:Int=>HL r_ s.toNat) [0,1,2]=[0,1,2];refine List.filter_eq_self.2 fun s ah=>?_;simp only [sB,List.not_mem_nil,or_false] at ah;rcases ah with rfl | rfl | rfl
  ·exact db
  ·exact bl
  ·exact cr
 rw [Zl (by decide),e,if_pos (by decide +kernel)]
theorem ahx:Ml [0,2,1] [0,2,1]=some true:=by decide +kernel
theorem Ze:Ml [0,1,2] [0,1,2]=some true:=by decide +kernel
theorem works:rI=some true:=by
 obtain ⟨l,ab,ae⟩:=ahC;unfold rI;simp only [Zp,Zr,Zt,Hl,LI,LJ,sc,ahG,ahH,ahE,ahF,ahu,ahv,ahw,ahy,ahz,ahA,ahB,ahD,ab,ae,ahx,Ze];simp only [decide_eq_true_eq,ne_eq,not_true_eq_false,if_false,if_true]
end Go.Proofs.Ytkoioidpbbbaiaa.Ab


namespace Go.Proofs.Ytkoioidpbbbaiaa.Ab
open Go
set_option maxRecDepth 20000
set_option maxHeartbeats 1000000
theorem abn {p:qd} (h:qW p):(HZ p).length≤1000:=by
 have ab:=vj (fun s:Int=>HL p s.toNat) (qo p.1.length);rw [JH] at ab;have:=h.len;unfold HZ;omega
abbrev Of (p:qd):I:=.agg [.av (p.1.flatMap p') p.1.length .shared,hX p.2.1,hX p.2.2]
end Go.Proofs.Ytkoioidpbbbaiaa.Ab


namespace Go.Proofs.Ytkoioidpbbbaiaa.Ab
open Go
set_option maxRecDepth 20000
set_option maxHeartbeats 4000000
noncomputable def ZP:gB :=
 p4 [p2 1 [.jm 0] .box,p2 2 [.cv (.bool false)] .mR] (p4 [qG 3 1 0,qj 4 3,qZ 5 4,qw 6 5 10 .gtr,p3 2 6] .ret)
theorem aeh:qt Try.prog T9 10=some (ZP,7,[.tmp 2]):=by kernel_rfl
def Ny (p:(qk×(Int×Int))):Option Bool :=
 some (decide ((10:Int)<(p.1.length:Int)))
theorem Zh {p:(qk×(Int×Int))} {v:Bool} (h:Ny p=some v):qy 10 [(.agg [(.av (p.1.flatMap p') p.1.length .shared),(hX p.2.1),(hX p.2.2)])] (B v):=by
 refine qQ eD aeh rfl rfl fun Q bo=>?_;have jG:qL [.tmp 2] Q (fun v=>(B v)) v:=fun T H bD=>bo _ T H bD;unfold Ny at h;unfold ZP;conv=>whnf
 exact p_ h jG rfl rfl

noncomputable def Z6:gB :=
 p4 [p2 1 [.jm 0] .box,p2 2 [.cv (.bool false)] .mR] (p4 [p2 3 [.m_ 1] (.zH (.str 3)),p2 4 [.cv (.func 10 [] []),.m_ 3] (.call 3),p2 5 [.Bv 4] (.un .not),p3 6 5,ch 7 [.Bv 1] 6 true (.zH (.str 3)),⟨some 8,[.cv (.func 17 [] []),.m_ 7],some (6,true),none,.call 3⟩,ch 9 [.Bv 8,.cv (.int .i64 0)] 6 true (.bin .eql),p2 10 [.Bv 6,.Bv 9,.cv (.bool false)] .pick,p3 2 10] .ret)
theorem aey:qt Try.prog Uf 18=some (Z6,11,[.tmp 2]):=by kernel_rfl
def LF (p:(qk×(Int×Int))):Option Bool :=
 (Ny p).bind fun aS =>
 if aS=true then
  some false
 else
  (LM p).bind fun bh =>
  some (decide (bh=(0:Int)))
theorem Qt {p:(qk×(Int×Int))} {v:Bool} (h:LF p=some v):qy 18 [(.agg [(.av (p.1.flatMap p') p.1.length .shared),(hX p.2.1),(hX p.2.2)])] (B v):=by
 refine qQ eD aey rfl rfl fun Q bo=>?_;have jG:qL [.tmp 2] Q (fun v=>(B v)) v:=fun T H bD=>bo _ T H bD;unfold LF at h;unfold Z6;conv=>whnf
 obtain ⟨aS,gJ,h⟩:=p9 h;refine ⟨qb.pl,_,Zh gJ,?_⟩;conv=>whnf
 cases aS
 ·conv=>whnf
  replace h:=rK rfl h;obtain ⟨bh,gK,h⟩:=p9 h;refine ⟨qb.pl,_,Qz gK,?_⟩;conv=>whnf
  exact p_ h jG rfl rfl
 ·conv=>whnf
  replace h:=rJ rfl h;exact p_ h jG rfl rfl

end Go.Proofs.Ytkoioidpbbbaiaa.Ab


namespace Go.Proofs.Ytkoioidpbbbaiaa.Ab
open Go
set_option maxRecDepth 20000
set_option maxHeartbeats 4000000

noncomputable def QR:gB :=
 .loop (some (qc false [0,2,3,3,48])) (.seq (p4 [p5 10 7,p5 11 0,qv 12 10 11 .lss] (.cond (.m_ 12) .skip (.exit 0))) (.seq (.block 1 (qR [p3 15 5,p5 16 7,p2 17 [.Bv 16] (.yE 1 1 [.int .i64 0] [0]),p2 18 [.jm 15,.jm 17] (.app 1 8),p3 5 18])) (qR [p3 13 7,qY 14 13 1,p3 7 14])))
noncomputable def QS:gB :=
 p4 [p3 38 6,p5 39 5,p5 40 9,rk 41 39 40 1,qj 42 41,p2 43 [.Bv 42] (.yE 1 1 [.int .i64 0] [0]),p2 44 [.jm 38,.jm 43] (.app 1 8),p3 6 44] (q4 [p2 45 [] (.yE 0 1 [.int .i64 0] []),p5 46 5,p5 47 9,p2 48 [.jm 46,.jm 47] (.Bk 1 false true false),p2 49 [.jm 45,.jm 48] (.app 1 8),p5 50 5,p5 51 9,qY 52 51 1,p2 53 [.jm 50,.jm 52] (.Bk 1 true false false),p2 54 [.jm 49,.jm 53] (.app 1 8),p3 5 54])
noncomputable def QT:gB :=
 .loop (some (qc false [1,1,3,2,1,1,47])) (.seq (p4 [p5 19 5,qZ 20 19,qw 21 20 0 .gtr] (.cond (.m_ 21) .skip (.exit 2))) (.seq (.block 3 (p4 [qg 9 0] (.seq (p4 [p5 24 1,qZ 25 24,qw 26 25 0 .gtr] (.cond (.m_ 26) (qR [p5 27 1,p5 28 8,p5 29 1,qZ 30 29,qv 31 28 30 .rem,rk 32 27 31 1,qj 33 32,p2 34 [.Bv 33] (.conv .i64),p5 35 5,qZ 36 35,qv 37 34 36 .rem,p3 9 37]) .skip)) QS))) (qR [p3 22 8,qY 23 22 1,p3 8 23])))
noncomputable def Z7:gB :=
 p4 [p2 4 [.cv (.av [] 0 .full)] (.nil 1)] (p4 [p2 5 [.cv (.av [] 0 .full)] (.nil 1),p2 6 [.cv (.av [] 0 .full)] (.nil 1)] (.seq (p4 [qg 7 0] (.block 0 QR)) (.seq (p4 [qg 8 0] (.block 2 QT)) (p4 [p3 55 6,p3 4 55] .ret))))
theorem aez:qt Try.prog NP 19=some (Z7,56,[.tmp 4]):=by kernel_rfl
def Mo (JG:Int) (qf:qa→Option qa):Nat→qa→Int→Option qa
 | 0,_,_=>none
 | m+1,s1,s2 =>
   if (decide (s2<JG))=true then
    qx ((s1.length+1)*8≤140737488355328) <|
    Mo JG qf m (s1++[s2]) (w (s2+(1:Int)))
   else
    qf s1
def Mn (dh Hc:qa) (KP:qa→qa→Option qa) (dA:Int):Option qa :=
 qx (0≤dA∧dA<(dh.length:Int)) <|
 qx ((Hc.length+1)*8≤140737488355328) <|
 qx (0≤dA∧dA≤(dh.length:Int)) <|
 qx ((([]:List Int).length+(dh.take dA.toNat).length)*8≤140737488355328) <|
 qx (0≤(w (dA+(1:Int)))∧(w (dA+(1:Int)))≤(dh.length:Int)) <|
 qx (((([]:List Int)++(dh.take dA.toNat)).length+(dh.drop (w (dA+(1:Int))).toNat).length)*8≤140737488355328) <|
 KP ((([]:List Int)++(dh.take dA.toNat))++(dh.drop (w (dA+(1:Int))).toNat)) (Hc++[(ix dh dA)])
def Kr (qJ:qa) (re:qa→Option qa):Nat→qa→qa→Int→Option qa
 | 0,_,_,_=>none
 | m+1,dh,Hc,H8 =>
   if (decide ((0:Int)<(dh.length:Int)))=true then
    if (decide ((0:Int)<(qJ.length:Int)))=true then
     qx ((qJ.length:Int)≠0) <|
     qx (0≤(H8.tmod (qJ.length:Int))∧(H8.tmod (qJ.length:Int))<(qJ.length:Int)) <|
     qx ((dh.length:Int)≠0) <|
     Mn dh Hc (fun oS GF =>
       Kr qJ re m oS GF (w (H8+(1:Int)))) ((w (ix qJ (H8.tmod (qJ.length:Int)))).tmod (dh.length:Int))
    else
     Mn dh Hc (fun oS GF =>
       Kr qJ re m oS GF (w (H8+(1:Int)))) (0:Int)
   else
    re Hc
def LG (JG:Int) (qJ:qa):Option qa :=
 Mo JG (fun yq =>
   Kr qJ (fun K8 =>
     some K8) ql yq ([]:List Int) (0:Int)) ql ([]:List Int) (0:Int)
theorem aia {JG:Int} {qf:qa→Option qa} {s1:qa} {s2:Int} {qJ:qa} {v:qa} {Q:Hm}   (rm:∀ (yq:qa) (qe:List I),qf yq=some v→rr 56 [(1,(.av (qJ.map Hz) qJ.length .shared)),(5,(qF yq (.uniq 1))),(6,(.av [] 0 (.uniq 1)))] qe→Q (.exit 0) qe []) {T:List I} (bZ:eW (qc false [0,2,3,3,48]) T=qh 56 [(0,(hX JG)),(1,(.av (qJ.map Hz) qJ.length .shared)),(5,(qF s1 (.uniq 1))),(6,(.av [] 0 (.uniq 1))),(7,(hX s2))]) (h:Mo JG qf ql s1 s2=some v) :
  dN Try.prog NP 19 0 none QR T [] Q:=by
 unfold QR;refine wp_loop bZ ?_;refine .intro (fun m T H=>∃ (s1:qa) (s2:Int),T=qh 56 [(0,(hX JG)),(1,(.av (qJ.map Hz) qJ.length .shared)),(5,(qF s1 (.uniq 1))),(6,(.av [] 0 (.uniq 1))),(7,(hX s2))]∧H=[]∧Mo JG qf m s1 s2=some v) ql ⟨s1,s2,rfl,rfl,h⟩ ?_;clear h bZ;rintro m T H ⟨s1,s2,rfl,rfl,h⟩;cases m
 ·exact r3 h
 rename_i m;rw [Mo.eq_2] at h;conv=>whnf
 refine bs h (fun gJ h=>?_) fun gJ h=>?_
 ·rw [gJ];conv=>whnf
  obtain ⟨gK,h⟩:=rZ h;refine ⟨by first | rfl | simp,by have:=gK;omega,rfl,gK,?_⟩
  erw [Rr hX s1 s2];conv=>whnf
  exact ⟨m,sC m,(s1++[s2]),(w (s2+(1:Int))),rfl,rfl,h⟩
 ·rw [gJ];conv=>whnf
  exact rm _ _ h ⟨rfl,rfl⟩
theorem Zn {dh:qa} {Hc:qa} {KP:qa→qa→Option qa} {dA:Int} {qJ:qa} {H8:Int} {v:qa} {Q:Hm}  {qe:List I}  (R2:∀ (oS GF:qa) (qe:List I),KP oS GF=some v→rr 56 [(1,(.av (qJ.map Hz) qJ.length .shared)),(5,(qF oS (.uniq 1))),(6,(qF GF (.uniq 1))),(8,(hX H8))] qe→Q .normal qe []) (qA:rr 56 [(1,(.av (qJ.map Hz) qJ.length .shared)),(5,(qF dh (.own 1))),(6,(qF Hc (.uniq 1))),(8,(hX H8)),(9,(hX dA))] qe) (h:Mn dh Hc KP dA=some v) :
  dN Try.prog NP 19 0 none QS qe [] Q:=by
 obtain ⟨rn,rfl⟩:=qA.ex;unfold Mn at h;unfold QS;conv=>whnf
 refine qN h id fun rH h=>?_;rw [rh hX dh dA rH];conv=>whnf
 obtain ⟨ra,h⟩:=rZ h;refine ⟨by first | rfl | simp,by have:=ra;omega,rfl,ra,?_⟩
 erw [Rr hX Hc (ix dh dA)];conv=>whnf
 refine qN h id fun rq h=>?_;erw [YD hX dh dA rq];conv=>whnf
 obtain ⟨r8,h⟩:=rZ h;refine ⟨by first | rfl | simp,by have:=r8;omega,rfl,r8,?_⟩
 erw [UY hX ([]:List Int) (dh.take dA.toNat)];conv=>whnf
 refine qN h id fun sa h=>?_;erw [YE hX dh (w (dA+(1:Int))) sa];conv=>whnf
 obtain ⟨Hp,h⟩:=rZ h;refine ⟨by first | rfl | simp,by have:=Hp;omega,rfl,Hp,?_⟩
 erw [UY hX (([]:List Int)++(dh.take dA.toNat)) (dh.drop (w (dA+(1:Int))).toNat)];conv=>whnf
 exact R2 _ _ _ h ⟨rfl,rfl⟩
theorem aib {qJ:qa} {re:qa→Option qa} {dh:qa} {Hc:qa} {H8:Int} {v:qa} {Q:Hm}   (J0:∀ (K8:qa) (qe:List I),re K8=some v→rr 56 [(6,(qF K8 (.uniq 1)))] qe→Q (.exit 2) qe []) {T:List I} (bZ:eW (qc false [1,1,3,2,1,1,47]) T=qh 56 [(1,(.av (qJ.map Hz) qJ.length .shared)),(5,(qF dh (.uniq 1))),(6,(qF Hc (.uniq 1))),(8,(hX H8))]) (h:Kr qJ re ql dh Hc H8=some v) :
  dN Try.prog NP 19 0 none QT T [] Q:=by
 unfold QT;obtain ⟨Le,rU⟩:∃ c,QS=c:=⟨_,rfl⟩;rw [rU];refine wp_loop bZ ?_;refine .intro (fun m T H=>∃ (dh Hc:qa) (H8:Int),T=qh 56 [(1,(.av (qJ.map Hz) qJ.length .shared)),(5,(qF dh (.uniq 1))),(6,(qF Hc (.uniq 1))),(8,(hX H8))]∧H=[]∧Kr qJ re m dh Hc H8=some v) ql ⟨dh,Hc,H8,rfl,rfl,h⟩ ?_;clear h bZ;rintro m T H ⟨dh,Hc,H8,rfl,rfl,h⟩;cases m
 ·exact r3 h
 rename_i m;rw [Kr.eq_2] at h;conv=>whnf
 refine bs h (fun qu h=>?_) fun qu h=>?_
 ·rw [qu];conv=>whnf
  refine bs h (fun qH h=>?_) fun qH h=>?_
  ·rw [qH];(conv=>whnf);refine qN h id fun qU h=>?_;(conv=>whnf);refine qN h id fun ru h=>?_;rw [rh Hz qJ (H8.tmod (qJ.length:Int)) ru];(conv=>whnf);refine qN h id fun qS h=>?_;(conv=>whnf);subst rU;refine Zn ?_ (by exact ⟨rfl,rfl⟩) h;intro oS GF qe h qA;obtain ⟨rn,rfl⟩:=qA.ex;(conv=>whnf);exact ⟨m,sC m,oS,GF,(w (H8+(1:Int))),rfl,rfl,h⟩
  ·rw [qH];(conv=>whnf);subst rU;refine Zn ?_ (by exact ⟨rfl,rfl⟩) h;intro oS GF qe h qA;obtain ⟨rn,rfl⟩:=qA.ex;(conv=>whnf);exact ⟨m,sC m,oS,GF,(w (H8+(1:Int))),rfl,rfl,h⟩
 ·rw [qu];conv=>whnf
  exact J0 _ _ h ⟨rfl,rfl⟩
theorem Qv {JG:Int} {qJ:qa} {v:qa} (h:LG JG qJ=some v):qy 19 [(hX JG),(.av (qJ.map Hz) qJ.length .shared)] (.av (v.map hX) v.length .shared):=by
 refine qQ eD aez rfl (rT (fun _=>rfl) _ _ _) fun Q bo=>?_;have jG:qL [.tmp 4] Q (fun v=>(qF v .shared)) v:=fun T H bD=>bo _ T H bD;unfold LG at h;unfold Z7;obtain ⟨HN,qI⟩:∃ c,QR=c:=⟨_,rfl⟩;rw [qI];obtain ⟨U5,Li⟩:∃ c,QT=c:=⟨_,rfl⟩;rw [Li];conv=>whnf
 subst qI;refine aia ?_ (by exact rfl) h;intro yq qe h qA;obtain ⟨rn,rfl⟩:=qA.ex;conv=>whnf
 subst Li;refine aib ?_ (by exact rfl) h;intro K8 qe h qA;obtain ⟨rn,rfl⟩:=qA.ex;conv=>whnf
 exact p_ h jG rfl rfl

end Go.Proofs.Ytkoioidpbbbaiaa.Ab


namespace Go.Proofs.Ytkoioidpbbbaiaa.Ab
open Go
set_option maxRecDepth 20000
set_option maxHeartbeats 1000000
theorem ahl (i:Nat):qo (i+1)=qo i++[(i:Int)]:=by unfold qo;rw [vL,sT];rfl
theorem Wp {n:Nat} (aI:n≤1000) {K:List Int→Option (List Int)}:∀ (m i:Nat),i≤n→n-i<m→Mo (n:Int) K m (qo i) (i:Int)=K (qo n)
 | 0,_,_,h=>absurd h (by omega)
 | m+1,i,hi,hm=>by
   rw [Mo];by_cases aR:i<n
   ·rw [if_pos (decide_eq_true (by omega)),qD (by rw [JH];omega),Iw i (by omega),←ahl];exact Wp aI m (i+1) (by omega) (by omega)
   ·(obtain rfl:i=n:=by omega);rw [if_neg (by simp)]
theorem adj {A B:List Int} {j:Nat} (aw:j<A.length) (aL:A.length≤1000) (I9:B.length≤1000) (K:List Int→List Int→Option (List Int)):Mn A B K (j:Int)=K (A.take j++A.drop (j+1)) (B++[A[j]]):=by
 unfold Mn;have ab:=List.length_take_le j A;rw [qD (by omega),qD (by omega),qD (by omega),tx,qD (by simp;omega),Iw j (by omega),qD (by omega),tx,qD (by simp;omega),rB aw,tp]
theorem afq {A B:List Int} {j:Nat} (aw:j<A.length):((B++[A[j]])++(A.take j++A.drop (j+1))).Perm (B++A):=by
 have e:A=A.take j++A[j]::A.drop (j+1):=by rw [←s9 aw,List.take_append_drop]
 rw [sx];refine List.Perm.append_left B ?_;have:=(List.perm_middle (l₁:=A.take j) (a:=A[j]) (l₂:=A.drop (j+1))).symm;rw [←e] at this;exact this
theorem Wo {n:Nat} (aI:n≤1000) {Q:List Int} (bo:∀ b∈Q,0≤b∧b≤255) (ao:Q.length≤1000) {K:List Int→Option (List Int)}:∀ (m:Nat) (A B:List Int),A.length<m→(B++A).Perm (qo n) →
  ∃ r,qs n r∧Kr Q K m A B (B.length:Int)=K r
 | 0,_,_,h,_=>absurd h (by omega)
 | m+1,A,B,hm,aB=>by
   rw [Kr];have hlen:=aB.length_eq;rw [sE,JH] at hlen;by_cases aQ:0<A.length
   ·rw [if_pos (decide_eq_true (by omega)),Iw B.length (by omega)];have next:∀ j:Nat,j<A.length→∃ r,qs n r∧Mn A B (fun oS GF=>Kr Q K m oS GF ((B.length+1:Nat):Int)) (j:Int)=K r:=fun j aw=>by
     rw [adj aw (by omega) (by omega)];have:=Wo aI bo ao (K:=K) m (A.take j++A.drop (j+1)) (B++[A[j]]) (by simp;omega) ((afq aw).trans aB);rw [show (B++[A[j]]).length=B.length+1 by simp] at this;exact this
    by_cases a_:0<Q.length
    ·rw [if_pos (decide_eq_true (by omega)),qD (by omega)];(have e1:((B.length:Nat):Int).tmod (Q.length:Int)=((B.length % Q.length:Nat):Int):=by rw [vH (by omega)];omega);have R4:=uK B.length a_;rw [e1,qD (by omega),qD (by omega)];have af:=bo _ (Kn (l:=Q) (i:=((B.length % Q.length:Nat):Int)) (by omega));obtain ⟨v,ad⟩:∃ v:Nat,ix Q ((B.length % Q.length:Nat):Int)=(v:Int):=⟨(ix Q ((B.length % Q.length:Nat):Int)).toNat,by omega⟩;rw [ad] at af ⊢;(have b9:(v:Int).tmod (A.length:Int)=((v % A.length:Nat):Int):=by rw [vH (by omega)];omega);rw [qK (n:=(v:Int)) (by omega),b9];exact next _ (uK _ aQ)
    ·rw [if_neg (by simpa using a_)];exact next 0 aQ
   ·rw [if_neg (by simpa using aQ)];obtain rfl:A=[]:=List.length_eq_zero_iff.1 (by omega);rw [sN] at aB;exact ⟨B,KS.2 aB,rfl⟩
theorem Qu {n:Nat} (aI:n≤1000) {Q:List Int} (bo:∀ b∈Q,0≤b∧b≤255) (ao:Q.length≤1000):∃ r,qs n r∧LG (n:Int) Q=some r:=by
 unfold LG;obtain ⟨r,ab,ae⟩:=Wo aI bo ao (K:=fun K8=>some K8) ql (qo n) [] (by rw [JH];exact Il (by omega)) (by rw [tp]);refine ⟨r,ab,?_⟩;rw [←ae];exact Wp aI (K:=fun yq=>Kr Q (fun K8=>some K8) ql yq [] 0) ql 0 (by omega) (Il (by omega))
theorem Qs (p:qd):LF p=some (decide (ry p=0)):=by
 unfold LF Ny;rw [sc];by_cases h:(10:Int)<(p.1.length:Int)
 ·rw [if_pos (decide_eq_true h),decide_eq_false];intro ak;have:=(JL.1 ak).len;omega
 ·rw [if_neg (by simpa using h),TA (by omega),sc]
theorem M0 {p:qd} {o:List Int} (h:qW p) (k:qs p.1.length o):rN p o=0:=KU.2 ⟨h,k⟩
theorem Tx {p:qd} {o:List Int} (h:qW p) (k:qs p.1.length o):H_ p o=some (qX p o,0):=by
 have:=h.len;have:=k.1;rw [LH (by omega) (by omega),if_pos (M0 h k)]
theorem Zo {p:qd} {o:List Int} (h:qW p) (k:qs p.1.length o) {d:Int} (a1:p.2.1≤d∧d≤p.2.2):Iy p o d=some (q9 p o 0 d,q9 p o 1 d,0):=by
 have:=h.len;have:=k.1;rw [Mp (by omega) (by omega),if_pos (M0 h k),if_pos a1]
theorem ag_ (n:Nat) (g:Nat→Int):qO (n+1) g=g 0+qO n fun i=>g (i+1):=by
 induction n with
 | zero=>simp [qO]
 | succ n a8=>rw [qO,a8];simp only [qO];omega
theorem Qb:∀ (n:Nat) (g:Nat→Int),qO n (fun i=>g (n-1-i))=qO n g
 | 0,_=>rfl
 | n+1,g=>by
   rw [ag_ n g,←Qb n fun i=>g (i+1)];simp only [qO];rw [show n+1-1-n=0 by omega,Int.add_comm (g 0)];congr 1;refine K0 fun i hi=>?_;rw [show n+1-1-i=n-1-i+1 by omega]
theorem Sn (S:List qE) (o:List Int) (a:Nat) (f:qE→Int) (aI:o.length % 2=1):ri S o.reverse a f=-(ri S o a f):=by
 unfold ri;rw [vQ];have e:-(qO o.length fun i=>if i % 2=a then qz o.length i*f (qp S o i) else 0)=qO o.length fun i => -1*(if i % 2=a then qz o.length i*f (qp S o i) else 0):=by rw [OH];omega
 rw [e,←Qb];refine K0 fun i hi=>?_;have ah:qp S o.reverse (o.length-1-i)=qp S o i:=by
  unfold qp;congr 1;rw [rB (by simp;omega),rB hi,vk];congr 1;omega
 have aB:qz o.length (o.length-1-i)=-(qz o.length i):=by unfold qz;omega
 by_cases a_:i % 2=a
 ·rw [if_pos (by omega),if_pos a_,ah,aB];grind
 ·rw [if_neg (by omega),if_neg a_];rfl
theorem Vf {p:qd} (h:qW p) {o:List Int} (k:qs p.1.length o):qX p o.reverse=qX p o:=by
 have aI:=h.n;rw [←k.1] at aI;have e:∀ a d,q9 p o.reverse a d=-(q9 p o a d):=fun a d=>Sn _ _ _ _ (by omega);have m:∀ x:Int,max (-x) x=max x (-x):=fun x=>Int.max_comm _ _;unfold qX I7;simp only [e,Int.neg_neg,m]
theorem agF {p:qd} (h:qW p) {o:List Int} (k:qs p.1.length o):o.reverse≠o:=fun e=>by
 have ao:=h.len;have aI:=k.1;have ab:o.reverse[0]'(by simp;omega)=o[o.length-1]:=by rw [vk];congr 1
 have ae:o.reverse[0]'(by simp;omega)=o[0]'(by omega):=by simp only [e]
 have:=(List.getElem_inj k.2.1).1 (ab.symm.trans ae);omega
end Go.Proofs.Ytkoioidpbbbaiaa.Ab


namespace Go.Proofs.Ytkoioidpbbbaiaa.Ab
open Go
set_option maxRecDepth 20000
set_option maxHeartbeats 4000000
noncomputable def Z4:gB :=
 p4 [p2 3 [.jm 0] .box,qg 6 0,qg 7 0,qg 8 0] (.seq (p4 [p2 9 [.m_ 3] (.zH (.str 3)),p5 10 1,p2 11 [.cv (.func 39 [] []),.m_ 9,.m_ 10] (.call 3),qw 12 11 0 .neq] (.cond (.m_ 12) (p4 [p2 13 [.Bv 3] (.zH (.str 3)),p3 14 1,p2 15 [.cv (.func 39 [] []),.m_ 13,.m_ 14] (.call 3),qg 6 0,qg 7 0,p3 8 15] .ret) .skip)) (.seq (p4 [p5 16 2,p2 17 [.m_ 3] (.yP 1),qG 18 17 0,qj 19 18,qv 20 16 19 .lss,p3 21 20,ch 22 [.m_ 2] 21 false .mR,ch 23 [.m_ 3] 21 false (.yP 1),ch 24 [.Bv 23] 21 false (.yP 1),ch 25 [.Bv 24] 21 false (.zH .one),ch 26 [.Bv 22,.Bv 25] 21 false (.bin .gtr),p2 27 [.Bv 21,.cv (.bool true),.Bv 26] .pick] (.cond (.m_ 27) (p4 [qg 6 0,qg 7 0,qg 8 3] .ret) .skip)) (.seq (q4 [p2 28 [.m_ 3] (.zH (.str 3)),p5 29 1,p5 30 2,p2 31 [.cv (.func 40 [] []),.m_ 28,.m_ 29,.m_ 30,.cv (.int .i64 0)] (.call 3),p2 32 [.m_ 3] (.zH (.str 3)),p5 33 1,p5 34 2,p2 35 [.cv (.func 40 [] []),.m_ 32,.m_ 33,.m_ 34,.cv (.int .i64 1)] (.call 3),p3 6 31,p3 7 35,qg 8 0]) .ret)))
theorem aew:qt Try.prog Uc 13=some (Z4,36,[.tmp 6,.tmp 7,.tmp 8]):=by kernel_rfl
def OQ (p:(qk×(Int×Int))) (order:qa) (q3:Int):Option (Int×Int×Int) :=
 (Ks p order).bind fun aS =>
 if (decide (aS≠(0:Int)))=true then
  (Ks p order).bind fun bh =>
  some ((0:Int),(0:Int),bh)
 else
  if (decide (q3<p.2.1))=true then
   some ((0:Int),(0:Int),(3:Int))
  else
   if (decide (p.2.2<q3))=true then
    some ((0:Int),(0:Int),(3:Int))
   else
    (Kd p order q3 (0:Int)).bind fun eH =>
    (Kd p order q3 (1:Int)).bind fun qB =>
    some (eH,qB,(0:Int))
theorem ah8 {p:(qk×(Int×Int))} {order:qa} {q3:Int} {v:(Int×Int×Int)} (h:OQ p order q3=some v):qy 13 [(.agg [(.av (p.1.flatMap p') p.1.length .shared),(hX p.2.1),(hX p.2.2)]),(.av (order.map hX) order.length .shared),(hX q3)] (.tuple [(hX v.1),(hX v.2.1),(hX v.2.2)]):=by
 refine qQ eD aew rfl (Jq (p6 rfl (p6 rfl (p6 rfl rfl)))) fun Q bo=>?_;have jG:qL [.tmp 6,.tmp 7,.tmp 8] Q (fun v=>(.tuple [(hX v.1),(hX v.2.1),(hX v.2.2)])) v:=fun T H bD=>bo _ T H bD;unfold OQ at h;unfold Z4;conv=>whnf
 obtain ⟨aS,gJ,h⟩:=p9 h;refine ⟨qb.pl,_,ND gJ,?_⟩;conv=>whnf
 refine bs h (fun gK h=>?_) fun gK h=>?_
 ·rw [gK];conv=>whnf
  obtain ⟨bh,qu,h⟩:=p9 h;refine ⟨qb.pl,_,ND qu,?_⟩;conv=>whnf
  exact p_ h jG rfl rfl
 ·rw [gK];conv=>whnf
  refine bs h (fun qH h=>?_) fun qH h=>?_
  ·rw [qH];(conv=>whnf);exact p_ h jG rfl rfl
  ·rw [qH];(conv=>whnf);refine bs h (fun qU h=>?_) fun qU h=>?_
   ·rw [qU];(conv=>whnf);exact p_ h jG rfl rfl
   ·rw [qU];(conv=>whnf);obtain ⟨eH,ru,h⟩:=p9 h;refine ⟨qb.pl,_,QA ru,rD,?_⟩;(conv=>whnf);obtain ⟨qB,qS,h⟩:=p9 h;refine ⟨qb.pl,_,QA qS,(Q' (fun _ e=>by simp at e) rD),?_⟩;(conv=>whnf);exact p_ h jG rfl rfl

noncomputable def Z5:gB :=
 p4 [p2 2 [.jm 0] .box,qg 4 0,qg 5 0] (.seq (p4 [p2 6 [.m_ 2] (.zH (.str 3)),p5 7 1,p2 8 [.cv (.func 39 [] []),.m_ 6,.m_ 7] (.call 3),qw 9 8 0 .neq] (.cond (.m_ 9) (p4 [p2 10 [.Bv 2] (.zH (.str 3)),p3 11 1,p2 12 [.cv (.func 39 [] []),.m_ 10,.m_ 11] (.call 3),qg 4 0,p3 5 12] .ret) .skip)) (p4 [p2 13 [.Bv 2] (.zH (.str 3)),p3 14 1,p2 15 [.cv (.func 42 [] []),.m_ 13,.m_ 14] (.call 3),p3 4 15,qg 5 0] .ret))
theorem aex:qt Try.prog Ue 15=some (Z5,16,[.tmp 4,.tmp 5]):=by kernel_rfl
def OS (p:(qk×(Int×Int))) (order:qa):Option (Int×Int) :=
 (Ks p order).bind fun aS =>
 if (decide (aS≠(0:Int)))=true then
  (Ks p order).bind fun bh =>
  some ((0:Int),bh)
 else
  (Mr p order).bind fun eH =>
  some (eH,(0:Int))
theorem ah_ {p:(qk×(Int×Int))} {order:qa} {v:(Int×Int)} (h:OS p order=some v):qy 15 [(.agg [(.av (p.1.flatMap p') p.1.length .shared),(hX p.2.1),(hX p.2.2)]),(.av (order.map hX) order.length .shared)] (.tuple [(hX v.1),(hX v.2)]):=by
 refine qQ eD aex rfl (Jq (p6 rfl (p6 rfl rfl))) fun Q bo=>?_;have jG:qL [.tmp 4,.tmp 5] Q (fun v=>(.tuple [(hX v.1),(hX v.2)])) v:=fun T H bD=>bo _ T H bD;unfold OS at h;unfold Z5;conv=>whnf
 obtain ⟨aS,gJ,h⟩:=p9 h;refine ⟨qb.pl,_,ND gJ,?_⟩;conv=>whnf
 refine bs h (fun gK h=>?_) fun gK h=>?_
 ·rw [gK];conv=>whnf
  obtain ⟨bh,qu,h⟩:=p9 h;refine ⟨qb.pl,_,ND qu,?_⟩;conv=>whnf
  exact p_ h jG rfl rfl
 ·rw [gK];conv=>whnf
  obtain ⟨eH,qH,h⟩:=p9 h;refine ⟨qb.pl,_,Zw qH,?_⟩;conv=>whnf
  exact p_ h jG rfl rfl

noncomputable def ZX:gB :=
 p4 [p2 3 [.jm 0] .box,p2 6 [.cv (.bool false)] .mR] (.seq (p4 [p2 17 [.m_ 3] (.zH (.str 3)),p2 18 [.cv (.func 10 [] []),.m_ 17] (.call 3),p3 19 18,ch 20 [.m_ 1] 19 false .mR,ch 21 [.jm 20] 19 false .zM,ch 22 [.Bv 21,.cv (.int .i64 10)] 19 false (.bin .gtr),p2 23 [.Bv 19,.cv (.bool true),.Bv 22] .pick] (.cond (.m_ 23) (p4 [p2 24 [.cv (.func 11 [] [])] (.call 3),p3 6 24] .ret) .skip)) (p4 [p2 26 [.m_ 3] (.zH (.str 3)),p5 27 1,p5 28 2,p2 29 [.cv (.func 12 [] []),.m_ 26,.m_ 27,.m_ 28] (.call 3),p3 25 29,qn 30 25 0,qn 31 25 1,p2 32 [.Bv 25] (.ext 2),p3 7 30,p3 8 31,p3 9 32] (p4 [p2 34 [.m_ 3] (.zH (.str 3)),p5 35 1,p3 36 2,p2 37 [.cv (.func 13 [] []),.m_ 34,.m_ 35,.m_ 36] (.call 3),p3 33 37,qn 38 33 0,qn 39 33 1,p2 40 [.Bv 33] (.ext 2),p3 10 38,p3 11 39,p3 12 40] (p4 [p2 42 [.m_ 3] (.zH (.str 3)),p5 43 1,p2 44 [.cv (.func 14 [] []),.m_ 42,.m_ 43] (.call 3),p3 41 44,qn 45 41 0,p2 46 [.Bv 41] (.ext 1),p3 13 45,p3 14 46] (p4 [p2 48 [.m_ 3] (.zH (.str 3)),p3 49 1,p2 50 [.cv (.func 15 [] []),.m_ 48,.m_ 49] (.call 3),p3 47 50,qn 51 47 0,p2 52 [.Bv 47] (.ext 1),p3 15 51,p3 16 52] (.seq (q4 [p2 53 [.m_ 3] (.zH (.str 3)),p2 54 [.cv (.func 16 [] []),.m_ 53] (.call 3),p2 55 [.m_ 3] (.zH (.str 3)),p2 56 [.cv (.func 17 [] []),.m_ 55] (.call 3),qv 57 54 56 .eql,p3 58 57,ch 59 [.jm 7] 58 true .mR,ch 60 [.jm 10] 58 true .mR,ch 61 [.Bv 59,.Bv 60] 58 true (.bin .eql),p2 62 [.m_ 58,.Bv 61,.cv (.bool false)] .pick,p3 63 62,ch 64 [.jm 8] 63 true .mR,ch 65 [.jm 11] 63 true .mR,ch 66 [.Bv 64,.Bv 65] 63 true (.bin .eql),p2 67 [.m_ 63,.Bv 66,.cv (.bool false)] .pick,p3 68 67,ch 69 [.jm 9] 68 true .mR,ch 70 [.jm 12] 68 true .mR,ch 71 [.Bv 69,.Bv 70] 68 true (.bin .eql),p2 72 [.m_ 68,.Bv 71,.cv (.bool false)] .pick,p3 73 72,ch 74 [.jm 13] 73 true .mR,ch 75 [.jm 15] 73 true .mR,ch 76 [.Bv 74,.Bv 75] 73 true (.bin .eql),p2 77 [.m_ 73,.Bv 76,.cv (.bool false)] .pick,p3 78 77,ch 79 [.jm 14] 78 true .mR,ch 80 [.jm 16] 78 true .mR,ch 81 [.Bv 79,.Bv 80] 78 true (.bin .eql),p2 82 [.m_ 78,.Bv 81,.cv (.bool false)] .pick,p3 83 82,⟨some 84,[.cv (.func 11 [] [])],some (83,true),none,.call 3⟩,p2 85 [.m_ 83,.Bv 84,.cv (.bool false)] .pick,p3 6 85]) .ret))))))
theorem aep:qt Try.prog Uk 3=some (ZX,86,[.tmp 6]):=by kernel_rfl
def Ql (p:(qk×(Int×Int))) (order:qa) (q3:Int):Option Bool :=
 (Ny p).bind fun aS =>
 if aS=true then
  (rI).bind fun bh =>
  some bh
 else
  if (decide ((10:Int)<(order.length:Int)))=true then
   (rI).bind fun eH =>
   some eH
  else
   (Iy p order q3).bind fun qB =>
   (OQ p order q3).bind fun r5 =>
   (H_ p order).bind fun r6 =>
   (OS p order).bind fun r7 =>
   (LR p).bind fun HG =>
   (LM p).bind fun Hr =>
   if (decide (HG=Hr))=true then
    if (decide (qB.1=r5.1))=true then
     if (decide (qB.2.1=r5.2.1))=true then
      if (decide (qB.2.2=r5.2.2))=true then
       if (decide (r6.1=r7.1))=true then
        if (decide (r6.2=r7.2))=true then
         (rI).bind fun Hj =>
         some Hj
        else
         some false
       else
        some false
      else
       some false
     else
      some false
    else
     some false
   else
    some false
theorem ahQ {p:(qk×(Int×Int))} {order:qa} {q3:Int} {v:Bool} (h:Ql p order q3=some v):qy 3 [(.agg [(.av (p.1.flatMap p') p.1.length .shared),(hX p.2.1),(hX p.2.2)]),(.av (order.map hX) order.length .shared),(hX q3)] (B v):=by
 refine qQ eD aep rfl rfl fun Q bo=>?_;have jG:qL [.tmp 6] Q (fun v=>(B v)) v:=fun T H bD=>bo _ T H bD;unfold Ql at h;unfold ZX;conv=>whnf
 obtain ⟨aS,gJ,h⟩:=p9 h;refine ⟨qb.pl,_,Zh gJ,?_⟩;conv=>whnf
 cases aS
 ·conv=>whnf
  replace h:=rK rfl h;refine bs h (fun qu h=>?_) fun qu h=>?_
  ·rw [qu];(conv=>whnf);obtain ⟨eH,qH,h⟩:=p9 h;refine ⟨rfl,_,r9 qH,?_⟩;(conv=>whnf);exact p_ h jG rfl rfl
  ·rw [qu];(conv=>whnf);obtain ⟨qB,qU,h⟩:=p9 h;refine ⟨qb.pl,_,Mq qU,?_⟩;(conv=>whnf);obtain ⟨r5,ru,h⟩:=p9 h;refine ⟨qb.pl,_,ah8 ru,?_⟩;(conv=>whnf);obtain ⟨r6,qS,h⟩:=p9 h;refine ⟨qb.pl,_,K4 qS,?_⟩;(conv=>whnf);obtain ⟨r7,rH,h⟩:=p9 h;refine ⟨qb.pl,_,ah_ rH,?_⟩;(conv=>whnf);obtain ⟨HG,ra,h⟩:=p9 h;refine ⟨qb.pl,_,My ra,rD,?_⟩;(conv=>whnf);obtain ⟨Hr,rq,h⟩:=p9 h;refine ⟨qb.pl,_,Qz rq,rY rfl,?_⟩;(conv=>whnf);refine bs h (fun r8 h=>?_) fun r8 h=>?_
   ·rw [r8];(conv=>whnf);refine bs h (fun sa h=>?_) fun sa h=>?_
    ·rw [sa];(conv=>whnf);refine bs h (fun Hp h=>?_) fun Hp h=>?_
     ·rw [Hp];(conv=>whnf);refine bs h (fun Ie h=>?_) fun Ie h=>?_
      ·rw [Ie];(conv=>whnf);refine bs h (fun Hq h=>?_) fun Hq h=>?_
       ·rw [Hq];(conv=>whnf);refine bs h (fun H4 h=>?_) fun H4 h=>?_
        ·rw [H4];(conv=>whnf);obtain ⟨Hj,Io,h⟩:=p9 h;refine ⟨rfl,_,r9 Io,rY rfl,?_⟩;(conv=>whnf);exact p_ h jG rfl rfl
        ·rw [H4];(conv=>whnf);exact p_ h jG rfl rfl
       ·rw [Hq];(conv=>whnf);exact p_ h jG rfl rfl
      ·rw [Ie];(conv=>whnf);exact p_ h jG rfl rfl
     ·rw [Hp];(conv=>whnf);exact p_ h jG rfl rfl
    ·rw [sa];(conv=>whnf);exact p_ h jG rfl rfl
   ·rw [r8];(conv=>whnf);exact p_ h jG rfl rfl
 ·conv=>whnf
  replace h:=rJ rfl h;obtain ⟨bh,gK,h⟩:=p9 h;refine ⟨rfl,_,r9 gK,?_⟩;conv=>whnf
  exact p_ h jG rfl rfl
end Go.Proofs.Ytkoioidpbbbaiaa.Ab


namespace Go.Proofs.Ytkoioidpbbbaiaa.Ab
open Go
set_option maxRecDepth 100000
set_option maxHeartbeats 4000000
noncomputable def Z2:gB :=
 p4 [p2 0 [.cv (.bool false)] .mR] (p4 [p2 30 [.cv (.func 29 [] [])] (.call 3),p2 31 [.cv (.func 30 [] [])] (.call 3),p2 32 [.cv (.func 31 [] [])] (.call 3),p2 1 [] (.alloc [.av [] 0 .full,.int .i64 0,.int .i64 0]),p2 2 [] (.alloc [.av [] 0 .full,.int .i64 0,.int .i64 0]),p2 3 [] (.alloc [.av [] 0 .full,.int .i64 0,.int .i64 0]),⟨none,[.m_ 1,.jm 30],none,none,.st 3⟩,⟨none,[.m_ 2,.jm 31],none,none,.st 3⟩,⟨none,[.m_ 3,.jm 32],none,none,.st 3⟩] (.seq (q4 [p2 34 [.m_ 1] (.zH (.str 3)),p2 35 [.cv (.int .i64 1),.cv (.int .i64 0),.cv (.int .i64 2)] (.yE 3 1 [.int .i64 0] [0,1,2]),p2 36 [.cv (.func 28 [] []),.m_ 35] (.call 3),p2 37 [.cv (.func 12 [] []),.m_ 34,.m_ 36,.cv (.int .i64 4)] (.call 3),p3 33 37,qn 38 33 0,qn 39 33 1,qn 40 33 2,p3 4 38,p3 5 39,p3 6 40]) (.seq (q4 [p2 42 [.m_ 1] (.zH (.str 3)),p2 43 [.cv (.int .i64 0),.cv (.int .i64 1),.cv (.int .i64 2)] (.yE 3 1 [.int .i64 0] [0,1,2]),p2 44 [.cv (.func 28 [] []),.m_ 43] (.call 3),p2 45 [.cv (.func 12 [] []),.m_ 42,.m_ 44,.cv (.int .i64 4)] (.call 3),p3 41 45,qn 46 41 0,qn 47 41 1,qn 48 41 2,p3 7 46,p3 8 47,p3 9 48]) (.seq (q4 [p2 50 [.m_ 2] (.zH (.str 3)),p2 51 [.cv (.int .i64 0),.cv (.int .i64 2),.cv (.int .i64 1)] (.yE 3 1 [.int .i64 0] [0,1,2]),p2 52 [.cv (.func 28 [] []),.m_ 51] (.call 3),p2 53 [.cv (.func 14 [] []),.m_ 50,.m_ 52] (.call 3),p3 49 53,qn 54 49 0,qn 55 49 1,p3 10 54,p3 11 55]) (.seq (q4 [p2 57 [.m_ 3] (.zH (.str 3)),p2 58 [.cv (.int .i64 1),.cv (.int .i64 0),.cv (.int .i64 2),.cv (.int .i64 3),.cv (.int .i64 4)] (.yE 5 1 [.int .i64 0] [0,1,2,3,4]),p2 59 [.cv (.func 28 [] []),.m_ 58] (.call 3),p2 60 [.cv (.func 14 [] []),.m_ 57,.m_ 59] (.call 3),p3 56 60,qn 61 56 0,qn 62 56 1,p3 12 61,p3 13 62]) (p4 [p2 64 [.m_ 1] (.zH (.str 3)),p2 65 [.cv (.func 32 [] []),.m_ 64] (.call 3),p3 63 65,qn 66 63 0,p2 67 [.Bv 63] (.ext 1),p3 14 66,p3 15 67] (p4 [p2 69 [.m_ 1] (.zH (.str 3)),p2 70 [.cv (.func 33 [] []),.m_ 69] (.call 3),p3 68 70,qn 71 68 0,p2 72 [.Bv 68] (.ext 1),p3 16 71,p3 17 72] (p4 [p2 74 [.m_ 1] (.zH (.str 3)),p2 75 [.cv (.func 20 [] []),.m_ 74] (.call 3),p3 73 75,qn 76 73 0,p2 77 [.Bv 73] (.ext 1),p3 18 76,p3 19 77] (p4 [p2 79 [.m_ 2] (.zH (.str 3)),p2 80 [.cv (.func 20 [] []),.m_ 79] (.call 3),p3 78 80,qn 81 78 0,p2 82 [.Bv 78] (.ext 1),p3 20 81,p3 21 82] (.seq (q4 [p2 84 [.m_ 2] (.zH (.str 3)),p2 85 [.cv (.int .i64 0),.cv (.int .i64 2),.cv (.int .i64 1)] (.yE 3 1 [.int .i64 0] [0,1,2]),p2 86 [.cv (.func 28 [] []),.m_ 85] (.call 3),p2 87 [.cv (.func 35 [] []),.cv (.int .i64 1),.cv (.int .i64 3),.cv (.int .i64 0)] (.call 3),p2 88 [.Bv 87] (.yE 1 3 [.int .i64 0,.int .i64 0,.int .i64 0] [0]),p2 89 [.cv (.func 34 [] []),.m_ 88] (.call 3),p2 90 [.cv (.func 23 [] []),.m_ 84,.m_ 86,.m_ 89] (.call 3),p3 83 90,qn 91 83 0,qn 92 83 1,p3 22 91,p3 23 92]) (.seq (q4 [p2 94 [.m_ 2] (.zH (.str 3)),p2 95 [.cv (.int .i64 0),.cv (.int .i64 2),.cv (.int .i64 1)] (.yE 3 1 [.int .i64 0] [0,1,2]),p2 96 [.cv (.func 28 [] []),.m_ 95] (.call 3),p2 97 [.cv (.func 23 [] []),.m_ 94,.m_ 96,.cv (.av [] 0 .full)] (.call 3),p3 93 97,qn 98 93 0,qn 99 93 1,p3 24 98,p3 25 99]) (.seq (q4 [p2 101 [.Bv 2] (.zH (.str 3)),p2 102 [.cv (.int .i64 0),.cv (.int .i64 2),.cv (.int .i64 1)] (.yE 3 1 [.int .i64 0] [0,1,2]),p2 103 [.cv (.func 28 [] []),.m_ 102] (.call 3),p2 104 [.cv (.func 21 [] []),.m_ 101,.m_ 103] (.call 3),p3 100 104,qn 105 100 0,qn 106 100 1,p3 26 105,p3 27 106]) (.seq (q4 [p2 108 [.Bv 1] (.zH (.str 3)),p2 109 [.cv (.int .i64 0),.cv (.int .i64 1),.cv (.int .i64 2)] (.yE 3 1 [.int .i64 0] [0,1,2]),p2 110 [.cv (.func 28 [] []),.m_ 109] (.call 3),p2 111 [.cv (.func 21 [] []),.m_ 108,.m_ 110] (.call 3),p3 107 111,qn 112 107 0,qn 113 107 1,p3 28 112,p3 29 113]) (p4 [p3 114 6,qw 115 114 0 .eql,p3 116 115,ch 117 [.jm 4] 116 true .mR,ch 118 [.Bv 117,.cv (.int .i64 9)] 116 true (.bin .eql),p2 119 [.Bv 116,.Bv 118,.cv (.bool false)] .pick,p3 120 119,ch 121 [.jm 5] 120 true .mR,ch 122 [.Bv 121,.cv (.int .i64 0)] 120 true (.bin .eql),p2 123 [.Bv 120,.Bv 122,.cv (.bool false)] .pick,p3 124 123,ch 125 [.jm 9] 124 true .mR,ch 126 [.Bv 125,.cv (.int .i64 0)] 124 true (.bin .eql),p2 127 [.Bv 124,.Bv 126,.cv (.bool false)] .pick,p3 128 127,ch 129 [.jm 7] 128 true .mR,ch 130 [.Bv 129,.cv (.int .i64 0)] 128 true (.bin .eql),p2 131 [.Bv 128,.Bv 130,.cv (.bool false)] .pick,p3 132 131,ch 133 [.jm 8] 132 true .mR,ch 134 [.Bv 133,.cv (.int .i64 0)] 132 true (.bin .eql),p2 135 [.Bv 132,.Bv 134,.cv (.bool false)] .pick,p3 136 135,ch 137 [.jm 11] 136 true .mR,ch 138 [.Bv 137,.cv (.int .i64 0)] 136 true (.bin .eql),p2 139 [.Bv 136,.Bv 138,.cv (.bool false)] .pick,p3 140 139,ch 141 [.jm 10] 140 true .mR,ch 142 [.Bv 141,.cv (.int .i64 2)] 140 true (.bin .eql),p2 143 [.Bv 140,.Bv 142,.cv (.bool false)] .pick,p3 144 143,ch 145 [.jm 13] 144 true .mR,ch 146 [.Bv 145,.cv (.int .i64 0)] 144 true (.bin .eql),p2 147 [.Bv 144,.Bv 146,.cv (.bool false)] .pick,p3 148 147,ch 149 [.jm 12] 148 true .mR,ch 150 [.Bv 149,.cv (.int .i64 4)] 148 true (.bin .eql),p2 151 [.Bv 148,.Bv 150,.cv (.bool false)] .pick,p3 152 151,ch 153 [.jm 15] 152 true .mR,ch 154 [.Bv 153,.cv (.int .i64 0)] 152 true (.bin .eql),p2 155 [.Bv 152,.Bv 154,.cv (.bool false)] .pick,p3 156 155,ch 157 [.jm 14] 156 true .mR,ch 158 [.Bv 157,.cv (.int .i64 0)] 156 true (.bin .eql),p2 159 [.Bv 156,.Bv 158,.cv (.bool false)] .pick,p3 160 159,ch 161 [.jm 17] 160 true .mR,ch 162 [.Bv 161,.cv (.int .i64 0)] 160 true (.bin .eql),p2 163 [.Bv 160,.Bv 162,.cv (.bool false)] .pick,p3 164 163,ch 165 [.jm 16] 164 true .mR,⟨some 166,[.cv (.int .i64 0),.cv (.int .i64 1),.cv (.int .i64 2)],some (164,true),none,.yE 3 1 [.int .i64 0] [0,1,2]⟩,⟨some 167,[.cv (.func 28 [] []),.m_ 166],some (164,true),none,.call 3⟩,⟨some 168,[.cv (.func 27 [] []),.m_ 165,.m_ 167],some (164,true),none,.call 3⟩,p2 169 [.Bv 164,.Bv 168,.cv (.bool false)] .pick,p3 170 169,ch 171 [.jm 19] 170 true .mR,ch 172 [.Bv 171,.cv (.int .i64 0)] 170 true (.bin .eql),p2 173 [.Bv 170,.Bv 172,.cv (.bool false)] .pick,p3 174 173,ch 175 [.jm 18] 174 true .mR,ch 176 [.Bv 175,.cv (.int .i64 2)] 174 true (.bin .eql),p2 177 [.Bv 174,.Bv 176,.cv (.bool false)] .pick,p3 178 177,ch 179 [.jm 21] 178 true .mR,ch 180 [.Bv 179,.cv (.int .i64 0)] 178 true (.bin .eql),p2 181 [.Bv 178,.Bv 180,.cv (.bool false)] .pick,p3 182 181,ch 183 [.jm 20] 182 true .mR,ch 184 [.Bv 183,.cv (.int .i64 0)] 182 true (.bin .eql),p2 185 [.Bv 182,.Bv 184,.cv (.bool false)] .pick,p3 186 185,ch 187 [.jm 23] 186 true .mR,ch 188 [.Bv 187,.cv (.int .i64 0)] 186 true (.bin .eql),p2 189 [.Bv 186,.Bv 188,.cv (.bool false)] .pick,p3 190 189,ch 191 [.jm 22] 190 true .mR,ch 192 [.Bv 191,.cv (.int .i64 1)] 190 true (.bin .eql),p2 193 [.Bv 190,.Bv 192,.cv (.bool false)] .pick,p3 194 193,ch 195 [.jm 25] 194 true .mR,ch 196 [.Bv 195,.cv (.int .i64 23)] 194 true (.bin .eql),p2 197 [.Bv 194,.Bv 196,.cv (.bool false)] .pick,p3 198 197,ch 199 [.jm 27] 198 true .mR,ch 200 [.Bv 199,.cv (.int .i64 0)] 198 true (.bin .eql),p2 201 [.Bv 198,.Bv 200,.cv (.bool false)] .pick,p3 202 201,ch 203 [.jm 26] 202 true .mR,ch 204 [.Bv 203,.cv (.int .i64 1)] 202 true (.bin .eql),p2 205 [.Bv 202,.Bv 204,.cv (.bool false)] .pick,p3 206 205,ch 207 [.jm 29] 206 true .mR,ch 208 [.Bv 207,.cv (.int .i64 0)] 206 true (.bin .eql),p2 209 [.Bv 206,.Bv 208,.cv (.bool false)] .pick,p3 210 209,ch 211 [.jm 28] 210 true .mR,ch 212 [.Bv 211,.cv (.int .i64 0)] 210 true (.bin .eql),p2 213 [.Bv 210,.Bv 212,.cv (.bool false)] .pick,p3 214 213,ch 215 [.Bv 3] 214 true (.zH (.str 3)),⟨some 216,[.cv (.func 16 [] []),.m_ 215],some (214,true),none,.call 3⟩,ch 217 [.Bv 216,.cv (.int .i64 0)] 214 true (.bin .eql),p2 218 [.Bv 214,.Bv 217,.cv (.bool false)] .pick,p3 219 218,⟨some 220,[.cv (.func 11 [] [])],some (219,true),none,.call 3⟩,p2 221 [.Bv 219,.Bv 220,.cv (.bool false)] .pick,p3 0 221] .ret))))))))))))))
theorem aeu:qt Try.prog UU 9=some (Z2,222,[.tmp 0]):=by kernel_rfl
def Qq  : Option Bool :=
 (OU).bind fun aS =>
 (OV).bind fun bh =>
 (OW).bind fun eH =>
 (Hl [(1:Int),(0:Int),(2:Int)]).bind fun qB =>
 (Iy aS qB (4:Int)).bind fun r5 =>
 (Hl [(0:Int),(1:Int),(2:Int)]).bind fun r6 =>
 (Iy aS r6 (4:Int)).bind fun r7 =>
 (Hl [(0:Int),(2:Int),(1:Int)]).bind fun HG =>
 (H_ bh HG).bind fun Hr =>
 (Hl [(1:Int),(0:Int),(2:Int),(3:Int),(4:Int)]).bind fun Hj =>
 (H_ eH Hj).bind fun I0 =>
 (Lw aS).bind fun Iu =>
 (K2 aS).bind fun Jc =>
 (JI aS).bind fun Jr =>
 (JI bh).bind fun Js =>
 (Hl [(0:Int),(2:Int),(1:Int)]).bind fun Lp =>
 (LJ (1:Int) (3:Int) (0:Int)).bind fun Lq =>
 (LI [Lq]).bind fun Kp =>
 (Ix bh Lp Kp).bind fun KX =>
 (Hl [(0:Int),(2:Int),(1:Int)]).bind fun Lr =>
 (Ix bh Lr []).bind fun Oh =>
 (Hl [(0:Int),(2:Int),(1:Int)]).bind fun Oi =>
 (Ii bh Oi).bind fun Nd =>
 (Hl [(0:Int),(1:Int),(2:Int)]).bind fun Oj =>
 (Ii aS Oj).bind fun Nf =>
 if (decide (r5.2.2=(0:Int)))=true then
  if (decide (r5.1=(9:Int)))=true then
   if (decide (r5.2.1=(0:Int)))=true then
    if (decide (r7.2.2=(0:Int)))=true then
     if (decide (r7.1=(0:Int)))=true then
      if (decide (r7.2.1=(0:Int)))=true then
       if (decide (Hr.2=(0:Int)))=true then
        if (decide (Hr.1=(2:Int)))=true then
         if (decide (I0.2=(0:Int)))=true then
          if (decide (I0.1=(4:Int)))=true then
           if (decide (Iu.2=(0:Int)))=true then
            if (decide (Iu.1=(0:Int)))=true then
             if (decide (Jc.2=(0:Int)))=true then
              (Hl [(0:Int),(1:Int),(2:Int)]).bind fun Ol =>
              (Ml Jc.1 Ol).bind fun Ng =>
              if Ng=true then
               if (decide (Jr.2=(0:Int)))=true then
                if (decide (Jr.1=(2:Int)))=true then
                 if (decide (Js.2=(0:Int)))=true then
                  if (decide (Js.1=(0:Int)))=true then
                   if (decide (KX.2=(0:Int)))=true then
                    if (decide (KX.1=(1:Int)))=true then
                     if (decide (Oh.2=(23:Int)))=true then
                      if (decide (Nd.2=(0:Int)))=true then
                       if (decide (Nd.1=(1:Int)))=true then
                        if (decide (Nf.2=(0:Int)))=true then
                         if (decide (Nf.1=(0:Int)))=true then
                          (LR eH).bind fun Nh =>
                          if (decide (Nh=(0:Int)))=true then
                           (rI).bind fun Om =>
                           some Om
                          else
                           some false
                         else
                          some false
                        else
                         some false
                       else
                        some false
                      else
                       some false
                     else
                      some false
                    else
                     some false
                   else
                    some false
                  else
                   some false
                 else
                  some false
                else
                 some false
               else
                some false
              else
               some false
             else
              some false
            else
             some false
           else
            some false
          else
           some false
         else
          some false
        else
         some false
       else
        some false
      else
       some false
     else
      some false
    else
     some false
   else
    some false
  else
   some false
 else
  some false
theorem ah4  {v:Bool} (h:Qq  = some v):qy 9 [] (B v):=by
 refine qQ eD aeu rfl rfl fun Q bo=>?_;have jG:qL [.tmp 0] Q (fun v=>(B v)) v:=fun T H bD=>bo _ T H bD;unfold Qq at h;unfold Z2;conv=>whnf
 obtain ⟨aS,gJ,h⟩:=p9 h;refine ⟨rfl,_,Zq gJ,?_⟩;conv=>whnf
 obtain ⟨bh,gK,h⟩:=p9 h;refine ⟨rfl,_,Zs gK,?_⟩;conv=>whnf
 obtain ⟨eH,qu,h⟩:=p9 h;refine ⟨rfl,_,Zu qu,?_⟩;conv=>whnf
 obtain ⟨qB,qH,h⟩:=p9 h;refine ⟨(p6 rfl rfl),_,HH qH,rD,?_⟩;conv=>whnf
 obtain ⟨r5,qU,h⟩:=p9 h;refine ⟨qb.pl,_,Mq qU,rY rfl,?_⟩;conv=>whnf
 obtain ⟨r6,ru,h⟩:=p9 h;refine ⟨(p6 rfl rfl),_,HH ru,rD,?_⟩;conv=>whnf
 obtain ⟨r7,qS,h⟩:=p9 h;refine ⟨qb.pl,_,Mq qS,rY rfl,?_⟩;conv=>whnf
 obtain ⟨HG,rH,h⟩:=p9 h;refine ⟨(p6 rfl rfl),_,HH rH,rD,?_⟩;conv=>whnf
 obtain ⟨Hr,ra,h⟩:=p9 h;refine ⟨qb.pl,_,K4 ra,rY rfl,?_⟩;conv=>whnf
 obtain ⟨Hj,rq,h⟩:=p9 h;refine ⟨(p6 rfl rfl),_,HH rq,rD,?_⟩;conv=>whnf
 obtain ⟨I0,r8,h⟩:=p9 h;refine ⟨qb.pl,_,K4 r8,rY rfl,?_⟩;conv=>whnf
 obtain ⟨Iu,sa,h⟩:=p9 h;refine ⟨qb.pl,_,Zj sa,?_⟩;conv=>whnf
 obtain ⟨Jc,Hp,h⟩:=p9 h;refine ⟨qb.pl,_,Ts Hp,?_⟩;conv=>whnf
 obtain ⟨Jr,Ie,h⟩:=p9 h;refine ⟨qb.pl,_,OO Ie,?_⟩;conv=>whnf
 obtain ⟨Js,Hq,h⟩:=p9 h;refine ⟨qb.pl,_,OO Hq,?_⟩;conv=>whnf
 obtain ⟨Lp,H4,h⟩:=p9 h;refine ⟨(p6 rfl rfl),_,HH H4,rD,?_⟩;conv=>whnf
 obtain ⟨Lq,Io,h⟩:=p9 h;refine ⟨(p6 rfl (p6 rfl (p6 rfl rfl))),_,Qx Io,rY rfl,?_⟩;conv=>whnf
 obtain ⟨Kp,IK,h⟩:=p9 h;refine ⟨(p6 rfl rfl),_,Qw IK,rY rfl,?_⟩;conv=>whnf
 obtain ⟨KX,H5,h⟩:=p9 h;refine ⟨qb.pl,_,Ly H5,rY rfl,?_⟩;conv=>whnf
 obtain ⟨Lr,H6,h⟩:=p9 h;refine ⟨(p6 rfl rfl),_,HH H6,rD,?_⟩;conv=>whnf
 obtain ⟨Oh,Ip,h⟩:=p9 h;refine ⟨qb.pl,_,Ly Ip,rY rfl,?_⟩;conv=>whnf
 obtain ⟨Oi,IL,h⟩:=p9 h;refine ⟨(p6 rfl rfl),_,HH IL,rD,?_⟩;conv=>whnf
 obtain ⟨Nd,IM,h⟩:=p9 h;refine ⟨qb.pl,_,LD IM,rY rfl,?_⟩;conv=>whnf
 obtain ⟨Oj,JA,h⟩:=p9 h;refine ⟨(p6 rfl rfl),_,HH JA,rD,?_⟩;conv=>whnf
 obtain ⟨Nf,IP,h⟩:=p9 h;refine ⟨qb.pl,_,LD IP,rY rfl,?_⟩;conv=>whnf
 refine bs h (fun IQ h=>?_) fun IQ h=>?_
 ·rw [IQ];conv=>whnf
  refine bs h (fun Iq h=>?_) fun Iq h=>?_
  ·rw [Iq];(conv=>whnf);refine bs h (fun IU h=>?_) fun IU h=>?_
   ·rw [IU];(conv=>whnf);refine bs h (fun JS h=>?_) fun JS h=>?_
    ·rw [JS];(conv=>whnf);refine bs h (fun Jk h=>?_) fun Jk h=>?_
     ·rw [Jk];(conv=>whnf);refine bs h (fun JT h=>?_) fun JT h=>?_
      ·rw [JT];(conv=>whnf);refine bs h (fun Jl h=>?_) fun Jl h=>?_
       ·rw [Jl];(conv=>whnf);refine bs h (fun IV h=>?_) fun IV h=>?_
        ·rw [IV];(conv=>whnf);refine bs h (fun JU h=>?_) fun JU h=>?_
         ·rw [JU];(conv=>whnf);refine bs h (fun JV h=>?_) fun JV h=>?_
          ·rw [JV];(conv=>whnf);refine bs h (fun KA h=>?_) fun KA h=>?_
           ·rw [KA];(conv=>whnf);refine bs h (fun KB h=>?_) fun KB h=>?_
            ·rw [KB];(conv=>whnf);refine bs h (fun JW h=>?_) fun JW h=>?_
             ·rw [JW];(conv=>whnf);obtain ⟨Ol,KC,h⟩:=p9 h;refine ⟨(p6 rfl rfl),_,HH KC,?_⟩;(conv=>whnf);obtain ⟨Ng,KD,h⟩:=p9 h;refine ⟨qb.pl,_,Tt KD,?_⟩;(conv=>whnf);cases Ng
              ·(conv=>whnf);replace h:=rK rfl h;exact p_ h jG rfl rfl
              ·(conv=>whnf);replace h:=rJ rfl h;refine bs h (fun KE h=>?_) fun KE h=>?_
               ·rw [KE];(conv=>whnf);refine bs h (fun KF h=>?_) fun KF h=>?_
                ·rw [KF];(conv=>whnf);refine bs h (fun KG h=>?_) fun KG h=>?_
                 ·rw [KG];(conv=>whnf);refine bs h (fun KH h=>?_) fun KH h=>?_
                  ·rw [KH];(conv=>whnf);refine bs h (fun KI h=>?_) fun KI h=>?_
                   ·rw [KI];(conv=>whnf);refine bs h (fun L5 h=>?_) fun L5 h=>?_
                    ·rw [L5];(conv=>whnf);refine bs h (fun KJ h=>?_) fun KJ h=>?_
                     ·rw [KJ];(conv=>whnf);refine bs h (fun KK h=>?_) fun KK h=>?_
                      ·rw [KK];(conv=>whnf);refine bs h (fun KL h=>?_) fun KL h=>?_
                       ·rw [KL];(conv=>whnf);refine bs h (fun KM h=>?_) fun KM h=>?_
                        ·rw [KM];(conv=>whnf);refine bs h (fun N3 h=>?_) fun N3 h=>?_
                         ·rw [N3];(conv=>whnf);obtain ⟨Nh,RQ,h⟩:=p9 h;refine ⟨qb.pl,_,My RQ,?_⟩;(conv=>whnf);refine bs h (fun L6 h=>?_) fun L6 h=>?_
                          ·rw [L6];(conv=>whnf);obtain ⟨Om,N4,h⟩:=p9 h;refine ⟨rfl,_,r9 N4,?_⟩;(conv=>whnf);exact p_ h jG rfl rfl
                          ·rw [L6];(conv=>whnf);exact p_ h jG rfl rfl
                         ·rw [N3];(conv=>whnf);exact p_ h jG rfl rfl
                        ·rw [KM];(conv=>whnf);exact p_ h jG rfl rfl
                       ·rw [KL];(conv=>whnf);exact p_ h jG rfl rfl
                      ·rw [KK];(conv=>whnf);exact p_ h jG rfl rfl
                     ·rw [KJ];(conv=>whnf);exact p_ h jG rfl rfl
                    ·rw [L5];(conv=>whnf);exact p_ h jG rfl rfl
                   ·rw [KI];(conv=>whnf);exact p_ h jG rfl rfl
                  ·rw [KH];(conv=>whnf);exact p_ h jG rfl rfl
                 ·rw [KG];(conv=>whnf);exact p_ h jG rfl rfl
                ·rw [KF];(conv=>whnf);exact p_ h jG rfl rfl
               ·rw [KE];(conv=>whnf);exact p_ h jG rfl rfl
             ·rw [JW];(conv=>whnf);exact p_ h jG rfl rfl
            ·rw [KB];(conv=>whnf);exact p_ h jG rfl rfl
           ·rw [KA];(conv=>whnf);exact p_ h jG rfl rfl
          ·rw [JV];(conv=>whnf);exact p_ h jG rfl rfl
         ·rw [JU];(conv=>whnf);exact p_ h jG rfl rfl
        ·rw [IV];(conv=>whnf);exact p_ h jG rfl rfl
       ·rw [Jl];(conv=>whnf);exact p_ h jG rfl rfl
      ·rw [JT];(conv=>whnf);exact p_ h jG rfl rfl
     ·rw [Jk];(conv=>whnf);exact p_ h jG rfl rfl
    ·rw [JS];(conv=>whnf);exact p_ h jG rfl rfl
   ·rw [IU];(conv=>whnf);exact p_ h jG rfl rfl
  ·rw [Iq];(conv=>whnf);exact p_ h jG rfl rfl
 ·rw [IQ];conv=>whnf
  exact p_ h jG rfl rfl
end Go.Proofs.Ytkoioidpbbbaiaa.Ab


namespace Go.Proofs.Ytkoioidpbbbaiaa.Ab
open Go
set_option maxRecDepth 20000
set_option maxHeartbeats 1000000
section
variable {p:qd} {o:List Int}
theorem ah7 (aB:p.1.length≤1000) (ao:o.length≤12) (d:Int):OQ p o d=Iy p o d:=by
 rw [Mp aB ao];unfold OQ;rw [TC aB (by omega),sc,sc];by_cases h:rN p o=0
 ·obtain ⟨ab,ae⟩:=KU.1 h;have hle:=ab.le;have bC:=ab.lo;have GU:=ab.hi;rw [if_neg (by simpa using h),if_pos h];by_cases Pu:d<p.2.1
  ·rw [if_pos (decide_eq_true Pu),if_neg (by omega)]
  ·rw [if_neg (by simpa using Pu)];by_cases Pv:p.2.2<d
   ·rw [if_pos (decide_eq_true Pv),if_neg (by omega)]
   ·rw [if_neg (by simpa using Pv),if_pos (by omega)];have f_:=QB ab ae (d:=d) (by omega) (a:=0);have e1:=QB ab ae (d:=d) (by omega) (a:=1);have RA:Kd p o d 0=_:=f_;have RB:Kd p o d 1=_:=e1;rw [RA,sc,RB,sc]
 ·rw [if_pos (by simpa using h),if_neg h]
theorem ah9 (aB:p.1.length≤1000) (ao:o.length≤12):OS p o=H_ p o:=by
 rw [LH aB ao];unfold OS;rw [TC aB (by omega),sc,sc];by_cases h:rN p o=0
 ·obtain ⟨ab,ae⟩:=KU.1 h;rw [if_neg (by simpa using h),if_pos h,Zv ab ae,sc]
 ·rw [if_pos (by simpa using h),if_neg h]
theorem ahR (p:qd) (o:List Int) (d:Int):Ql p o d=some true:=by
 unfold Ql Ny;rw [sc];by_cases dk:(10:Int)<(p.1.length:Int)
 ·rw [if_pos (decide_eq_true dk),works];rfl
 rw [if_neg (by simpa using dk)];by_cases fl:(10:Int)<(o.length:Int)
 ·rw [if_pos (decide_eq_true fl),works];rfl
 rw [if_neg (by simpa using fl),ah7 (by omega) (by omega),ah9 (by omega) (by omega),Mp (by omega) (by omega),sc,sc,LH (by omega) (by omega),sc,sc,QC (by omega),sc,TA (by omega),sc];rw [if_pos (decide_eq_true rfl),if_pos (decide_eq_true rfl),if_pos (decide_eq_true rfl),if_pos (decide_eq_true rfl),if_pos (decide_eq_true rfl),if_pos (decide_eq_true rfl),works];rfl
end
theorem adu:Iy JE [1,0,2] 4=some (9,0,0):=by
 rw [Mp (by decide) (by decide)];decide +kernel
theorem adv:Iy JE [0,1,2] 4=some (0,0,0):=by
 rw [Mp (by decide) (by decide)];decide +kernel
theorem ads:H_ r_ [0,2,1]=some (2,0):=by
 rw [LH (by decide) (by decide)];decide +kernel
theorem adt:H_ Lo [1,0,2,3,4]=some (4,0):=by
 rw [LH (by decide) (by decide)];decide +kernel
theorem adk:Lw JE=some (0,0):=by
 rw [Zi (by decide)];decide +kernel
theorem adl:K2 JE=some ([0,1,2],0):=by
 rw [Tr (by decide)];decide +kernel
theorem adm:JI JE=some (2,0):=by
 rw [OM (by decide)];decide +kernel
theorem adn:JI r_=some (0,0):=by
 rw [OM (by decide)];decide +kernel
theorem ado:Ix r_ [0,2,1] [(1,(3,0))]=some (1,0):=by
 rw [Lx (by decide) (by decide) (by decide)];decide +kernel
theorem adp:Ix r_ [0,2,1] []=some (0,23):=by
 rw [Lx (by decide) (by decide) (by decide)];decide +kernel
theorem adq:Ii r_ [0,2,1]=some (1,0):=by
 unfold Ii;obtain ⟨l,ab,ae⟩:=NA (p:=r_) (o:=[0,2,1]) (by decide) (by decide);have rv:rN r_ [0,2,1]=0:=by decide +kernel
 rw [if_pos rv] at ab;rw [ab,sc,(ae rv).1,Pn (i:=0) (t:=1015) (by decide +kernel) (by decide) (by decide) (by decide) (by decide +kernel),MO (by decide +kernel)];rfl
theorem adr:Ii JE [0,1,2]=some (0,0):=by
 unfold Ii;obtain ⟨l,ab,ae⟩:=NA (p:=JE) (o:=[0,1,2]) (by decide) (by decide);have rv:rN JE [0,1,2]=0:=by decide +kernel
 rw [if_pos rv] at ab;rw [ab,sc,(ae rv).1,MO (by decide +kernel),MO (by decide +kernel)];rfl
theorem adw:LR Lo=some 0:=by
 rw [QC (by decide)];decide +kernel
theorem ah5:Qq=some true:=by
 unfold Qq;simp only [Zp,Zr,Zt,Hl,LI,LJ,sc,adu,adv,ads,adt,adk,adl,adm,adn,ado,adp,adq,adr,Ze,adw,works];simp only [decide_eq_true_eq,if_true]
theorem ab4 (p:qd) (o:List Int) (d:Int):qy 3 [Of p,.av (o.map hX) o.length .shared,hX d] (B true):=ahQ (ahR p o d)
theorem ab2:qy 9 [] (B true):=ah4 ah5
end Go.Proofs.Ytkoioidpbbbaiaa.Ab


namespace Go.Proofs.Ytkoioidpbbbaiaa.Ab
open Go
set_option maxRecDepth 100000
set_option maxHeartbeats 4000000
noncomputable def QL:gB :=
 .loop (some (qc false [2,2,3,3,161])) (.seq (p4 [p5 44 9,qw 45 44 0 .geq] (.cond (.m_ 45) .skip (.exit 0))) (.seq (.block 1 (qR [p3 48 8,p5 49 7,p5 50 9,rk 51 49 50 1,qj 52 51,p2 53 [.Bv 52] (.yE 1 1 [.int .i64 0] [0]),p2 54 [.jm 48,.jm 53] (.app 1 8),p3 8 54])) (qR [p3 46 9,qw 47 46 1 .sub,p3 9 47])))
noncomputable def ZY:gB :=
 p4 [p2 3 [.jm 0] .box,p2 6 [.cv (.bool false)] .mR] (.seq (p4 [p2 27 [.m_ 3] (.zH (.str 3)),p2 28 [.cv (.func 18 [] []),.m_ 27] (.call 3),p2 29 [.Bv 28] (.un .not),p3 30 29,ch 31 [.m_ 1] 30 false .mR,ch 32 [.jm 31] 30 false .zM,ch 33 [.Bv 32,.cv (.int .i64 20)] 30 false (.bin .gtr),p2 34 [.Bv 30,.cv (.bool true),.Bv 33] .pick] (.cond (.m_ 34) (p4 [p2 35 [.cv (.func 11 [] [])] (.call 3),p3 6 35] .ret) .skip)) (p4 [p2 36 [.m_ 3] (.yP 0),qj 37 36,qZ 38 37,p3 39 1,p2 40 [.cv (.func 19 [] []),.m_ 38,.m_ 39] (.call 3),p3 7 40] (p4 [p2 8 [.cv (.av [] 0 .full)] (.nil 1)] (.seq (p4 [p5 41 7,qZ 42 41,qw 43 42 1 .sub,p3 9 43] (.block 0 QL)) (.seq (q4 [p2 55 [.m_ 3] (.yP 1),qG 56 55 0,qj 57 56,p3 58 2,p2 59 [.Bv 58] (.conv .i64),p2 60 [.m_ 3] (.yP 1),qG 61 60 1,qj 62 61,p2 63 [.m_ 3] (.yP 1),qG 64 63 0,qj 65 64,qv 66 62 65 .sub,qY 67 66 1,qv 68 59 67 .rem,qv 69 57 68 .add,p3 10 69]) (p4 [p2 71 [.m_ 3] (.zH (.str 3)),p5 72 7,p5 73 10,p2 74 [.cv (.func 12 [] []),.m_ 71,.m_ 72,.m_ 73] (.call 3),p3 70 74,qn 75 70 0,qn 76 70 1,p2 77 [.Bv 70] (.ext 2),p3 11 75,p3 12 76,p3 13 77] (p4 [p2 79 [.m_ 3] (.zH (.str 3)),p5 80 8,p3 81 10,p2 82 [.cv (.func 12 [] []),.m_ 79,.m_ 80,.m_ 81] (.call 3),p3 78 82,qn 83 78 0,qn 84 78 1,p2 85 [.Bv 78] (.ext 2),p3 14 83,p3 15 84,p3 16 85] (p4 [p2 87 [.m_ 3] (.zH (.str 3)),p5 88 7,p2 89 [.cv (.func 14 [] []),.m_ 87,.m_ 88] (.call 3),p3 86 89,qn 90 86 0,p2 91 [.Bv 86] (.ext 1),p3 17 90,p3 18 91] (p4 [p2 93 [.m_ 3] (.zH (.str 3)),p5 94 8,p2 95 [.cv (.func 14 [] []),.m_ 93,.m_ 94] (.call 3),p3 92 95,qn 96 92 0,p2 97 [.Bv 92] (.ext 1),p3 19 96,p3 20 97] (p4 [p2 99 [.m_ 3] (.zH (.str 3)),p2 100 [.cv (.func 20 [] []),.m_ 99] (.call 3),p3 98 100,qn 101 98 0,p2 102 [.Bv 98] (.ext 1),p3 21 101,p3 22 102] (p4 [p2 104 [.m_ 3] (.zH (.str 3)),p3 105 7,p2 106 [.cv (.func 21 [] []),.m_ 104,.m_ 105] (.call 3),p3 103 106,qn 107 103 0,p2 108 [.Bv 103] (.ext 1),p3 23 107,p3 24 108] (p4 [p2 110 [.Bv 3] (.zH (.str 3)),p3 111 8,p2 112 [.cv (.func 21 [] []),.m_ 110,.m_ 111] (.call 3),p3 109 112,qn 113 109 0,p2 114 [.Bv 109] (.ext 1),p3 25 113,p3 26 114] (p4 [p3 115 13,qw 116 115 0 .eql,p3 117 116,ch 118 [.jm 16] 117 true .mR,ch 119 [.Bv 118,.cv (.int .i64 0)] 117 true (.bin .eql),p2 120 [.Bv 117,.Bv 119,.cv (.bool false)] .pick,p3 121 120,ch 122 [.jm 11] 121 true .mR,ch 123 [.jm 14] 121 true .mR,ch 124 [.Bv 123] 121 true (.un .neg),ch 125 [.Bv 122,.Bv 124] 121 true (.bin .eql),p2 126 [.Bv 121,.Bv 125,.cv (.bool false)] .pick,p3 127 126,ch 128 [.jm 12] 127 true .mR,ch 129 [.jm 15] 127 true .mR,ch 130 [.Bv 129] 127 true (.un .neg),ch 131 [.Bv 128,.Bv 130] 127 true (.bin .eql),p2 132 [.Bv 127,.Bv 131,.cv (.bool false)] .pick,p3 133 132,ch 134 [.jm 18] 133 true .mR,ch 135 [.Bv 134,.cv (.int .i64 0)] 133 true (.bin .eql),p2 136 [.Bv 133,.Bv 135,.cv (.bool false)] .pick,p3 137 136,ch 138 [.jm 20] 137 true .mR,ch 139 [.Bv 138,.cv (.int .i64 0)] 137 true (.bin .eql),p2 140 [.Bv 137,.Bv 139,.cv (.bool false)] .pick,p3 141 140,ch 142 [.jm 17] 141 true .mR,ch 143 [.jm 19] 141 true .mR,ch 144 [.Bv 142,.Bv 143] 141 true (.bin .eql),p2 145 [.Bv 141,.Bv 144,.cv (.bool false)] .pick,p3 146 145,ch 147 [.jm 22] 146 true .mR,ch 148 [.Bv 147,.cv (.int .i64 0)] 146 true (.bin .eql),p2 149 [.Bv 146,.Bv 148,.cv (.bool false)] .pick,p3 150 149,ch 151 [.jm 21] 150 true .mR,ch 152 [.Bv 151,.cv (.int .i64 2)] 150 true (.bin .rem),ch 153 [.Bv 152,.cv (.int .i64 0)] 150 true (.bin .eql),p2 154 [.Bv 150,.Bv 153,.cv (.bool false)] .pick,p3 155 154,ch 156 [.jm 24] 155 true .mR,ch 157 [.Bv 156,.cv (.int .i64 0)] 155 true (.bin .eql),p2 158 [.Bv 155,.Bv 157,.cv (.bool false)] .pick,p3 159 158,ch 160 [.jm 26] 159 true .mR,ch 161 [.Bv 160,.cv (.int .i64 0)] 159 true (.bin .eql),p2 162 [.Bv 159,.Bv 161,.cv (.bool false)] .pick,p3 163 162,ch 164 [.jm 23] 163 true .mR,ch 165 [.jm 25] 163 true .mR,ch 166 [.Bv 164,.Bv 165] 163 true (.bin .eql),p2 167 [.Bv 163,.Bv 166,.cv (.bool false)] .pick,p3 168 167,⟨some 169,[.cv (.func 11 [] [])],some (168,true),none,.call 3⟩,p2 170 [.Bv 168,.Bv 169,.cv (.bool false)] .pick,p3 6 170] .ret)))))))))))))
theorem aeq:qt Try.prog Rg 4=some (ZY,171,[.tmp 6]):=by kernel_rfl
def LA (eH:qa) (qf:qa→Option Bool):Nat→qa→Int→Option Bool
 | 0,_,_=>none
 | m+1,s1,s2 =>
   if (decide ((0:Int)≤s2))=true then
    qx (0≤s2∧s2<(eH.length:Int)) <|
    qx ((s1.length+1)*8≤140737488355328) <|
    LA eH qf m (s1++[(ix eH s2)]) (w (s2-(1:Int)))
   else
    qf s1
def Qm (p:(qk×(Int×Int))) (qJ:qa) (number:Int):Option Bool :=
 (LF p).bind fun aS =>
 if aS=true then
  if (decide ((20:Int)<(qJ.length:Int)))=true then
   (rI).bind fun bh =>
   some bh
  else
   (LG (p.1.length:Int) qJ).bind fun eH =>
   LA eH (fun yq =>
     qx ((w ((w (p.2.2-p.2.1))+(1:Int)))≠0) <|
     (Iy p eH (w (p.2.1+((w number).tmod (w ((w (p.2.2-p.2.1))+(1:Int))))))).bind fun qB =>
     (Iy p yq (w (p.2.1+((w number).tmod (w ((w (p.2.2-p.2.1))+(1:Int))))))).bind fun r5 =>
     (H_ p eH).bind fun r6 =>
     (H_ p yq).bind fun r7 =>
     (JI p).bind fun HG =>
     (Ii p eH).bind fun Hr =>
     (Ii p yq).bind fun Hj =>
     if (decide (qB.2.2=(0:Int)))=true then
      if (decide (r5.2.2=(0:Int)))=true then
       if (decide (qB.1=(w (-r5.1))))=true then
        if (decide (qB.2.1=(w (-r5.2.1))))=true then
         if (decide (r6.2=(0:Int)))=true then
          if (decide (r7.2=(0:Int)))=true then
           if (decide (r6.1=r7.1))=true then
            if (decide (HG.2=(0:Int)))=true then
             qx ((2:Int)≠0) <|
             if (decide ((HG.1.tmod (2:Int))=(0:Int)))=true then
              if (decide (Hr.2=(0:Int)))=true then
               if (decide (Hj.2=(0:Int)))=true then
                if (decide (Hr.1=Hj.1))=true then
                 (rI).bind fun I0 =>
                 some I0
                else
                 some false
               else
                some false
              else
               some false
             else
              some false
            else
             some false
           else
            some false
          else
           some false
         else
          some false
        else
         some false
       else
        some false
      else
       some false
     else
      some false) ql ([]:List Int) (w ((eH.length:Int)-(1:Int)))
 else
  (rI).bind fun Iu =>
  some Iu
theorem ahS {eH:qa} {qf:qa→Option Bool} {s1:qa} {s2:Int} {p:(qk×(Int×Int))} {number:Int} {v:Bool} {Q:Hm}   (rm:∀ (yq:qa) (qe:List I),qf yq=some v→rr 171 [(2,(Hz number)),(3,(.ptr 0 0)),(7,(qF eH .shared)),(8,(qF yq (.uniq 1)))] qe→Q (.exit 0) qe [ar.cells [(q6 p.1 .shared),(hX p.2.1),(hX p.2.2)]]) {T:List I} (bZ:eW (qc false [2,2,3,3,161]) T=qh 171 [(2,(Hz number)),(3,(.ptr 0 0)),(7,(qF eH .shared)),(8,(qF s1 (.uniq 1))),(9,(hX s2))]) (h:LA eH qf ql s1 s2=some v) :
  dN Try.prog Rg 4 0 none QL T [ar.cells [(q6 p.1 .shared),(hX p.2.1),(hX p.2.2)]] Q:=by
 unfold QL;refine wp_loop bZ ?_;refine .intro (fun m T H=>∃ (s1:qa) (s2:Int),T=qh 171 [(2,(Hz number)),(3,(.ptr 0 0)),(7,(qF eH .shared)),(8,(qF s1 (.uniq 1))),(9,(hX s2))]∧H=[ar.cells [(q6 p.1 .shared),(hX p.2.1),(hX p.2.2)]]∧LA eH qf m s1 s2=some v) ql ⟨s1,s2,rfl,rfl,h⟩ ?_;clear h bZ;rintro m T H ⟨s1,s2,rfl,rfl,h⟩;cases m
 ·exact r3 h
 rename_i m;rw [LA.eq_2] at h;conv=>whnf
 refine bs h (fun qU h=>?_) fun qU h=>?_
 ·rw [qU];conv=>whnf
  refine qN h id fun ru h=>?_;rw [rh hX eH s2 ru];conv=>whnf
  obtain ⟨qS,h⟩:=rZ h;refine ⟨by first | rfl | simp,by have:=qS;omega,rfl,qS,?_⟩
  erw [Rr hX s1 (ix eH s2)];conv=>whnf
  exact ⟨m,sC m,(s1++[(ix eH s2)]),(w (s2-(1:Int))),rfl,rfl,h⟩
 ·rw [qU];conv=>whnf
  exact rm _ _ h ⟨rfl,rfl⟩
theorem ahT {p:(qk×(Int×Int))} {qJ:qa} {number:Int} {v:Bool} (h:Qm p qJ number=some v):qy 4 [(.agg [(.av (p.1.flatMap p') p.1.length .shared),(hX p.2.1),(hX p.2.2)]),(.av (qJ.map Hz) qJ.length .shared),(Hz number)] (B v):=by
 refine qQ eD aeq rfl rfl fun Q bo=>?_;have jG:qL [.tmp 6] Q (fun v=>(B v)) v:=fun T H bD=>bo _ T H bD;unfold Qm at h;unfold ZY;obtain ⟨HN,qI⟩:∃ c,QL=c:=⟨_,rfl⟩;rw [qI];conv=>whnf
 obtain ⟨aS,gJ,h⟩:=p9 h;refine ⟨qb.pl,_,Qt gJ,?_⟩;conv=>whnf
 cases aS
 ·conv=>whnf
  replace h:=rK rfl h;obtain ⟨Iu,Jk,h⟩:=p9 h;refine ⟨rfl,_,r9 Jk,?_⟩;conv=>whnf
  exact p_ h jG rfl rfl
 ·conv=>whnf
  replace h:=rJ rfl h;refine bs h (fun gK h=>?_) fun gK h=>?_
  ·rw [gK];(conv=>whnf);obtain ⟨bh,qu,h⟩:=p9 h;refine ⟨rfl,_,r9 qu,?_⟩;(conv=>whnf);exact p_ h jG rfl rfl
  ·rw [gK];(conv=>whnf);obtain ⟨eH,qH,h⟩:=p9 h;refine ⟨qb.pl,_,Qv qH,?_⟩;(conv=>whnf);subst qI;refine ahS ?_ (by exact rfl) h;intro yq qe h qA;obtain ⟨rn,rfl⟩:=qA.ex;(conv=>whnf);refine qN h id fun rH h=>?_;(conv=>whnf);obtain ⟨qB,ra,h⟩:=p9 h;refine ⟨qb.pl,_,Mq ra,?_⟩;(conv=>whnf);obtain ⟨r5,rq,h⟩:=p9 h;refine ⟨qb.pl,_,Mq rq,?_⟩;(conv=>whnf);obtain ⟨r6,r8,h⟩:=p9 h;refine ⟨qb.pl,_,K4 r8,?_⟩;(conv=>whnf);obtain ⟨r7,sa,h⟩:=p9 h;refine ⟨qb.pl,_,K4 sa,?_⟩;(conv=>whnf);obtain ⟨HG,Hp,h⟩:=p9 h;refine ⟨qb.pl,_,OO Hp,?_⟩;(conv=>whnf);obtain ⟨Hr,Ie,h⟩:=p9 h;refine ⟨qb.pl,_,LD Ie,?_⟩;(conv=>whnf);obtain ⟨Hj,Hq,h⟩:=p9 h;refine ⟨qb.pl,_,LD Hq,?_⟩;(conv=>whnf);refine bs h (fun H4 h=>?_) fun H4 h=>?_
   ·rw [H4];(conv=>whnf);refine bs h (fun Io h=>?_) fun Io h=>?_
    ·rw [Io];(conv=>whnf);refine bs h (fun IK h=>?_) fun IK h=>?_
     ·rw [IK];(conv=>whnf);refine bs h (fun H5 h=>?_) fun H5 h=>?_
      ·rw [H5];(conv=>whnf);refine bs h (fun H6 h=>?_) fun H6 h=>?_
       ·rw [H6];(conv=>whnf);refine bs h (fun Ip h=>?_) fun Ip h=>?_
        ·rw [Ip];(conv=>whnf);refine bs h (fun IL h=>?_) fun IL h=>?_
         ·rw [IL];(conv=>whnf);refine bs h (fun IM h=>?_) fun IM h=>?_
          ·rw [IM];(conv=>whnf);refine qN h id fun JA h=>?_;(conv=>whnf);refine bs h (fun IP h=>?_) fun IP h=>?_
           ·rw [IP];(conv=>whnf);refine bs h (fun IQ h=>?_) fun IQ h=>?_
            ·rw [IQ];(conv=>whnf);refine bs h (fun Iq h=>?_) fun Iq h=>?_
             ·rw [Iq];(conv=>whnf);refine bs h (fun IU h=>?_) fun IU h=>?_
              ·rw [IU];(conv=>whnf);obtain ⟨I0,JS,h⟩:=p9 h;refine ⟨rfl,_,r9 JS,?_⟩;(conv=>whnf);exact p_ h jG rfl rfl
              ·rw [IU];(conv=>whnf);exact p_ h jG rfl rfl
             ·rw [Iq];(conv=>whnf);exact p_ h jG rfl rfl
            ·rw [IQ];(conv=>whnf);exact p_ h jG rfl rfl
           ·rw [IP];(conv=>whnf);exact p_ h jG rfl rfl
          ·rw [IM];(conv=>whnf);exact p_ h jG rfl rfl
         ·rw [IL];(conv=>whnf);exact p_ h jG rfl rfl
        ·rw [Ip];(conv=>whnf);exact p_ h jG rfl rfl
       ·rw [H6];(conv=>whnf);exact p_ h jG rfl rfl
      ·rw [H5];(conv=>whnf);exact p_ h jG rfl rfl
     ·rw [IK];(conv=>whnf);exact p_ h jG rfl rfl
    ·rw [Io];(conv=>whnf);exact p_ h jG rfl rfl
   ·rw [H4];(conv=>whnf);exact p_ h jG rfl rfl
end Go.Proofs.Ytkoioidpbbbaiaa.Ab


namespace Go.Proofs.Ytkoioidpbbbaiaa.Ab
open Go
set_option maxRecDepth 20000
set_option maxHeartbeats 1000000
theorem WJ:∀ (n:Nat) (left:List Int),left.Nodup→(q' n left).Nodup
 | 0,left,_=>by simp [q']
 | n+1,left,h=>by
   unfold q';refine List.pairwise_flatMap.2 ⟨fun x aj=>?_,?_⟩
   ·refine List.pairwise_map.2 ((WJ n (left.erase x) (h.erase x)).imp fun {a b} jI e=>jI ?_);injection e
   ·refine h.imp fun {x y} N6 u hu v ad e=>?_;obtain ⟨a,_,rfl⟩:=sD.1 hu;obtain ⟨b,_,rfl⟩:=sD.1 ad;injection e with e1 _;exact N6 e1
theorem Vg {α:Type} [DecidableEq α] (f:α→α):∀ (n:Nat) (l:List α),l.length≤n→l.Nodup→(∀ x∈l,f x∈l∧f (f x)=x∧f x≠x)→l.length % 2=0
 | 0,l,h,_,_=>by omega
 | n+1,[],_,_,_=>rfl
 | n+1,x::r,h,aI,aP=>by
   obtain ⟨ab,ae⟩:=List.nodup_cons.1 aI;obtain ⟨aJ,aN,b'⟩:=aP x (by simp);have hm:f x∈r:=by
    rcases sB.1 aJ with e | e
    ·exact absurd e b'
    ·exact e
   have ao:=tE hm;have R6:=List.length_pos_of_mem hm;rw [List.length_cons] at h ⊢;have a8:=Vg f n (r.erase (f x)) (by omega) (ae.erase _) fun y aY=>by
    have R9:=(ae.mem_erase_iff).1 aY;obtain ⟨c9,c_,j1⟩:=aP y (by simp [R9.2]);refine ⟨(ae.mem_erase_iff).2 ⟨fun e=>?_,?_⟩,c_,j1⟩
    ·have:y=x:=by rw [←c_,e,aN]
     exact ab (this ▸ R9.2)
    ·rcases sB.1 c9 with e | e
     ·exact absurd (by rw [←c_,e]) R9.1
     ·exact e
   omega
theorem Td {n:Nat} {o:List Int} (k:qs n o):qs n o.reverse:=KS.2 ((List.reverse_perm o).trans (KS.1 k))
theorem acf {p:qd} (h:qW p):Kk p % 2=0:=by
 unfold Kk;refine Vg List.reverse _ _ (se _) ((WJ _ _ (YU _)).sublist List.filter_sublist) fun o aq=>?_;obtain ⟨ab,ae⟩:=sW.1 aq;have k:=Ko.1 ab;exact ⟨sW.2 ⟨Ko.2 (Td k),decide_eq_true ((Vf h k).trans (of_decide_eq_true ae))⟩,List.reverse_reverse _,agF h k⟩
theorem agX {S:List qE} {o:List Int} {i:Nat} (hi:i<o.length):qp S o.reverse (o.length-1-i)=qp S o i:=by
 unfold qp;congr 1;rw [rB (by simp;omega),rB hi,vk];congr 1;omega
theorem WZ (S:List qE) (o:List Int) (a:Nat) (f:qE→Int) {i:Nat} (hi:i<o.length) (aI:o.length % 2=1):qP S o.reverse a [((o.length-1-i:Nat):Int)] f=-(qP S o a [(i:Int)] f):=by
 unfold qP;rw [vQ];have e:-(qO o.length fun j=>if j % 2=a∧(j:Int) ∉ [(i:Int)] then qz o.length j*f (qp S o j) else 0)=qO o.length fun j => -1*(if j % 2=a∧(j:Int) ∉ [(i:Int)] then qz o.length j*f (qp S o j) else 0):=by rw [OH];omega
 rw [e,←Qb];refine K0 fun j aw=>?_;have aB:qz o.length (o.length-1-j)=-(qz o.length j):=by unfold qz;omega
 by_cases a_:j % 2=a∧(j:Int) ∉ [(i:Int)]
 ·have bI:j≠i:=fun e=>a_.2 (by rw [e];simp);rw [if_pos ⟨by omega,by simp;omega⟩,if_pos a_,agX aw,aB];grind
 ·rw [if_neg,if_neg a_]
  ·rfl
  ·rintro ⟨ab,ae⟩;refine a_ ⟨by omega,fun hm=>ae ?_⟩
   have:j=i:=by have:=List.mem_singleton.1 hm;omega
   rw [this];simp
section
variable {p:qd} {o:List Int}
theorem Oe (h:qW p) (k:qs p.1.length o):o.length % 2=1:=by have:=h.n;have:=k.1;omega
theorem ace (h:qW p) (k:qs p.1.length o) {a:Nat}:HA p o.reverse a↔HA p o a:=by
 have e:∀ d,q9 p o.reverse a d=-(q9 p o a d):=fun d=>Sn _ _ _ _ (Oe h k);unfold HA;rw [e,e];omega
theorem abF (h:qW p) (k:qs p.1.length o) {a i:Nat} (hi:i<o.length) (ak:H0 p o a i):H0 p o.reverse a (o.length-1-i):=by
 have aq:=Oe h k;obtain ⟨t,ab,ae⟩:=ak;refine ⟨t,ab,?_⟩;have aB:qz o.length (o.length-1-i)=-(qz o.length i):=by unfold qz;omega
 unfold Jh at ae ⊢;rw [WZ _ _ _ _ hi aq,WZ _ _ _ _ hi aq,vQ,aB];have e:∀ x y z:Int,-x+-y*z=-(x+y*z):=fun x y z=>by grind
 rw [e,e,ae.1,ae.2];exact ⟨rfl,rfl⟩
theorem Vm (h:qW p) (k:qs p.1.length o) {a:Nat} (ak:∃ i,i<o.length∧i % 2=a∧H0 p o a i):∃ i,i<o.reverse.length∧i % 2=a∧H0 p o.reverse a i:=by
 have aq:=Oe h k;obtain ⟨i,ab,ae,aF⟩:=ak;exact ⟨o.length-1-i,by simp;omega,by omega,abF h k ab aF⟩
theorem Vl (h:qW p) (k:qs p.1.length o) {a:Nat}:rb p o.reverse a=rb p o a:=by
 have e:(∃ i,i<o.reverse.length∧i % 2=a∧H0 p o.reverse a i)↔∃ i,i<o.length∧i % 2=a∧H0 p o a i:=by
  constructor
  ·intro ak;have:=Vm h (Td k) ak;rw [List.reverse_reverse] at this;exact this
  ·exact Vm h k
 unfold rb;simp only [ace h k,e]
theorem Wj {r:List Int} (ai:r.length≤1000) {K:List Int→Option Bool}:∀ (m i:Nat),i≤r.length→r.length-i<m→LA r K m (r.reverse.take i) ((r.length:Int)-1-i)=K r.reverse
 | 0,_,_,h=>absurd h (by omega)
 | m+1,i,hi,hm=>by
   rw [LA];by_cases aR:i<r.length
   ·have ab:=List.length_take_le i r.reverse;rw [if_pos (decide_eq_true (by omega)),qD (by omega),qD (by omega),qK (n:=(r.length:Int)-1-i-1) (by omega)];have a8:=Wj ai (K:=K) m (i+1) (by omega) (by omega);rw [uH (by simpa using aR)] at a8;have e1:ix r ((r.length:Int)-1-i)=r.reverse[i]'(by simpa using aR):=by
     rw [vk,show (r.length:Int)-1-i=((r.length-1-i:Nat):Int) by omega,rB (by omega)]
    rw [e1,show (r.length:Int)-1-i-1=(r.length:Int)-1-((i+1:Nat):Int) by omega];exact a8
   ·(obtain rfl:i=r.length:=by omega);rw [if_neg (by simp;omega),tf (by simp)]
theorem adx {r:List Int} (ai:r.length≤1000) {K:List Int→Option Bool}:LA r K ql [] ((r.length:Int)-1)=K r.reverse:=by
 have:=Wj ai (K:=K) ql 0 (by omega) (Il (by omega));rw [show (r.length:Int)-1-((0:Nat):Int)=(r.length:Int)-1 by omega] at this;exact this
theorem OT (h:qW p) (k:qs p.1.length o):Ii p o=some (((rb p o 0+rb p o 1:Nat):Int),0):=by
 have aI:=h.len;have al:=k.1;obtain ⟨l,ab,ae⟩:=NA (p:=p) (o:=o) (by omega) (by omega);have rv:=M0 h k;rw [if_pos rv] at ab;unfold Ii;rw [ab,sc,(ae rv).1]
theorem ahU (p:qd) {Q:List Int} (bo:∀ b∈Q,0≤b∧b≤255) {J4:Int} (pU:0≤J4∧J4≤255):Qm p Q J4=some true:=by
 unfold Qm;rw [Qs,sc];by_cases ak:ry p=0
 ·rw [if_pos (decide_eq_true ak)];have h:=JL.1 ak;have bC:=h.lo;have GU:=h.hi;have hle:=h.le;have aI:=h.len;by_cases a_:(20:Int)<(Q.length:Int)
  ·rw [if_pos (decide_eq_true a_),works];rfl
  ·rw [if_neg (by simpa using a_)];obtain ⟨o,k,aq⟩:=Qu (n:=p.1.length) (by omega) bo (by omega);have al:=k.1;have aN:=Td k;rw [aq,sc,qK (n:=(o.length:Int)-1) (by omega)];refine (adx (r:=o) (by omega)).trans ?_;(have rC:w (w (p.2.2-p.2.1)+1)=p.2.2-p.2.1+1:=by rw [qK (n:=p.2.2-p.2.1) (by omega),qK (by omega)]);have c9:0≤J4.tmod (p.2.2-p.2.1+1):=Int.tmod_nonneg _ pU.1;have c_:=Int.tmod_lt_of_pos J4 (show 0<p.2.2-p.2.1+1 by omega);rw [rC,qD (by omega),qK (n:=J4) (by omega),qK (n:=p.2.1+_) (by omega)];obtain ⟨d,a1⟩:∃ d,d=p.2.1+J4.tmod (p.2.2-p.2.1+1):=⟨_,rfl⟩;rw [←a1];have db:=Lk (a:=0) h k (d:=d) (by omega);have bl:=Lk (a:=1) h k (d:=d) (by omega);have ao:=Oe h k;have e:∀ a,q9 p o.reverse a d=-(q9 p o a d):=fun a=>Sn _ _ _ _ ao;have mi:=acf h;rw [Zo h k (by omega),sc,Zo h aN (by omega),sc,Tx h k,sc,Tx h aN,sc,OM (by omega),sc,if_pos ak,OT h k,sc,OT h aN,sc,e,e,Vl h k,Vl h k,Vf h k];simp only;rw [qK (n := -(-(q9 p o 0 d))) (by omega),qK (n := -(-(q9 p o 1 d))) (by omega)];(have Kl:((Kk p:Int)).tmod 2=0:=by rw [Nj];omega);rw [Kl];simp only [Int.neg_neg,decide_true,if_true];rw [qD (by decide),works];simp
 ·rw [if_neg (by simpa using ak),works];rfl
theorem ab5 (p:qd) {Q:List Int} (bo:∀ b∈Q,0≤b∧b≤255) {J4:Int} (pU:0≤J4∧J4≤255):qy 4 [Of p,.av (Q.map Hz) Q.length .shared,Hz J4] (B true):=ahT (ahU p bo pU)
end
end Go.Proofs.Ytkoioidpbbbaiaa.Ab
