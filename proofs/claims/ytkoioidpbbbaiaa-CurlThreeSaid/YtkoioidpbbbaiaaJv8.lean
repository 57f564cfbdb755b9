
import Derived.Test.YtkoioidpbbbaiaaJv7
import Derived.KernelRfl
import Derived.Test.YtkoioidpbbbaiaaJv5
import Derived.Test.YtkoioidpbbbaiaaProg
import Derived.Test.YtkoioidpbbbaiaaJv6
set_option linter.unusedSimpArgs false
set_option linter.unusedVariables false
set_option linter.unusedSectionVars false

open Bool renaming and_eq_true→sn,and_true→tu,eq_iff_iff→uD,or_eq_true→tt,or_false→vH
open Int renaming le_refl→sU,tmod_eq_emod_of_nonneg→vB,toNat_natCast→tw
open List renaming append_assoc→sx,append_nil→sM,drop_eq_getElem_cons→s7,exists_cons_of_ne_nil→tM,filter_append→uc,filter_eq_self→tC,getD_eq_getElem?_getD→sw,getElem?_append→sj,getElem?_append_left→sg,getElem?_eq_getElem→si,getElem?_eq_some_iff→sa,getElem?_map→sm,getElem?_set_ne→sd,getElem?_set_self→sk,getElem_map→ub,getElem_mem→tQ,length_append→sy,length_map→sX,length_nil→tK,map_append→sP,map_set→tI,mem_cons→sA,nil_append→tP,range_succ→vE,take_of_length_le→tg
open Nat renaming le_refl→sc,lt_succ_self→sG,mod_lt→uH,mul_one→tp,zero_add→sB,zero_le→sD
open Option renaming bind_some→sb
namespace Go.Proofs.Ytkoioidpbbbaiaa.Ab
open Go
set_option maxRecDepth 20000
set_option maxHeartbeats 4000000
def Hh (N:Nat) (H H':List ar):Prop:=H.length≤H'.length∧∀ (j:Nat) (c:List I),N≤j→H[j]?=some (.cells c)→H'[j]?=some (.cells c)
theorem Hh.refl (N:Nat) (H:List ar):Hh N H H:=⟨sc _,fun _ _ _ h=>h⟩
theorem Hh.trans {N:Nat} {H H1 H2:List ar} (h:Hh N H H1) (k:Hh N H1 H2):Hh N H H2:=⟨Nat.le_trans h.1 k.1,fun j c aw ak=>k.2 j c aw (h.2 j c aw ak)⟩
structure O3 (l N:Nat) (Inv:Nat→List ar→Prop):Prop where
 len:∀ i H,Inv i H→l<N∧N≤H.length
 more:∀ i H Z,Inv i H→Inv i (H++Z)
 set:∀ i H j c dU,Inv i H→N≤j→H[j]?=some (.cells c)→Inv i (H.set j (.cells dU))
def R3 (P:Program) (k:FuncId) (cap:List I) (E:List I):Prop :=
 ∀ (l N:Nat) (Inv:Nat→List ar→Prop),O3 l N Inv →
   (∀ (i:Nat) (h:i<E.length) (H:List ar),Inv i H→∃ H',Inv (i+1) H'∧Hh N H H'∧Sem P (.yield l) [E[i]] H 0 (.bool true) H') →
   ∀ H,Inv 0 H→∃ H',Inv E.length H'∧Sem P (.fn k) (.yield l::cap) H 0 (.tuple []) H'
structure H7 (L:Nat) (b:I) (p:Nat) (U:List Int) (H:List ar):Prop where
 y:H[p]?=some (.cells [.yield L])
 u:H[p+1]?=some (.cells (U.map h0))
 g:H[p+2]?=some (.cells [II b p])
theorem H7.set {L p:Nat} {b:I} {U:List Int} {H:List ar} (h:H7 L b p U H) (Mf:List Int):H7 L b p Mf (H.set (p+1) (.cells (Mf.map h0))) :=
 ⟨by rw [sd (by omega)];exact h.y,sk (sa.1 h.u).1,by rw [sd (by omega)];exact h.g⟩
theorem H7.cE {L p N:Nat} {b:I} {U:List Int} {H H':List ar} (h:H7 L b p U H) (aB:N≤p) (k:Hh N H H'):H7 L b p U H':=⟨k.2 _ _ aB h.y,k.2 _ _ (by omega) h.u,k.2 _ _ (by omega) h.g⟩
theorem afm {KS KT:I} {Q:cQ→List I→List ar→Prop} {begun:List Int} {i n:Nat} {H:List ar} {L p:Nat} {b:I} {U:List Int} (ma:H7 L b p U H) (Hp:U.length=7) (hi:i<7) (af:begun.length≤7)
  (dW:∃ H',H7 L b p U H'∧Sem Try.prog (.fn 66) [.av ((begun++[(i:Int)]).map h0) (begun++[(i:Int)]).length (.uniq 1),b,.ptr p 0,.ptr (p+1) 0,.ptr (p+2) 0] H 0 (.bool true) H' ∧
   Q .normal (qa 52 [(0,rX begun),(3,.ptr (p+1) 0),(4,.ptr (p+2) 0),(26,h0 n),(27,h0 i),(28,KS),(33,KT),(50,.bool false)]) (H'.set (p+1) (.cells ((U.set i 0).map h0)))) :
  dQ Try.prog J2 66 0 none KN (qa 52 [(0,rX begun),(3,.ptr (p+1) 0),(4,.ptr (p+2) 0),(7,h0 i),(26,h0 n),(27,h0 i),(28,KS),(33,KT)]) H Q:=by
 obtain ⟨H',aaD,cp,bp⟩:=dW;have fin:∀ dH,dH=qa 52 [(0,rX begun),(3,.ptr (p+1) 0),(4,.ptr (p+2) 0),(7,h0 i),(8,.bool true),(26,h0 n),(27,h0 i),(28,KS),(33,KT)]→dQ Try.prog J2 66 0 none MI dH H' Q:=by
  rintro _ rfl;unfold MI;conv=>whnf
  refine ⟨by omega,?_⟩;conv=>whnf
  refine Ex aaD.u ?_;conv=>whnf
  rw [show 0+(i:Int).toNat*1=i by omega];refine Gp (by simp;omega) ?_;conv=>whnf
  rw [show (List.map h0 U).set i (I.int IntKind.i64 0)=(U.set i 0).map h0 by rw [tI]];exact bp
 unfold KN;cases begun with
 | nil =>
   (conv=>whnf);refine Ex ma.g ?_;(conv=>whnf);refine ⟨⟨by decide,by decide,by decide⟩,?_⟩;(conv=>whnf);refine ⟨rfl,by decide,?_⟩;(conv=>whnf);refine ⟨by decide,by decide,rfl,?_⟩;(conv=>whnf);refine ⟨_,_,re cp,?_⟩;(conv=>whnf);exact fin _ rfl
 | cons a l =>
   (conv=>whnf);refine Ex ma.g ?_;(conv=>whnf);refine ⟨⟨rfl,by omega,sU _⟩,?_⟩;(conv=>whnf);rw [tw,tp,tg (by simp)];refine ⟨rfl,by decide,?_⟩;(conv=>whnf);refine ⟨by decide,by omega,by simp,?_⟩;(conv=>whnf);(have e1:List.map h0 (a::l)++[h0 (i:Int)]=((a::l)++[(i:Int)]).map h0:=by simp);(have b':(a::l).length+1=((a::l)++[(i:Int)]).length:=by simp);refine ⟨_,_,re (by erw [e1,b'];exact cp),?_⟩;(conv=>whnf);exact fin _ rfl
def YF (L N:Nat) (Inv:Nat→List ar→Prop) (c:Nat) (begun:List Int) (E:List (List Int)):Prop :=
 ∀ (j:Nat) (l:List Int),E[j]?=some l→∀ H:List ar,Inv (c+j) H→∃ H',Inv (c+j+1) H'∧Hh N H H'∧Sem Try.prog (.yield L) [rX (begun++l)] H 0 (.bool true) H'
theorem TJ {b:((List (Int×Int))×(Int×Int))×Unit} (qX:b.1.1.length≤7) (iS:0<b.1.1.length) {L N:Nat} {Inv:Nat→List ar→Prop} (kF:O3 L N Inv) {p:Nat} (aB:N≤p) :
  ∀ (k:Nat) (begun:List Int) (ID:hE) (U:List Int) (c:Nat),U.length=7→(∀ i,0≤U.getD i 0)→begun.length+k=b.1.1.length→(rf U b.1.1.length).length=k→((ID=.full∧begun=[])∨ID=.uniq 1∧begun≠[])→YF L N Inv c begun (qW k (rf U b.1.1.length)) →
  ∀ H,Inv c H→H7 L (.bS [lq b]) p U H→∃ H',Inv (c+(qW k (rf U b.1.1.length)).length) H'∧Hh N H H'∧Sem Try.prog (.fn 66) [.av (begun.map h0) begun.length ID,.bS [lq b],.ptr p 0,.ptr (p+1) 0,.ptr (p+2) 0] H 0 (.bool true) H'
 | 0,begun,ID,U,c,Hp,_,al,ao,CN,ai,H,ag,ma=>by
   obtain ⟨H',aaB,aaC,cp⟩:=ai 0 [] rfl H ag;(have bJ:begun≠[]:=fun e=>by subst e;simp at al;omega);have CN:ID=.uniq 1:=by
    rcases CN with ⟨_,h⟩ | ⟨h,_⟩
    ·exact absurd h bJ
    ·exact h
   subst CN;obtain ⟨a,l,rfl⟩:=tM bJ;rw [sM] at cp;refine ⟨H',aaB,aaC,?_⟩;refine ri eG ND rfl cp.1 fun Q bp=>?_;unfold KM KO;obtain ⟨f',rP⟩:∃ c,Jh=c:=⟨_,rfl⟩;rw [rP];(conv=>whnf);rw [decide_eq_true (show (((a::l).length:Nat):Int)=(b.1.1.length:Int) by omega)];(conv=>whnf);refine Ex ma.y ?_;(conv=>whnf);refine ⟨_,_,re cp,?_⟩;(conv=>whnf);exact bp _ _ _ ⟨.inr rfl,lJ.refl _,rfl⟩
 | k+1,begun,ID,U,c,Hp,Ms,al,ao,CN,ai,H,ag,ma=>by
   obtain ⟨n,aI⟩:∃ n,n=b.1.1.length:=⟨_,rfl⟩;have Md:=TJ (L:=L) qX iS kF aB k;rw [←aI] at qX iS al ao ai Md ⊢
   obtain ⟨JD,KC,J7⟩:=Nl (fun i rq HW=>i<n→Inv (c+rS k U n i) rq∧H7 L (.bS [lq b]) p U rq →
    (Inv (c+rS k U n (i+1)) HW∧H7 L (.bS [lq b]) p U HW∧Hh N rq HW) ∧
    (U.getD i 0=0→∃ H2,H7 L (.bS [lq b]) p (U.set i 1) H2∧HW=H2.set (p+1) (.cells (U.map h0))∧Sem Try.prog (.fn 66) [.av ((begun++[(i:Int)]).map h0) (begun++[(i:Int)]).length (.uniq 1),.bS [lq b],.ptr p 0,.ptr (p+1) 0,.ptr (p+2) 0] (rq.set (p+1) (.cells ((U.set i 1).map h0))) 0 (.bool true) H2)∧(U.getD i 0≠0→HW=rq)) H (fun i rq=>by
    by_cases aP:i<n∧Inv (c+rS k U n i) rq∧H7 L (.bS [lq b]) p U rq
    ·obtain ⟨hi,aP⟩:=aP;by_cases aQ:U.getD i 0=0
     ·have hm:(i:Int)∈rf U n:=UM.2 ⟨i,hi,aQ,rfl⟩
      obtain ⟨H2,aA,aG,aT⟩:=Md (begun++[(i:Int)]) (.uniq 1) (U.set i 1) (c+rS k U n i) (by simpa using Hp) (WJ Ms) (by simp;omega) (by rw [Lr (by omega) aQ,List.length_erase_of_mem hm];omega) (.inr ⟨rfl,by simp⟩) (fun j l aw H' b9=>by
       rw [Lr (by omega) aQ] at aw;rw [show c+rS k U n i+j=c+(rS k U n i+j) by omega] at b9 ⊢;obtain ⟨hF,bm,cw,e2⟩:=ai _ _ (Us hi aQ aw) H' b9;refine ⟨hF,bm,cw,?_⟩
       rw [sx];exact e2) (rq.set (p+1) (.cells ((U.set i 1).map h0))) (kF.set _ _ _ _ _ aP.1 (by omega) aP.2.u) (aP.2.set _)
      rw [Lr (by omega) aQ] at aA;have Ll:H7 L (.bS [lq b]) p (U.set i 1) H2:=(aP.2.set (U.set i 1)).cE aB aG;refine ⟨H2.set (p+1) (.cells (U.map h0)),fun _ _=>⟨⟨?_,Ll.set U,?_⟩,fun _=>⟨H2,Ll,rfl,aT⟩,fun h=>absurd aQ h⟩⟩
      ·rw [Nn,if_pos aQ,←Nat.add_assoc];exact kF.set _ _ _ _ _ aA (by omega) Ll.u
      ·refine ⟨by have:=aG.1;simp at this ⊢;omega,fun j cs aw ak=>?_⟩;by_cases e:j=p+1
       ·subst e;rw [aP.2.u] at ak;rw [←Option.some.inj ak];exact (Ll.set U).u
       ·rw [sd (by omega)];exact aG.2 j cs aw (by rw [sd (by omega)];exact ak)
     ·refine ⟨rq,fun _ _=>⟨⟨?_,aP.2,Hh.refl _ _⟩,fun ab=>absurd ab aQ,fun _=>rfl⟩⟩;rw [Nn,if_neg aQ];exact aP.1
    ·exact ⟨rq,fun ab h=>absurd ⟨ab,h⟩ aP⟩)
   have c1:∀ i,i≤n→Inv (c+rS k U n i) (JD i)∧H7 L (.bS [lq b]) p U (JD i)∧Hh N H (JD i):=fun i=>by
    induction i with
    | zero=>intro _;rw [KC];exact ⟨ag,ma,Hh.refl _ _⟩
    | succ i a8 =>
      intro hi;obtain ⟨aA,aG,aT⟩:=a8 (by omega);obtain ⟨⟨bm,cw,e2⟩,_,_⟩:=J7 i (by omega) ⟨aA,aG⟩;exact ⟨bm,cw,aT.trans e2⟩
   have P8:rS k U n n=(qW (k+1) (rf U n)).length:=rfl;refine ⟨JD n,by rw [←P8];exact (c1 n (sc _)).1,(c1 n (sc _)).2.2,?_⟩;refine ri eG ND rfl (Ix (c1 n (sc _)).2.2.1) fun Q bp=>?_;have main:∀ T,T=qa 52 [(0,rX begun),(1,.bS [lq b]),(2,.ptr p 0),(3,.ptr (p+1) 0),(4,.ptr (p+2) 0),(6,.bool false),(17,.bool false)]→dQ Try.prog J2 66 0 none Jh T H Q:=by
    rintro _ rfl;unfold Jh Q6 Q5;obtain ⟨bt,eS⟩:∃ c,KN=c:=⟨_,rfl⟩;rw [eS];(conv=>whnf);rw [←aI];refine .intro (fun m T H'=>∃ i:Nat,i≤n∧m=n-i∧T=qa 52 [(0,rX begun),(3,.ptr (p+1) 0),(4,.ptr (p+2) 0),(26,h0 n),(27,h0 i)]∧H'=JD i) n ⟨0,sD _,rfl,rfl,KC.symm⟩ ?_;rintro m T H' ⟨i,hi,rfl,rfl,rfl⟩;(conv=>whnf);refine Hm (fun aR=>?_) (fun aR=>?_)
    ·(have hg:i<n:=by omega);obtain ⟨aA,aG,_⟩:=c1 i hi;obtain ⟨_,a7,a9⟩:=J7 i hg ⟨aA,aG⟩;(conv=>whnf);refine ⟨by omega,?_⟩;(conv=>whnf);refine Ex aG.u ?_;(conv=>whnf);rw [show 0+(i:Int).toNat*1=i by omega];refine Ex (x:=h0 (U.getD i 0)) (by rw [sm,sw,si (show i<U.length by omega)];rfl) ?_;(conv=>whnf);(have rz:IntKind.i64.wrap ((i:Int)+1)=((i+1:Nat):Int):=by rw [Hj _ (by omega) (by omega)];omega);refine Hm (fun aQ=>?_) (fun aQ=>?_)
     ·(conv=>whnf);refine ⟨n-(i+1),by omega,i+1,by omega,rfl,by rw [rz];rfl,?_⟩;rw [a9 (by omega)]
     ·(have Mq:U.getD i 0=0:=by have:=Ms i;omega);obtain ⟨H2,Ll,abj,cp⟩:=a7 Mq;(conv=>whnf);refine ⟨by omega,?_⟩;(conv=>whnf);refine Ex aG.u ?_;(conv=>whnf);rw [show 0+(i:Int).toNat*1=i by omega];refine Gp (by simp;omega) ?_;(conv=>whnf);rw [show (List.map h0 U).set i (I.int IntKind.i64 1)=(U.set i 1).map h0 by rw [tI]];subst eS;refine afm (aG.set (U.set i 1)) (by simpa using Hp) (by omega) (by omega) ⟨H2,Ll,cp,?_⟩;(conv=>whnf);refine ⟨n-(i+1),by omega,i+1,by omega,rfl,by rw [rz];rfl,?_⟩;rw [List.set_set,WH (by omega) Mq,abj]
    ·(obtain rfl:i=n:=by omega);(conv=>whnf);exact bp _ _ _ ⟨.inr rfl,lJ.refl _,rfl⟩
   rcases CN with ⟨rfl,rfl⟩ | ⟨rfl,bJ⟩
   ·unfold KM KO;obtain ⟨f',rP⟩:∃ c,Jh=c:=⟨_,rfl⟩;rw [rP];(conv=>whnf);rw [decide_eq_false (show ¬ (((([]:List Int).length:Nat):Int)=(b.1.1.length:Int)) by simp only [tK];omega)];(conv=>whnf);subst rP;exact main _ rfl
   ·obtain ⟨a,l,rfl⟩:=tM bJ;unfold KM KO;obtain ⟨f',rP⟩:∃ c,Jh=c:=⟨_,rfl⟩;rw [rP];(conv=>whnf);rw [decide_eq_false (show ¬ ((((a::l).length:Nat):Int)=(b.1.1.length:Int)) by omega)];(conv=>whnf);subst rP;exact main _ rfl
theorem ae6 {b:((List (Int×Int))×(Int×Int))×Unit} (qX:b.1.1.length≤7) (iS:0<b.1.1.length):R3 Try.prog 65 [.bS [lq b]] ((qW b.1.1.length (qh b.1.1.length)).map rX):=by
 intro L N Inv kF ai H ag;have jU:=Uq qX;obtain ⟨H1,bW⟩:∃ H1,H1=((H++[.cells [.yield L]])++[.cells [h0 0,h0 0,h0 0,h0 0,h0 0,h0 0,h0 0]])++[.cells [II (.bS [lq b]) H.length]]:=⟨_,rfl⟩;have l1:(H++[ar.cells [I.yield L]]).length=H.length+1:=by simp
 have l2:((H++[ar.cells [I.yield L]])++[ar.cells [I.int IntKind.i64 0,I.int IntKind.i64 0,I.int IntKind.i64 0,I.int IntKind.i64 0,I.int IntKind.i64 0,I.int IntKind.i64 0,I.int IntKind.i64 0]]).length=H.length+2:=by simp
 have ma:H7 L (.bS [lq b]) H.length [0,0,0,0,0,0,0] H1:=by
  subst bW;refine ⟨?_,?_,?_⟩
  ·rw [sx,sg (by rw [l1];omega)];exact IJ _ _
  ·rw [sg (by rw [l2];omega),←l1];exact IJ _ _
  ·rw [←l2];exact IJ _ _
 obtain ⟨H',aA,aG,aT⟩:=TJ (b:=b) (L:=L) qX iS kF (kF.len _ _ ag).2 b.1.1.length [] .full [0,0,0,0,0,0,0] 0 rfl (fun i=>by
  rw [sw]
  match i with
  | 0 | 1 | 2 | 3 | 4 | 5 | 6 | i+7=>simp) (by simp) (by rw [jU];simp [qh]) (.inl ⟨rfl,rfl⟩) (fun j l aw H' b9=>by
    rw [jU] at aw;obtain ⟨ab,ae⟩:=sa.1 aw;rw [sB] at b9 ⊢;obtain ⟨H2,bm,cw,e2⟩:=ai j (by simpa using ab) H' b9;rw [ub,ae] at e2
    exact ⟨H2,bm,cw,e2⟩) H1 (by rw [bW,sx,sx];exact kF.more _ _ _ ag) ma
 rw [jU,sB] at aA;refine ⟨H',by rw [sX];exact aA,?_⟩;refine ri eG UB rfl (Ix (by have:=aG.1;rw [bW] at this;simp at this;omega)) fun Q bp=>?_;rw [bW] at aT;unfold Q3 Q4;conv=>whnf
 refine Ex (x:=.cells [.a0]) (by simp) ?_;conv=>whnf
 rw [HQ];refine Ex (x:=.cells [II (.bS [lq b]) H.length]) (by rw [List.getElem?_append_right (sc _),l1,l2,Nat.sub_self];rfl) ?_;conv=>whnf
 refine ⟨_,_,re (by rw [l1,l2];exact aT),?_⟩;conv=>whnf
 exact bp _ _ _ ⟨.inl rfl,lJ.refl _,rfl⟩
theorem aeZ {α:Type} {P:Program} {A:dx} {fn:FuncId} {rl:Option Nat} {k:FuncId} {cap:List I} {t:Nat} {bq:List Nat} {gH ct:Code} {T:List I} {H:List ar} {Q:cQ→List I→List ar→Prop} {f:α→I} {L:List α} (Il:R3 P k cap (L.map f))
  (ax:df T t=.func k [] cap) {Inv:Nat→List ar→Prop} (kF:O3 H.length (H.length+1) Inv) (aQ:Inv 0 (H++[.loop .ready none fn (T.map I.view) bq gH ct A]))
  (KG:∀ (i:Nat) (h:i<L.length) (H1:List ar),Inv i H1→∃ H',Inv (i+1) H'∧Hh (H.length+1) H1 H'∧Sem P (.yield H.length) [f L[i]] H1 0 (.bool true) H')
  (hg:inLoop H rl=true) (abx:∀ H',Inv L.length H'→H'[H.length]?=some (.loop .ready none fn (T.map I.view) bq gH ct A)) (bp:∀ H',Inv L.length H'→Q .normal (T.map I.settle) (H'.set H.length .dead)):dQ P A fn 0 rl (.AO (.nd t) bq gH ct) T H Q:=by
 show hI T t _;rw [iQ,ax]
 obtain ⟨H',b9,cp⟩:=Il H.length (H.length+1) Inv kF (fun i h H1 bW=>by
  have aX:i<L.length:=by simpa using h
  obtain ⟨H2,bm,cw,e2⟩:=KG i aX H1 bW
  exact ⟨H2,bm,cw,by rw [ub];exact e2⟩) _ aQ
 rw [sX] at b9;refine ⟨hg,.tuple [],H',.ready,none,fn,T.map I.view,bq,gH,ct,A,cp,abx _ b9,by decide,bp _ b9⟩
end Go.Proofs.Ytkoioidpbbbaiaa.Ab


namespace Go.Proofs.Ytkoioidpbbbaiaa.Ab
open Go
noncomputable def Wo:gE :=
 .ow false [p1 7 27]
noncomputable def ML:gE :=
 p2 [p1 58 11,p1 59 58,cl 60 [.jq 13] 59 true .mV,p0 61 [.Bu 59,.Bu 60,.cv (.bool false)] .pick] (.cond (.nd 61) (qG [p1 62 9,p0 63 [.nd 6,.Bu 62] (.zw 7 1),⟨none,[.jq 63,.cv (.int .i64 1)],none,none,.st 1⟩]) .skip)
noncomputable def MN:gE :=
 p2 [p0 49 [.nd 4] (.zG .one),p3 50 7,p3 51 8,qw 52 51 2 .rem,p1 53 8,p0 54 [.Bu 53] (.yD 1 1 [.int .i64 0] [0]),p0 55 [.cv (.func 53 [] []),.jq 49,.jq 50,.jq 52,.jq 54] (.call 1),p1 48 55,qL 56 48 0,p0 57 [.Bu 48] (.ext 1),p1 12 56,p1 13 57] ML
noncomputable def N5:gE :=
 p2 [p0 40 [.nd 4] (.zG .one),p3 41 7,p3 42 8,qw 43 42 2 .rem,p0 44 [.cv (.int .i64 1),.Bu 43] (.bin .sub),p0 45 [.cv (.func 53 [] []),.jq 40,.jq 41,.jq 44,.cv (.av [] 0 .full)] (.call 1),p1 39 45,qL 46 39 0,p0 47 [.Bu 39] (.ext 1),p1 10 46,p1 11 47] MN
noncomputable def Wt:gE :=
 .seq (p2 [p3 35 9,p0 36 [.nd 6,.Bu 35] (.zw 7 1),qf 37 36,qw 38 37 0 .gtr] (.cond (.nd 38) (.exit 3) .skip)) N5
noncomputable def Rm:gE :=
 .block 3 (p2 [p3 32 30,p0 33 [.nd 28,.nd 30] (.kZ 1),qf 34 33,p1 8 32,p1 9 34] Wt)
noncomputable def Ws:gE :=
 .block 1 (p2 [p3 28 7,p0 29 [.nd 28] .zL,qc 30 0] (.block 2 (.loop (some (p8 false [4,1,1,2,20,3,55])) (p2 [p0 31 [.nd 30,.nd 29] (.bin .lss)] (.seq (.cond (.nd 31) .skip (.exit 2)) (.seq Rm (qG [qT 64 30 1,p1 30 64])))))))
theorem acp:ey Go.Proofs.Try.prog Js (q8 Go.Proofs.Try.prog 25 0) 0=some Wo:=by kernel_rfl
theorem acu:ey Go.Proofs.Try.prog Js (q9 Go.Proofs.Try.prog 25 0) 0=some Ws:=by kernel_rfl
end Go.Proofs.Ytkoioidpbbbaiaa.Ab


namespace Go.Proofs.Ytkoioidpbbbaiaa.Ab
open Go
set_option maxRecDepth 20000
set_option maxHeartbeats 4000000
def Jv (b:rQ) (o:List Int) (F:List Int) (i:Int):Option (List Int) :=
 qy (0≤ix o i∧ix o i<7) <|
 if 0<ix F (ix o i) then some F else
 (Ih b o (w (1-i.tmod 2)) []).bind fun x=>(Ih b o (i.tmod 2) [i]).bind fun y =>
 some (if (x.2 && y.2)=true then F.set (ix o i).toNat 1 else F)
theorem HR.rO {b:rQ} {m j:Nat} {H:List ar} {o cz:ar} (h:HR b m H) (aw:H[j]?=some o) (hm:∀ es c,o≠.map es c):HR b m (H.set j cz):=by
 obtain ⟨es,IE,ab,ae⟩:=h;have abz:j≠m:=fun e=>by subst e;rw [ab] at aw;exact hm _ _ (Option.some.inj aw).symm
 refine ⟨es,IE,by rw [sd abz];exact ab,fun e he=>?_⟩;obtain ⟨x,id,c,A,aA,aG,aT,br,bg⟩:=ae e he;have h_:j≠id:=fun e=>by subst e;rw [br] at aw;exact hm _ _ (Option.some.inj aw).symm
 exact ⟨x,id,c,A,aA,aG,aT,by rw [sd h_];exact br,bg⟩
structure Good (b:rQ) (rE:ar) (F:List Int) (H:List ar):Prop where
 f:HR b 0 H
 p:H[1]?=some (.cells [rH b 0])
 m:H[2]?=some (.cells (F.map h0))
 l:H[3]?=some rE
 n:F.length=7
theorem Good.ext {b:rQ} {rE:ar} {F:List Int} {H H':List ar} (h:Good b rE F H) (aP:HR b 0 H') (he:H6 0 H H'):Good b rE F H':=by
 have aF:=(sa.1 h.l).1;exact ⟨aP,by rw [he.2 1 (by omega) (by omega)];exact h.p,by rw [he.2 2 (by omega) (by omega)];exact h.m,by rw [he.2 3 (by omega) aF];exact h.l,h.n⟩
theorem Good.mark {b:rQ} {rE:ar} {F IX:List Int} {H:List ar} (h:Good b rE F H) (aI:IX.length=7):Good b rE IX (H.set 2 (.cells (IX.map h0))) :=
 ⟨h.f.rO h.m (fun _ _ e=>by cases e),by rw [sd (by omega)];exact h.p,sk (sa.1 h.m).1,by rw [sd (by omega)];exact h.l,aI⟩
theorem H6.cE {H H':List ar} (h:H6 0 H H'):Hh 4 H H':=⟨h.1,fun j c aw ak=>by rw [h.2 j (by omega) (sa.1 ak).1];exact ak⟩
theorem abP {b:rQ} {o F IX:List Int} {i:Int} (h:Jv b o F i=some IX) {rE:ar} {H:List ar} (ru:Good b rE F H) :
  ∃ H',Good b rE IX H'∧Hh 4 H H'∧(0≤ix o i∧ix o i<7)∧(0<ix F (ix o i)→H'=H) ∧
    (¬ 0<ix F (ix o i)→∃ x y H1 H2,(x.2 && y.2)=true∧IX=F.set (ix o i).toNat 1∧H'=H2.set 2 (.cells (IX.map h0))∧Good b rE F H2∧Good b rE F H1 ∧
      Sem Try.prog (.fn 53) [rH b 0,.av (o.map h0) o.length .shared,h0 (w (1-i.tmod 2)),.av [] 0 .full] H 0 (.tuple [.av [] 0 .shared,B x.2]) H1 ∧
      Sem Try.prog (.fn 53) [rH b 0,.av (o.map h0) o.length .shared,h0 (i.tmod 2),.av [h0 i] 1 (.uniq 1)] H1 0 (.tuple [.av ((y:List qn×Bool).1.flatMap qm) y.1.length .shared,B y.2]) H2 ∨
     (x.2 && y.2)=false∧IX=F∧H'=H2∧Good b rE F H2∧Good b rE F H1 ∧
      Sem Try.prog (.fn 53) [rH b 0,.av (o.map h0) o.length .shared,h0 (w (1-i.tmod 2)),.av [] 0 .full] H 0 (.tuple [.av [] 0 .shared,B (x:List qn×Bool).2]) H1 ∧
      Sem Try.prog (.fn 53) [rH b 0,.av (o.map h0) o.length .shared,h0 (i.tmod 2),.av [h0 i] 1 (.uniq 1)] H1 0 (.tuple [.av (y.1.flatMap qm) y.1.length .shared,B y.2]) H2):=by
 unfold Jv at h;obtain ⟨ah,h⟩:=rL h;by_cases aB:0<ix F (ix o i)
 ·rw [if_pos aB] at h;obtain rfl:=Option.some.inj h;exact ⟨H,ru,Hh.refl _ _,ah,fun _=>rfl,fun aI=>absurd aB aI⟩
 ·rw [if_neg aB] at h;obtain ⟨x,aj,h⟩:=p9 h;obtain ⟨y,aY,h⟩:=p9 h;obtain rfl:=Option.some.inj h;obtain ⟨xg,UY,s1⟩:=XP aj (m:=0) (lo:=0) (H:=H) (sD _);have e1:H6 0 H (H++[UY]):=⟨by simp,fun j _ aw=>by rw [sg aw]⟩;have cf:Good b rE F (H++[UY]):=ru.ext (ru.f.more _) e1;obtain ⟨H2,f2,b',s2⟩:=XQ aY (lo:=0) (sc 0) cf.f;have ca:Good b rE F H2:=cf.ext f2 b';cases af:(x.2 && y.2) with
  | true =>
    rw [if_pos rfl];refine ⟨H2.set 2 (.cells ((F.set (ix o i).toNat 1).map h0)),ca.mark (by rw [List.length_set];exact ca.n),?_,ah,fun h=>absurd h aB,fun _=>⟨x,y,_,H2,.inl ⟨af,rfl,rfl,ca,cf,s1,s2⟩⟩⟩;have k:=(e1.cE).trans b'.cE;refine ⟨by have:=k.1;simpa using this,fun j c aw ak=>by rw [sd (by omega)];exact k.2 j c aw ak⟩
  | false =>
    rw [if_neg (by decide)];exact ⟨H2,ca,(e1.cE).trans b'.cE,ah,fun h=>absurd h aB,fun _=>⟨x,y,_,H2,.inr ⟨af,rfl,rfl,ca,cf,s1,s2⟩⟩⟩
theorem ZU {F:List Int} {k:Int} (al:0≤k∧k<7) (bG:F.length=7):(F.map h0)[0+k.toNat*1]?=some (h0 (ix F k)):=by
 have h:k.toNat<F.length:=by omega
 rw [sB,tp,sm,si h];simp [ix,sw,si h]
theorem aeX {b:rQ} {o F IX:List Int} (aq:o≠[]) (fL:o.length≤1000) (h:Ij (Jv b o) (qh o.length) F=some IX) {gv Gj rJ IQ LZ:I} {H:List ar} (ru:Good b (.loop .ready none 25 (qa 86 [(2,gv),(3,Gj),(4,.ptr 1 0),(5,rJ),(6,.ptr 2 0),(23,IQ),(26,LZ)]) [27] (q8 Try.prog 25 0) (q9 Try.prog 25 0) Js) F H) :
  ∃ H',Good b (.loop .ready none 25 (qa 86 [(2,gv),(3,Gj),(4,.ptr 1 0),(5,rJ),(6,.ptr 2 0),(23,IQ),(26,LZ)]) [27] (q8 Try.prog 25 0) (q9 Try.prog 25 0) Js) IX H'∧Hh 4 H H'∧Sem Try.prog (.yield 3) [rX o] H 0 (.bool true) H':=by
 obtain ⟨Hk,Mr,KB,PE⟩:=Ns h;rw [KR] at KB;obtain ⟨n,aI⟩:∃ n,n=o.length:=⟨_,rfl⟩;rw [←aI] at KB fL;obtain ⟨Im,TW⟩:∃ Im:ar,Im=(.loop .busy none 25 (qa 86 [(2,gv),(3,Gj),(4,.ptr 1 0),(5,rJ),(6,.ptr 2 0),(23,IQ),(26,LZ)]) [27] (q8 Try.prog 25 0) (q9 Try.prog 25 0) Js):=⟨_,rfl⟩;obtain ⟨NF,P'⟩:∃ NF:ar,NF=(.loop .ready none 25 (qa 86 [(2,gv),(3,Gj),(4,.ptr 1 0),(5,rJ),(6,.ptr 2 0),(23,IQ),(26,LZ)]) [27] (q8 Try.prog 25 0) (q9 Try.prog 25 0) Js):=⟨_,rfl⟩;rw [←P'] at ru ⊢;have Dm:∀ es c,NF≠.map es c:=fun _ _ e=>by rw [P'] at e;cases e
 have kN:∀ es c,Im≠.map es c:=fun _ _ e=>by rw [TW] at e;cases e
 have aaA:Good b Im F (H.set 3 Im):=⟨ru.f.rO ru.l Dm,by rw [sd (by omega)];exact ru.p,by rw [sd (by omega)];exact ru.m,sk (sa.1 ru.l).1,ru.n⟩;have aaz:∀ i (hi:i<n),Jv b o (Hk i) (i:Int)=some (Hk (i+1)):=fun i hi=>by
  have:=PE i (by rw [KR];omega);simpa [qh] using this
 classical
 obtain ⟨Hs,gL,Lk⟩:=Nl (fun i rq HW=>i<n→Good b Im (Hk i) rq→Good b Im (Hk (i+1)) HW∧Hh 4 rq HW∧(0≤ix o i∧ix o i<7)∧(0<ix (Hk i) (ix o i)→HW=rq) ∧
   (¬ 0<ix (Hk i) (ix o i)→∃ x y H1 H2,(x.2 && y.2)=true∧Hk (i+1)=(Hk i).set (ix o i).toNat 1∧HW=H2.set 2 (.cells ((Hk (i+1)).map h0))∧Good b Im (Hk i) H2∧Good b Im (Hk i) H1 ∧
     Sem Try.prog (.fn 53) [rH b 0,.av (o.map h0) o.length .shared,h0 (w (1-(i:Int).tmod 2)),.av [] 0 .full] rq 0 (.tuple [.av [] 0 .shared,B x.2]) H1 ∧
     Sem Try.prog (.fn 53) [rH b 0,.av (o.map h0) o.length .shared,h0 ((i:Int).tmod 2),.av [h0 (i:Int)] 1 (.uniq 1)] H1 0 (.tuple [.av ((y:List qn×Bool).1.flatMap qm) y.1.length .shared,B y.2]) H2 ∨
    (x.2 && y.2)=false∧Hk (i+1)=Hk i∧HW=H2∧Good b Im (Hk i) H2∧Good b Im (Hk i) H1 ∧
     Sem Try.prog (.fn 53) [rH b 0,.av (o.map h0) o.length .shared,h0 (w (1-(i:Int).tmod 2)),.av [] 0 .full] rq 0 (.tuple [.av [] 0 .shared,B (x:List qn×Bool).2]) H1 ∧
     Sem Try.prog (.fn 53) [rH b 0,.av (o.map h0) o.length .shared,h0 ((i:Int).tmod 2),.av [h0 (i:Int)] 1 (.uniq 1)] H1 0 (.tuple [.av (y.1.flatMap qm) y.1.length .shared,B y.2]) H2)) (H.set 3 Im) (fun i rq=>by
  by_cases aO:i<n∧Good b Im (Hk i) rq
  ·obtain ⟨H',aA⟩:=abP (aaz i aO.1) aO.2;exact ⟨H',fun _ _=>aA⟩
  ·exact ⟨rq,fun ab ae=>absurd ⟨ab,ae⟩ aO⟩)
 have c1:∀ i,i≤n→Good b Im (Hk i) (Hs i)∧Hh 4 (H.set 3 Im) (Hs i):=fun i=>by
  induction i with
  | zero=>intro _;rw [gL,Mr];exact ⟨aaA,Hh.refl _ _⟩
  | succ i a8 =>
    intro hi;obtain ⟨aA,aG⟩:=a8 (by omega);obtain ⟨bm,cw,_⟩:=Lk i (by omega) aA;exact ⟨bm,aG.trans cw⟩
 obtain ⟨J5,T7⟩:=c1 n (sc _);rw [KB] at J5;have hlen:H.length≤(Hs n).length:=by have:=T7.1;simpa using this
 refine ⟨(Hs n).set 3 NF,⟨J5.f.rO J5.l kN,by rw [sd (by omega)];exact J5.p,by rw [sd (by omega)];exact J5.m,sk (sa.1 J5.l).1,J5.n⟩,⟨by simpa using hlen,fun j c aw ak=>by rw [sd (by omega)];exact T7.2 j c aw (by rw [sd (by omega)];exact ak)⟩,?_⟩;subst P';refine N9 eG acp acu ru.l rfl (Ix (by simpa using hlen)) ?_;obtain ⟨gb,e,my⟩:=tM aq;have abc:rX o=.av (o.map h0) o.length (.own 1):=by rw [my];rfl
 rw [abc];unfold Wo;conv=>whnf
 refine ⟨rfl,ru.l,?_⟩;rw [←TW];unfold Ws;obtain ⟨dV,Cs⟩:∃ c,Rm=c:=⟨_,rfl⟩;rw [Cs];conv=>whnf
 rw [←aI];refine .intro (fun m T H'=>∃ i:Nat,i≤n∧m=n-i∧T=qa 86 [(4,.ptr 1 0),(6,.ptr 2 0),(7,.av (o.map h0) n (.own 1)),(28,.av (o.map h0) n .shared),(29,h0 n),(30,h0 i)]∧H'=Hs i) n ⟨0,sD _,rfl,rfl,gL.symm⟩ ?_;rintro m T H' ⟨i,hi,rfl,rfl,rfl⟩;conv=>whnf
 refine Hm (fun aR=>?_) (fun aR=>?_)
 ·have hg:i<n:=by omega
  have Ik:0≤(i:Int)∧(i:Int)<(o.length:Int):=by omega
  have a:=c1 i hi;obtain ⟨_,_,ah,a7,a9⟩:=Lk i hg a.1;have rz:IntKind.i64.wrap ((i:Int)+1)=((i+1:Nat):Int):=by rw [Hj _ (by omega) (by omega)];omega
  subst Cs;unfold Rm Wt;obtain ⟨bt,eS⟩:∃ c,N5=c:=⟨_,rfl⟩;rw [eS];conv=>whnf
  refine ⟨by omega,?_⟩;rw [rb h0 o (i:Int) Ik];conv=>whnf
  refine ⟨ah,?_⟩;conv=>whnf
  refine Ex a.1.m ?_;conv=>whnf
  refine Ex (x:=h0 (ix (Hk i) (ix o i))) (ZU ah a.1.n) ?_;conv=>whnf
  refine Hm (fun aB=>?_) (fun aB=>?_)
  ·(conv=>whnf);refine ⟨n-(i+1),by omega,i+1,by omega,rfl,by rw [rz];rfl,?_⟩;rw [a7 aB]
  ·obtain ⟨x,y,H1,H2,a1⟩:=a9 aB;subst eS;rcases a1 with ⟨af,Nv,b9,ca,cf,s1,s2⟩ | ⟨af,Nv,b9,ca,cf,s1,s2⟩
   ·unfold N5;obtain ⟨ZD,Mo⟩:∃ c,MN=c:=⟨_,rfl⟩;rw [Mo];(conv=>whnf);refine Ex a.1.p ?_;(conv=>whnf);refine ⟨by decide,?_⟩;(conv=>whnf);rw [←aI] at s1 s2;refine ⟨_,_,re s1,?_⟩;(conv=>whnf);subst Mo;unfold MN;obtain ⟨B9,Ml⟩:∃ c,ML=c:=⟨_,rfl⟩;rw [Ml];(conv=>whnf);refine Ex cf.p ?_;(conv=>whnf);refine ⟨by decide,?_⟩;(conv=>whnf);refine ⟨_,_,re s2,?_⟩;(conv=>whnf);subst Ml;unfold ML;cases aj:x.2 <;> cases aY:y.2 <;> rw [aj,aY] at af
    ·cases af
    ·cases af
    ·cases af
    ·(conv=>whnf);refine ⟨ah,?_⟩;(conv=>whnf);refine Ex ca.m ?_;(conv=>whnf);refine Gp (by rw [sX,ca.n];omega) ?_;(conv=>whnf);refine ⟨n-(i+1),by omega,i+1,by omega,rfl,by rw [rz];rfl,?_⟩;rw [b9,Nv,tI,sB,tp]
   ·unfold N5;obtain ⟨ZD,Mo⟩:∃ c,MN=c:=⟨_,rfl⟩;rw [Mo];(conv=>whnf);refine Ex a.1.p ?_;(conv=>whnf);refine ⟨by decide,?_⟩;(conv=>whnf);rw [←aI] at s1 s2;refine ⟨_,_,re s1,?_⟩;(conv=>whnf);subst Mo;unfold MN;obtain ⟨B9,Ml⟩:∃ c,ML=c:=⟨_,rfl⟩;rw [Ml];(conv=>whnf);refine Ex cf.p ?_;(conv=>whnf);refine ⟨by decide,?_⟩;(conv=>whnf);refine ⟨_,_,re s2,?_⟩;(conv=>whnf);subst Ml;unfold ML;cases aj:x.2 <;> cases aY:y.2 <;> rw [aj,aY] at af
    ·(conv=>whnf);refine ⟨n-(i+1),by omega,i+1,by omega,rfl,by rw [rz];rfl,?_⟩;rw [b9]
    ·(conv=>whnf);refine ⟨n-(i+1),by omega,i+1,by omega,rfl,by rw [rz];rfl,?_⟩;rw [b9]
    ·(conv=>whnf);refine ⟨n-(i+1),by omega,i+1,by omega,rfl,by rw [rz];rfl,?_⟩;rw [b9]
    ·cases af
 ·obtain rfl:i=n:=by omega
  conv=>whnf
  exact ⟨rfl,J5.l,lJ.refl _⟩
end Go.Proofs.Ytkoioidpbbbaiaa.Ab


namespace Go.Proofs.Ytkoioidpbbbaiaa.Ab
open Go
noncomputable def QP:gE :=
 .ow false [p3 75 14,p3 76 14,qU 77 76,p1 78 14,qU 79 78,p0 80 [.jq 75,.jq 77,.jq 79] (.Bj 1 false true true),p1 81 15,p0 82 [.Bu 81] (.yD 1 1 [.int .i64 0] [0]),p0 83 [.jq 80,.jq 82] (.app 1 8),p1 14 83]
noncomputable def QQ:gE :=
 .block 5 (p2 [p3 71 69, p0 72 [.nd 68, .nd 69] (.other (Oper.mk (some 72) (Op.index 87 (Operand.tmp 68) (Operand.tmp 69)) 3 "curl.go:170" (Array.mk []) none) 0), p1 15 71, p1 16 72] (p2 [p1 73 16, qw 74 73 0 .gtr] (.cond (.nd 74) QP .skip)))
noncomputable def QR:gE :=
 .seq (p2 [p0 68 [.Bu 6] (.zG (.arr 7)),qc 69 0] (.block 4 (.loop (some (p8 false [14,1,53,2,16])) (p2 [p0 70 [.nd 69,.cv (.int .i64 7)] (.bin .lss)] (.seq (.cond (.nd 70) .skip (.exit 4)) (.seq QQ (qG [qT 84 69 1,p1 69 84]))))))) (p2 [p1 85 14,p1 2 85,qc 3 0] .ret)
noncomputable def MF:gE :=
 .seq (p2 [p0 65 [.nd 6] (.zG (.arr 7)), p0 66 [] (.build [.int .i64 0, .int .i64 0, .int .i64 0, .int .i64 0, .int .i64 0, .int .i64 0, .int .i64 0] []), p0 67 [.Bu 65, .Bu 66] (.other (Oper.mk (some 67) (Op.binOp .eql 87 (Operand.tmp 65) (Operand.tmp 66) 87) 4 "curl.go:166" (Array.mk [Edge.mk 0 Ground.data, Edge.mk 1 Ground.data]) none) 0)] (.cond (.nd 67) (p2 [p0 2 [.cv (.av [] 0 .full)] (.nil 1), qc 3 0] .ret) .skip)) (p2 [p0 14 [.cv (.av [] 0 .full)] (.nil 1)] QR)
noncomputable def NL:gE :=
 .seq (p2 [p3 22 5,qw 23 22 0 .neq] (.cond (.nd 23) (p2 [p1 24 5,p0 2 [.cv (.av [] 0 .full)] (.nil 1),p1 3 24] .ret) .skip)) (p2 [p0 6 [] (.alloc [.int .i64 0,.int .i64 0,.int .i64 0,.int .i64 0,.int .i64 0,.int .i64 0,.int .i64 0])] (.seq (p2 [p0 25 [.nd 4] (.zG .one),p0 26 [.cv (.func 46 [] []),.jq 25] (.call 9)] (.block 0 (.AO (.nd 26) [27] (q8 Go.Proofs.Try.prog 25 0) (q9 Go.Proofs.Try.prog 25 0)))) MF))
noncomputable def VW:gE :=
 p2 [p0 18 [.Bu 1] (.zG (.str 3)),p0 19 [.cv (.func 36 [] []),.jq 18,.cv (.av [] 0 .full)] (.call 8),p1 17 19,qL 20 17 0,p0 21 [.Bu 17] (.ext 1),p0 4 [] (.alloc [.eI]),⟨none,[.nd 4,.jq 20],none,none,.st 1⟩,p1 5 21] NL
noncomputable def VV:gE :=
 p2 [p0 1 [.jq 0] .yA,p0 2 [.cv (.av [] 0 .full)] (.nil 1),qc 3 0] VW
theorem ab9:ql Go.Proofs.Try.prog Js 25=some (VV,86,[.tmp 2,.tmp 3]):=by kernel_rfl
end Go.Proofs.Ytkoioidpbbbaiaa.Ab


namespace Go.Proofs.Ytkoioidpbbbaiaa.Ab
open Go
set_option maxRecDepth 20000
set_option maxHeartbeats 4000000
theorem WD {P:Program} {k:FuncId} {args:List I} {H H':List ar} {lo:Nat} {r:I} (h:Sem P (.fn k) (args.map I.cc) H lo r H'):Sem P (.fn k) args H lo r H':=by
 obtain ⟨aQ,ab,ae⟩:=h;exact ⟨aQ,ab,fun B aa J S w vs ag aI ad=>ae B aa J S w vs ag aI ad.cc⟩
abbrev Lc (p:p_):List I:=[(.agg [(.av (p.1.flatMap p7) p.1.length .shared),(h0 p.2.1),(h0 p.2.2)]),(.av [] 0 .full)]
section
variable {p:p_}
theorem ZJ {e:Int} {lo:Nat} (h:rD p []=some (none,e)):oW Try.prog 8 lo (.fn 36) (Lc p) [] (.tuple [.eI,h0 e]) [] :=
 ⟨_,EC (r:=.tuple [.eI,h0 e]) (H':=[rv p]) (WD (args:=Lc p) (by exact XB h)),by
  show (k_ _ _ _ _ _ _ (.fn 36) (Lc p) [] 0).bind _=_
  rw [EB];rfl⟩
theorem ZL {t:p_×Unit} {e:Int} {lo:Nat} (h:rD p []=some (some t,e)):oW Try.prog 8 lo (.fn 36) (Lc p) [] (.tuple [.bS [(.av (p.1.flatMap p7) p.1.length .shared),(h0 p.2.1),(h0 p.2.2),.map 0],h0 0]) [.map [] 0] :=
 ⟨_,EC (r:=.tuple [.ptr 2 0,h0 0]) (H':=[rv p,.map [] 0,.cells [(.av (p.1.flatMap p7) p.1.length .shared),(h0 p.2.1),(h0 p.2.2),.map 1]]) (WD (args:=Lc p) (by exact (MY h).2.2)),by
  show (k_ _ _ _ _ _ _ (.fn 36) (Lc p) [] 0).bind _=_;rw [EB];have e1:ea (bM [rv p,.map [] 0,.cells [(.av (p.1.flatMap p7) p.1.length .shared),(h0 p.2.1),(h0 p.2.2),.map 1]] 0 1 0 6) [(.av (p.1.flatMap p7) p.1.length .shared),(h0 p.2.1),(h0 p.2.2),.map 1]=some [(.av (p.1.flatMap p7) p.1.length .shared),(h0 p.2.1),(h0 p.2.2),.map 0] :=
   rk (yY (Hv (fun _=>p5 rfl (p5 rfl rfl)) _ _ _)) (rk (yY rfl) (rk (yY rfl) (rk rfl Iy)))
  have b':bM [rv p,.map [] 0,.cells [(.av (p.1.flatMap p7) p.1.length .shared),(h0 p.2.1),(h0 p.2.2),.map 1]] 0 1 0 8 (.tuple [.ptr 2 0,h0 0])=some (.tuple [.bS [(.av (p.1.flatMap p7) p.1.length .shared),(h0 p.2.1),(h0 p.2.2),.map 0],h0 0]) :=
   Mk (rk (show (ea (bM [rv p,.map [] 0,.cells [(.av (p.1.flatMap p7) p.1.length .shared),(h0 p.2.1),(h0 p.2.2),.map 1]] 0 1 0 6) [(.av (p.1.flatMap p7) p.1.length .shared),(h0 p.2.1),(h0 p.2.2),.map 1]).map I.bS=_ by rw [e1];rfl) (rk rfl Iy))
  show (match mapM (bM [rv p,.map [] 0,.cells [(.av (p.1.flatMap p7) p.1.length .shared),(h0 p.2.1),(h0 p.2.2),.map 1]] 0 1 0 8) [],bM [rv p,.map [] 0,.cells [(.av (p.1.flatMap p7) p.1.length .shared),(h0 p.2.1),(h0 p.2.2),.map 1]] 0 1 0 8 (.tuple [.ptr 2 0,h0 0]) with | some es',some v=>some (v,[]++[ar.map es' 0]) | _,_=>none)=_
  rw [b'];rfl⟩
end
def Lf (b:rQ) (F:List Int) (o:List Int):Option (List Int):=Ij (Jv b o) (qh o.length) F
def Kv (F:List Int):List Int×Int:=if decide (F=[0,0,0,0,0,0,0])=true then ([],0) else ((qh 7).filter (fun s=>decide (0<ix F s)),0)
def KX (p:p_):Option (List Int×Int) :=
 (rD p []).bind fun r=>match r with
 | (none,q)=>if decide (q≠0)=true then some ([],q) else none
 | (some b,_) =>
   qy (0<b.1.1.length∧b.1.1.length≤7) <|
   (Ij (Lf b) (qW b.1.1.length (qh b.1.1.length)) [0,0,0,0,0,0,0]).bind fun F =>
   some (Kv F)
theorem ab1 {n:Nat} {left:List Int}:∀ e∈qW n left,e.length=n:=fun e he=>by
 induction n generalizing left e with
 | zero=>simp [qW] at he;simp [he]
 | succ n a8 =>
   simp only [qW,List.mem_flatMap,List.mem_map] at he;obtain ⟨x,_,l,ao,rfl⟩:=he;simp [a8 l ao]
theorem Good.more {b:rQ} {rE:ar} {F:List Int} {H:List ar} (h:Good b rE F H) (Z:List ar):Good b rE F (H++Z) :=
 h.ext (h.f.more Z) ⟨by simp,fun j _ aw=>by rw [sg aw]⟩
theorem Good.afa {b:rQ} {rE:ar} {F:List Int} {H:List ar} {j:Nat} {c:List I} (dU:List I) (h:Good b rE F H) (aw:4≤j) (ak:H[j]?=some (.cells c)):Good b rE F (H.set j (.cells dU)) :=
 ⟨h.f.rO ak (fun _ _ e=>by cases e),by rw [sd (by omega)];exact h.p,by rw [sd (by omega)];exact h.m,by rw [sd (by omega)];exact h.l,h.n⟩
theorem W7 (n:Nat):qh (n+1)=qh n++[(n:Int)]:=by simp [qh,vE]
theorem afv {b:rQ} {rE:ar} {F:List Int} {H':List ar} (ru:Good b rE F H') {gv Gj rJ IQ LZ:I} {Q:cQ→List I→List ar→Prop}
  (jK:∀ T H,Hl [.tmp 2,.tmp 3] (.tuple [.av ((Kv F).1.map h0) (Kv F).1.length .shared,h0 (Kv F).2]) .ret T H→Q .ret T H) :
  dQ Try.prog Js 25 0 none MF (qa 86 [(2,gv),(3,Gj),(4,.ptr 1 0),(5,rJ),(6,.ptr 2 0),(23,IQ),(26,LZ)]) (H'.set 3 .dead) Q:=by
 unfold MF;obtain ⟨bt,eS⟩:∃ c,QR=c:=⟨_,rfl⟩;rw [eS];have hm:(H'.set 3 .dead)[2]?=some (.cells (F.map h0)):=by rw [sd (by omega)];exact ru.m
 have aI:=ru.n;conv=>whnf
 refine Ex hm ?_;conv=>whnf
 refine ⟨by simp [aI],?_⟩;rw [Up h0 F (fun _=>rfl) aI];conv=>whnf
 refine ⟨_,_,fun C=>Qr rfl rfl (YI .i64 (e:=3) (len:=7) (kd:=.i64) (xs:=F) (ys:=[(0:Int),0,0,0,0,0,0]) (by kernel_rfl) (by kernel_rfl) (by kernel_rfl) (by kernel_rfl) aI rfl),?_⟩;conv=>whnf
 unfold Kv at jK;refine Hm (fun bk=>?_) (fun bk=>?_)
 ·rw [decide_eq_true bk] at jK;conv=>whnf
  exact jK _ _ (Ie rfl rfl)
 ·rw [decide_eq_false bk] at jK;conv=>whnf
  subst eS;unfold QR;obtain ⟨a9,ca⟩:∃ c,QQ=c:=⟨_,rfl⟩;rw [ca];conv=>whnf
  refine Ex hm ?_;conv=>whnf
  refine ⟨by simp [aI],?_⟩;rw [Up h0 F (fun _=>rfl) aI];conv=>whnf
  refine .intro (fun m T H=>∃ (i:Nat) (L:List Int) (c:hE),i≤7∧m=7-i∧L=(qh i).filter (fun s=>decide (0<ix F s))∧c=.uniq 1∧T=qa 86 [(14,.av (L.map h0) L.length c),(68,.agg (F.map h0)),(69,h0 i)]∧H=H'.set 3 .dead) 7 ⟨0,[],_,by omega,rfl,rfl,rfl,rfl,rfl⟩ ?_;rintro m T H ⟨i,L,c,hi,rfl,fq,rfl,rfl,rfl⟩;conv=>whnf
  refine Hm (fun aR=>?_) (fun aR=>?_)
  ·(have rz:IntKind.i64.wrap ((i:Int)+1)=((i+1:Nat):Int):=by rw [Hj _ (by omega) (by omega)];omega);subst ca;unfold QQ;obtain ⟨a7,cf⟩:∃ c,QP=c:=⟨_,rfl⟩;rw [cf];(conv=>whnf);refine ⟨_,_,fun C=>adv rfl (YJ (e:=3) (len:=7) (kd:=.i64) (by kernel_rfl) (by kernel_rfl) (by kernel_rfl) (by kernel_rfl) aI ⟨by omega,aR⟩),?_⟩;(conv=>whnf);refine Hm (fun aB=>?_) (fun aB=>?_)
   ·subst cf;unfold QP;have ahp:L.length≤7:=by
     have:=List.length_filter_le (fun s=>decide (0<ix F s)) (qh i);rw [KR] at this;rw [fq];omega
    (conv=>whnf);refine ⟨⟨rfl,by omega,sU _⟩,?_⟩;(conv=>whnf);rw [tw,tp,tg (by simp)];refine ⟨rfl,by decide,?_⟩;(conv=>whnf);refine ⟨by decide,by omega,by simp,?_⟩;(conv=>whnf);refine ⟨7-(i+1),by omega,i+1,_,.uniq 1,by omega,rfl,rfl,rfl,?_,rfl⟩;rw [W7,uc,←fq,show [(i:Int)].filter (fun s=>decide (0<ix F s))=[(i:Int)] by simp [aB],sP,sy,rz];rfl
   ·(conv=>whnf);refine ⟨7-(i+1),by omega,i+1,L,.uniq 1,by omega,rfl,?_,rfl,by rw [rz];rfl,rfl⟩;rw [W7,uc,←fq,show [(i:Int)].filter (fun s=>decide (0<ix F s))=[] by simp [aB],sM]
  ·(obtain rfl:i=7:=by omega);(conv=>whnf);rw [fq];exact jK _ _ (Ie rfl rfl)
theorem Xx {p:p_} {v:List Int×Int} (h:KX p=some v):qu 25 [.agg [.av (p.1.flatMap p7) p.1.length .shared,h0 p.2.1,h0 p.2.2]] (.tuple [.av (v.1.map h0) v.1.length .shared,h0 v.2]):=by
 unfold KX at h;obtain ⟨⟨aS,bj⟩,ai,h⟩:=p9 h;refine qH eG ab9 rfl (Jf (p5 (rA (fun _=>rfl) _ _ _) (p5 rfl rfl))) fun Q bp=>?_;have jK:∀ T H,Hl [.tmp 2,.tmp 3] (.tuple [.av (v.1.map h0) v.1.length .shared,h0 v.2]) .ret T H→Q .ret T H:=fun T H bE=>bp _ T H bE;unfold VV VW;obtain ⟨dV,Cs⟩:∃ c,NL=c:=⟨_,rfl⟩;rw [Cs];conv=>whnf
 refine ⟨rfl,?_⟩;conv=>whnf
 rcases aS with _ | b
 ·refine ⟨_,_,ZJ ai,?_⟩;conv=>whnf
  subst Cs;unfold NL;refine bs h (fun af h=>?_) fun af h=>?_
  ·obtain ⟨b6,iP⟩:∃ c,MF=c:=⟨_,rfl⟩;rw [iP];rw [show I.int IntKind.i64 bj=h0 bj from rfl];(conv=>whnf);rw [af];(conv=>whnf);obtain rfl:=Option.some.inj h;exact jK _ _ (Ie rfl rfl)
  ·cases h
 ·obtain ⟨rfl,rfl,_⟩:=MY ai;refine ⟨_,_,ZL ai,?_⟩;conv=>whnf
  obtain ⟨⟨Dj,Lo⟩,h⟩:=rL h;obtain ⟨F,ao,h⟩:=p9 h;obtain rfl:=Option.some.inj h;subst Cs;unfold NL;obtain ⟨b6,iP⟩:∃ c,MF=c:=⟨_,rfl⟩;rw [iP];conv=>whnf
  refine ⟨_,_,call9 (bs:=[lq (p,())]) rfl (p5 (H4 (p,())) rfl) (RG (b:=(p,())) (v:=()) rfl),?_⟩;obtain ⟨bt,eS⟩:∃ c,gE.AO (.nd 26) [27] (q8 Try.prog 25 0) (q9 Try.prog 25 0)=c:=⟨_,rfl⟩;rw [eS];conv=>whnf
  subst eS;obtain ⟨Hk,Mr,KB,PE⟩:=Ns ao;obtain ⟨rE,Nx⟩:∃ rE:ar,rE=.loop .ready none 25 (qa 86 [(2,I.view (.av [] 0 (.uniq 1))),(3,h0 0),(4,.ptr 1 0),(5,h0 0),(6,.ptr 2 0),(23,B (decide ((0:Int)≠0))),(26,I.view (.func 65 [] [.bS [lq (p,())]]))]) [27] (q8 Try.prog 25 0) (q9 Try.prog 25 0) Js:=⟨_,rfl⟩;have kN:∀ c,rE≠.cells c:=fun c e=>by rw [Nx] at e;cases e
  refine aeZ (f:=rX) (ae6 (b:=(p,())) Lo Dj) (Inv:=fun i H=>Good (p,()) rE (Hk i) H) (by exact rfl) ⟨fun i H ru=>⟨sG _,(sa.1 ru.l).1⟩,fun i H Z ru=>ru.more Z,fun i H j c dU ru aw ak=>ru.afa dU aw ak⟩ ?_ ?_ (rl:=none) (by exact rfl) ?_ ?_
  ·show Good _ _ (Hk 0) _;rw [Mr,Nx];exact ⟨⟨[],0,rfl,fun e he=>absurd he (by simp)⟩,rfl,rfl,rfl,rfl⟩
  ·intro i hi H1 ru;rw [Nx] at ru ⊢;exact aeX (Qj Dj _ (tQ hi)) (by rw [ab1 _ (tQ hi)];omega) (PE i hi) ru
  ·intro H' ru;rw [Nx] at ru;exact ru.l
  ·intro H' ru;rw [KB] at ru;subst iP;exact afv ru jK

end Go.Proofs.Ytkoioidpbbbaiaa.Ab


namespace Go.Proofs.Ytkoioidpbbbaiaa.Ab
open Go
set_option maxRecDepth 20000
set_option maxHeartbeats 1000000
def C_ (p:p_) (o:List Int) (i:Nat):Bool:=decide (HA p o (1-i % 2)) && decide (I7 p o (i % 2) i)
abbrev HX:=Nat→Bool
def MU (p:p_) (o:List Int) (i:Nat) (M:HX):HX:=fun s=>M s || (decide (s=(ix o (i:Int)).toNat) && C_ p o i)
def JN (p:p_) (o:List Int) (M:HX):Nat→HX
 | 0=>M
 | k+1=>MU p o k (JN p o M k)
def allM (p:p_):List (List Int)→HX→HX
 | [],M=>M
 | o::r,M=>allM p r (JN p o M o.length)
def HM (p:p_):HX:=allM p (rr p) fun _=>false
theorem U5 {p:p_} {o:List Int} {M:HX} {s:Nat}:∀ {k:Nat},JN p o M k s=true↔M s=true∨∃ i,i<k∧s=(ix o (i:Int)).toNat∧C_ p o i=true
 | 0=>by simp [JN]
 | k+1=>by
   unfold JN MU;rw [tt,U5,sn,decide_eq_true_eq];constructor
   ·rintro ((h | ⟨i,ab,ae⟩) | h)
    ·exact .inl h
    ·exact .inr ⟨i,by omega,ae⟩
    ·exact .inr ⟨k,by omega,h⟩
   ·rintro (h | ⟨i,ab,ae⟩)
    ·exact .inl (.inl h)
    ·by_cases e:i=k
     ·subst e;exact .inr ae
     ·exact .inl (.inr ⟨i,by omega,ae⟩)
theorem Sa {p:p_} {s:Nat}:∀ {E:List (List Int)} {M:HX},allM p E M s=true↔M s=true∨∃ o∈E,∃ i,i<o.length∧s=(ix o (i:Int)).toNat∧C_ p o i=true
 | [],M=>by simp [allM]
 | o::r,M=>by
   unfold allM;rw [Sa,U5];constructor
   ·rintro ((h | h) | ⟨cz,ab,ae⟩)
    ·exact .inl h
    ·exact .inr ⟨o,by simp,h⟩
    ·exact .inr ⟨cz,by simp [ab],ae⟩
   ·rintro (h | ⟨cz,ab,ae⟩)
    ·exact .inl (.inl h)
    ·rcases sA.1 ab with rfl | ab
     ·exact .inl (.inr ae)
     ·exact .inr ⟨cz,ab,ae⟩
theorem Pl {p:p_} {s:Nat}:HM p s=true↔∃ o,qq p.1.length o∧∃ i,i<o.length∧s=(ix o (i:Int)).toNat∧C_ p o i=true:=by
 unfold HM;rw [Sa];constructor
 ·rintro (h | ⟨o,ab,ae⟩)
  ·cases h
  ·exact ⟨o,Lt.1 ab,ae⟩
 ·rintro ⟨o,ab,ae⟩;exact .inr ⟨o,Lt.2 ab,ae⟩
theorem Zt {p:p_} {s:Nat} (h:HM p s=true):s<p.1.length:=by
 obtain ⟨o,k,i,hi,rfl,_⟩:=Pl.1 h;have:=rZ k i hi;omega
def I6 (p:p_):List Int:=(qh p.1.length).filter fun s=>HM p s.toNat
def z0 (M:HX):List Int:=(List.range 7).map fun s=>if M s=true then 1 else 0
theorem adg (M:HX):(z0 M).length=7:=by simp [z0]
theorem UO (M:HX) {s:Nat} (h:s<7):ix (z0 M) (s:Int)=if M s=true then 1 else 0:=by
 rw [rI (by rw [adg];exact h)];simp [z0]
theorem adh (M:HX) {v:Nat} (h:v<7):(z0 M).set v 1=z0 fun s=>M s || decide (s=v):=by
 apply List.ext_getElem (by simp [z0]);intro j ab ae;rw [List.getElem_set];simp only [z0,ub,List.getElem_range];by_cases e:v=j
 ·subst e;simp
 ·rw [if_neg e]
  have:decide (j=v)=false:=by simp;omega
  rw [this,vH]
section
variable {p:p_} {o:List Int}
theorem Zu (h:q3 p) (k:qq p.1.length o) {i:Nat} (hi:i<o.length) (M:HX):Jv (p,()) o (z0 M) (i:Int)=some (z0 (MU p o i M)):=by
 have abw:=qq.Ur h k;have ai:=rZ k i hi;have aI:=k.1;obtain ⟨v,ad⟩:∃ v:Nat,ix o (i:Int)=(v:Int):=⟨(ix o (i:Int)).toNat,by omega⟩;have hu:MU p o i M=fun s=>M s || (decide (s=v) && C_ p o i):=by unfold MU;rw [ad];rfl
 rw [hu];unfold Jv;rw [ad] at ai ⊢;rw [qE (by omega),UO M (by omega)];cases CB:M v with
 | true =>
   rw [if_pos (by simp)];congr 1;unfold z0;refine List.map_congr_left fun s _=>?_;by_cases e:s=v
   ·subst e;simp [CB]
   ·simp [e]
 | false =>
   rw [if_neg (by simp),MT];(have e1:w (1-((i % 2:Nat):Int))=((1-i % 2:Nat):Int):=by rw [qO (by omega)];omega);rw [e1,XO h k,sb];unfold C_;rcases XN h k (a:=i % 2) hi with ⟨s,ab,ae,aF⟩ | ⟨ab,ae⟩
   ·rw [ab,sb,decide_eq_true (Nj.2 ⟨s,ae,aF⟩)];simp only [tu];by_cases aP:HA p o (1-i % 2)
    ·rw [if_pos (decide_eq_true aP),decide_eq_true aP,tw,adh M (by omega)];simp only [tu]
    ·rw [if_neg (by simpa using aP),decide_eq_false aP];simp only [Bool.and_false,vH]
   ·rw [ab,sb,decide_eq_false ae];simp only [Bool.and_false,vH];rw [if_neg (by decide)]
theorem Tp (h:q3 p) (k:qq p.1.length o) (M:HX):∀ (m i:Nat),i≤o.length→o.length-i=m→Ij (Jv (p,()) o) ((qh o.length).drop i) (z0 (JN p o M i))=some (z0 (JN p o M o.length))
 | 0,i,hi,hm=>by
   (obtain rfl:i=o.length:=by omega);rw [List.drop_of_length_le (by rw [Kd];omega)];rfl
 | m+1,i,hi,hm=>by
   (have aR:i<o.length:=by omega);have e1:(qh o.length).drop i=(i:Int)::(qh o.length).drop (i+1):=by
    rw [s7 (by rw [Kd];omega)];congr 1;rw [←rI,Qf aR]
   rw [e1];show (Jv (p,()) o (z0 (JN p o M i)) (i:Int)).bind (fun t=>Ij (Jv (p,()) o) _ t)=_;rw [Zu h k aR,sb];exact Tp h k M m (i+1) (by omega) (by omega)
theorem Zv (h:q3 p) (k:qq p.1.length o) (M:HX):Lf (p,()) (z0 M) o=some (z0 (JN p o M o.length)):=Tp h k M o.length 0 (by omega) rfl
theorem Tr (h:q3 p):∀ (E:List (List Int)) (M:HX),(∀ o∈E,qq p.1.length o)→Ij (Lf (p,())) E (z0 M)=some (z0 (allM p E M))
 | [],_,_=>rfl
 | o::r,M,rV=>by
   show (Lf (p,()) (z0 M) o).bind (fun t=>Ij (Lf (p,())) r t)=_;rw [Zv h (rV o (by simp)),sb];exact Tr h r _ fun cz aX=>rV cz (by simp [aX])
theorem Zm {p:p_} (h:q3 p):Kv (z0 (HM p))=(I6 p,0):=by
 have gb:(qh 7).filter (fun s=>decide (0<ix (z0 (HM p)) s))=(qh 7).filter fun s=>HM p s.toNat:=by
  refine List.filter_congr fun s ah=>?_;have:=My.1 ah;obtain ⟨v,rfl⟩:∃ v:Nat,s=(v:Int):=⟨s.toNat,by omega⟩;rw [UO _ (by omega),tw];cases HM p v <;> rfl
 have e1:(qh 7).filter (fun s=>HM p s.toNat)=I6 p:=by
  unfold I6;have key:∀ r:List Int,(∀ s∈r,(p.1.length:Int)≤s)→r.filter (fun s=>HM p s.toNat)=[]:=fun r ai=>by
   rw [List.filter_eq_nil_iff];intro s ah af;have:=Zt af;have:=ai s ah;omega
  rcases h.n with e | e | e
  ·rw [e,show qh 7=qh 3++[3,4,5,6] from rfl,uc,key [3,4,5,6] (by rw [e];decide),sM]
  ·rw [e,show qh 7=qh 5++[5,6] from rfl,uc,key [5,6] (by rw [e];decide),sM]
  ·rw [e]
 unfold Kv;by_cases bk:z0 (HM p)=[0,0,0,0,0,0,0]
 ·rw [if_pos (decide_eq_true bk)];rw [bk] at gb;rw [←e1,←gb];rfl
 ·rw [if_neg (by simpa using bk),gb,e1]
theorem Xw (aB:p.1.length≤1000):KX p=some (if rh p=0 then (I6 p,0) else ([],rh p)):=by
 unfold KX;rw [RF aB,sb];by_cases h:rh p=0
 ·rw [if_pos h,if_pos h];have ad:=JE.1 h;have ao:=ad.len;simp only;rw [qE (show 0<p.1.length∧p.1.length≤7 by omega)];have e:Ij (Lf (p,())) (qW p.1.length (qh p.1.length)) [0,0,0,0,0,0,0]=some (z0 (HM p)):=Tr ad (rr p) (fun _=>false) fun o aq=>Lt.1 aq;rw [e,sb,Zm ad]
 ·rw [if_neg h,if_neg h];simp only;rw [if_pos (decide_eq_true h)]
end
end Go.Proofs.Ytkoioidpbbbaiaa.Ab


namespace Go.Proofs.Ytkoioidpbbbaiaa.Ab
open Go
set_option maxRecDepth 20000
set_option maxHeartbeats 4000000
noncomputable def OJ:gE :=
 .loop (some (p8 false [0,2,3,1,20])) (.seq (p2 [p3 11 5,p3 12 0,qU 13 12,qo 14 11 13 .lss] (.cond (.nd 14) .skip (.exit 0))) (.seq (.block 1 (.seq (q_ [p3 17 0,p3 18 5,q5 19 17 18 1,qf 20 19,p3 21 1,p3 22 5,q5 23 21 22 1,qf 24 23,qo 25 20 24 .neq]) (.cond (.nd 25) (p2 [p0 4 [.cv (.bool false)] .mV] .ret) .skip))) (qG [p1 15 5,qT 16 15 1,p1 5 16])))
noncomputable def X3:gE :=
 p2 [p0 4 [.cv (.bool false)] .mV] (.seq (p2 [p3 6 0,qU 7 6,p3 8 1,qU 9 8,qo 10 7 9 .neq] (.cond (.nd 10) (p2 [p0 4 [.cv (.bool false)] .mV] .ret) .skip)) (.seq (p2 [qc 5 0] (.block 0 OJ)) (p2 [p0 4 [.cv (.bool true)] .mV] .ret)))
theorem acG:ql Try.prog O_ 27=some (X3,26,[.tmp 4]):=by kernel_rfl
def MX (a b:qb) (qd:Unit→Option Bool):Nat→Int→Option Bool
 | 0,_=>none
 | m+1,s1 =>
   if (decide (s1<(a.length:Int)))=true then
    qy (0≤s1∧s1<(a.length:Int)) <|
    qy (0≤s1∧s1<(b.length:Int)) <|
    if (decide ((ix a s1)≠(ix b s1)))=true then
     some false
    else
     MX a b qd m (w (s1+(1:Int)))
   else
    qd ()
def L2 (a b:qb):Option Bool :=
 if (decide ((a.length:Int)≠(b.length:Int)))=true then
  some false
 else
  MX a b (fun _ =>
    some true) qk (0:Int)
theorem agb {a:qb} {b:qb} {qd:Unit→Option Bool} {s1:Int} {v:Bool} {Q:HL}   (jK:qJ [.tmp 4] Q (fun v=>(B v)) v) (rn:∀ (qe:List I),qd ()=some v→rm 26 [] qe→Q (.exit 0) qe []) {T:List I} (b0:eZ (p8 false [0,2,3,1,20]) T=qa 26 [(0,(qM a .shared)),(1,(qM b .shared)),(5,(h0 s1))]) (h:MX a b qd qk s1=some v) :
  dQ Try.prog O_ 27 0 none OJ T [] Q:=by
 unfold OJ;refine wp_loop b0 ?_;refine .intro (fun m T H=>∃ (s1:Int),T=qa 26 [(0,(qM a .shared)),(1,(qM b .shared)),(5,(h0 s1))]∧H=[]∧MX a b qd m s1=some v) qk ⟨s1,rfl,rfl,h⟩ ?_;clear h b0;rintro m T H ⟨s1,rfl,rfl,h⟩;cases m
 ·exact rT h
 rename_i m;rw [MX.eq_2] at h;conv=>whnf
 refine bs h (fun gN h=>?_) fun gN h=>?_
 ·rw [gN];conv=>whnf
  refine qV h id fun qs h=>?_;rw [rb h0 a s1 qs];conv=>whnf
  refine qV h id fun qP h=>?_;rw [rb h0 b s1 qP];conv=>whnf
  refine bs h (fun rj h=>?_) fun rj h=>?_
  ·rw [rj];(conv=>whnf);exact qg h jK rfl rfl
  ·rw [rj];(conv=>whnf);exact ⟨m,sG m,(w (s1+(1:Int))),rfl,rfl,h⟩
 ·rw [gN];conv=>whnf
  exact rn  _ h ⟨rfl,rfl⟩
theorem Rz {a:qb} {b:qb} {v:Bool} (h:L2 a b=some v):qu 27 [(.av (a.map h0) a.length .shared),(.av (b.map h0) b.length .shared)] (B v):=by
 refine qH eG acG rfl rfl fun Q bp=>?_;have jK:qJ [.tmp 4] Q (fun v=>(B v)) v:=fun T H bE=>bp _ T H bE;unfold L2 at h;unfold X3;obtain ⟨HY,qF⟩:∃ c,OJ=c:=⟨_,rfl⟩;rw [qF];conv=>whnf
 refine bs h (fun gM h=>?_) fun gM h=>?_
 ·rw [gM];conv=>whnf
  exact qg h jK rfl rfl
 ·rw [gM];conv=>whnf
  subst qF;refine agb ?_ ?_ (by exact rfl) h
  ·exact fun T H bE=>jK T H bE
  ·intro  qe h qA;obtain ⟨rG,rfl⟩:=qA.ex;(conv=>whnf);exact qg h jK rfl rfl

noncomputable def X5:gE :=
 p2 [p0 2 [.jq 0] .box,qc 4 0,qc 5 0] (p2 [p0 9 [.Bu 2] (.zG (.str 3)),p1 10 1,p0 11 [.cv (.func 22 [] []),.nd 9,.nd 10] (.call 3),p1 8 11,qL 12 8 0,p0 13 [.Bu 8] (.ext 1),p1 6 12,p1 7 13] (p2 [p1 14 6,qU 15 14,p1 16 7,p1 4 15,p1 5 16] .ret))
theorem acI:ql Try.prog Sj 21=some (X5,17,[.tmp 4,.tmp 5]):=by kernel_rfl
def Kh (p:(qj×(Int×Int))) (order:qb):Option (Int×Int) :=
 (KW p order).bind fun aS =>
 some ((aS.1.length:Int),aS.2)
theorem Xu {p:(qj×(Int×Int))} {order:qb} {v:(Int×Int)} (h:Kh p order=some v):qu 21 [(.agg [(.av (p.1.flatMap p7) p.1.length .shared),(h0 p.2.1),(h0 p.2.2)]),(.av (order.map h0) order.length .shared)] (.tuple [(h0 v.1),(h0 v.2)]):=by
 refine qH eG acI rfl (Jf (p5 rfl (p5 rfl rfl))) fun Q bp=>?_;have jK:qJ [.tmp 4,.tmp 5] Q (fun v=>(.tuple [(h0 v.1),(h0 v.2)])) v:=fun T H bE=>bp _ T H bE;unfold Kh at h;unfold X5;conv=>whnf
 obtain ⟨aS,gM,h⟩:=p9 h;refine ⟨qi.pl,_,Xv gM,?_⟩;conv=>whnf
 exact qg h jK rfl rfl

def I5 (x:(Int×Int)):List I:=[(h0 x.1),(h0 x.2)]
theorem O2 (x:(Int×Int)):(I5 x).length=2:=rfl
instance {d:Nat} {x:(Int×Int)}:qi (d+1) (I5 x):=⟨(inferInstance:qi (d+1) [(h0 x.1),(h0 x.2)]).pl⟩
noncomputable def OV:gE :=
 .loop (some (p8 false [2,1,3,3,27])) (.seq (p2 [p3 13 8,qT 14 13 1,p3 15 2,qU 16 15,qo 17 14 16 .lss] (.cond (.nd 17) .skip (.exit 0))) (.seq (.block 1 (q_ [p0 20 [.nd 7] (.yO 0),p0 21 [.Bu 20] .take,p3 22 2,p3 23 8,q5 24 22 23 1,qf 25 24,p3 26 2,p3 27 8,qT 28 27 1,q5 29 26 28 1,qf 30 29,p0 31 [.Bu 25,.Bu 30] (.build [.int .i64 0,.int .i64 0] [(0,1),(1,1)]),p0 32 [.Bu 31] (.yD 1 2 [.int .i64 0,.int .i64 0] [0]),p0 33 [.jq 21,.jq 32] (.app 2 16),p0 34 [.nd 7] (.yO 0),⟨none,[.jq 34,.jq 33],none,none,.st 1⟩])) (qG [p1 18 8,qT 19 18 2,p1 8 19])))
noncomputable def Yn:gE :=
 p2 [p0 6 [] (.alloc [.av [] 0 .full,.int .i64 0,.int .i64 0])] (p2 [p1 9 0,p1 10 1,p0 11 [.Bu 9,.Bu 10] (.build [.int .i64 0,.int .i64 0] [(0,1),(1,1)]),p0 12 [.Bu 11] (.build [.av [] 0 .full,.int .i64 0,.int .i64 0] [(1,2)]),p0 7 [] (.alloc [.av [] 0 .full,.int .i64 0,.int .i64 0]),⟨none,[.nd 7,.jq 12],none,none,.st 3⟩] (.seq (p2 [qc 8 0] (.block 0 OV)) (p2 [p0 35 [.Bu 7] (.zG (.str 3)),⟨none,[.nd 6,.jq 35],none,none,.st 3⟩] .ret)))
theorem ac2:ql Try.prog Pd 54=some (Yn,36,[.cell 6 (.str 3)]):=by kernel_rfl
def M5 (x:qb) (qd:qj→Option (qj×(Int×Int))):Nat→Int→qj→Option (qj×(Int×Int))
 | 0,_,_=>none
 | m+1,s1,s2 =>
   if (decide ((w (s1+(1:Int)))<(x.length:Int)))=true then
    qy (0≤s1∧s1<(x.length:Int)) <|
    qy (0≤(w (s1+(1:Int)))∧(w (s1+(1:Int)))<(x.length:Int)) <|
    qy ((s2.length+1)*16≤140737488355328) <|
    M5 x qd m (w (s1+(2:Int))) (s2++[((ix x s1),(ix x (w (s1+(1:Int)))))])
   else
    qd s2
def M4 (lo hi:Int) (x:qb):Option (qj×(Int×Int)) :=
 M5 x (fun yo =>
   some (yo,(lo,hi))) qk (0:Int) ([]:List (Int×Int))
theorem agN {x:qb} {qd:qj→Option (qj×(Int×Int))} {s1:Int} {s2:qj} {lo:Int} {hi:Int} {v:(qj×(Int×Int))} {Q:HL}   {J3:hE} (rn:∀ (yo:qj) (qe:List I),qd yo=some v→rm 36 [(6,(.ptr 0 0)),(7,(.ptr 1 0))] qe→Q (.exit 0) qe [ar.cells [(.av [] 0 .full),(h0 (0:Int)),(h0 (0:Int))],ar.cells [(.av (yo.flatMap I5) yo.length .full),(h0 lo),(h0 hi)]]) (abv:∀ (yo:qj) (qe:List I),qd yo=some v→rm 36 [(6,(.ptr 0 0)),(7,(.ptr 1 0))] qe→Q (.exit 0) qe [ar.cells [(.av [] 0 .full),(h0 (0:Int)),(h0 (0:Int))],ar.cells [(.av (yo.flatMap I5) yo.length (.own 2)),(h0 lo),(h0 hi)]]) (P6:(J3=hE.full∨J3=(.own 2))) {T:List I} (b0:eZ (p8 false [2,1,3,3,27]) T=qa 36 [(2,(qM x .shared)),(6,(.ptr 0 0)),(7,(.ptr 1 0)),(8,(h0 s1))]) (h:M5 x qd qk s1 s2=some v) :
  dQ Try.prog Pd 54 0 none OV T [ar.cells [(.av [] 0 .full),(h0 (0:Int)),(h0 (0:Int))],ar.cells [(.av (s2.flatMap I5) s2.length J3),(h0 lo),(h0 hi)]] Q:=by
 unfold OV;refine wp_loop b0 ?_;refine .intro (fun m T H=>∃ (s1:Int) (s2:qj) (J3:hE),(J3=hE.full∨J3=(.own 2))∧T=qa 36 [(2,(qM x .shared)),(6,(.ptr 0 0)),(7,(.ptr 1 0)),(8,(h0 s1))]∧H=[ar.cells [(.av [] 0 .full),(h0 (0:Int)),(h0 (0:Int))],ar.cells [(.av (s2.flatMap I5) s2.length J3),(h0 lo),(h0 hi)]]∧M5 x qd m s1 s2=some v) qk ⟨s1,s2,_,P6,rfl,rfl,h⟩ ?_;clear h b0;rintro m T H ⟨s1,s2,J3,P6,rfl,rfl,h⟩;cases m
 ·exact rT h
 rename_i m;rw [M5.eq_2] at h;rcases P6 with rfl | rfl
 ·conv=>whnf
  refine bs h (fun gM h=>?_) fun gM h=>?_
  ·rw [gM];(conv=>whnf);refine qV h id fun gN h=>?_;rw [rb h0 x s1 gN];(conv=>whnf);refine qV h id fun qs h=>?_;rw [rb h0 x (w (s1+(1:Int))) qs];(conv=>whnf);obtain ⟨qP,h⟩:=rL h;refine ⟨by first | rfl | (simp;done) | exact Ii I5 _ O2 _,by have:=qP;omega,by decide,qP,by first | rfl | (simp;done) | exact Ii I5 _ O2 _,?_⟩
   erw [S1 I5 s2 ((ix x s1),(ix x (w (s1+(1:Int)))))];(conv=>whnf);exact ⟨m,sG m,(w (s1+(2:Int))),(s2++[((ix x s1),(ix x (w (s1+(1:Int)))))]),_,(.inr rfl),rfl,rfl,h⟩
  ·rw [gM];(conv=>whnf);exact rn _ _ h ⟨rfl,rfl⟩
 ·conv=>whnf
  refine bs h (fun gM h=>?_) fun gM h=>?_
  ·rw [gM];(conv=>whnf);refine qV h id fun gN h=>?_;rw [rb h0 x s1 gN];(conv=>whnf);refine qV h id fun qs h=>?_;rw [rb h0 x (w (s1+(1:Int))) qs];(conv=>whnf);obtain ⟨qP,h⟩:=rL h;refine ⟨by first | rfl | (simp;done) | exact Ii I5 _ O2 _,by have:=qP;omega,rfl,qP,?_⟩
   erw [S1 I5 s2 ((ix x s1),(ix x (w (s1+(1:Int)))))];(conv=>whnf);exact ⟨m,sG m,(w (s1+(2:Int))),(s2++[((ix x s1),(ix x (w (s1+(1:Int)))))]),_,(.inr rfl),rfl,rfl,h⟩
  ·rw [gM];(conv=>whnf);exact abv _ _ h ⟨rfl,rfl⟩
theorem RM {lo:Int} {hi:Int} {x:qb} {v:(qj×(Int×Int))} (h:M4 lo hi x=some v):qu 54 [(h0 lo),(h0 hi),(.av (x.map h0) x.length .shared)] (.agg [(.av (v.1.flatMap p7) v.1.length .shared),(h0 v.2.1),(h0 v.2.2)]):=by
 refine qH eG ac2 rfl (HU (p5 (Hv (fun _=>(p5 rfl (p5 rfl rfl))) _ _ _) (p5 rfl (p5 rfl rfl)))) fun Q bp=>?_;have jK:qJ [.cell 6 (.str 3)] Q (fun v=>(.agg [(q' v.1 .shared),(h0 v.2.1),(h0 v.2.2)])) v:=fun T H bE=>bp _ T H bE;unfold M4 at h;unfold Yn;obtain ⟨HY,qF⟩:∃ c,OV=c:=⟨_,rfl⟩;rw [qF];conv=>whnf
 subst qF;refine agN ?_ ?_ (.inl rfl) (by exact rfl) h
 ·intro yo qe h qA;obtain ⟨rG,rfl⟩:=qA.ex;conv=>whnf
  exact qg h jK rfl rfl
 ·intro yo qe h qA;obtain ⟨rG,rfl⟩:=qA.ex;conv=>whnf
  exact qg h jK rfl rfl

noncomputable def X_:gE :=
 p2 [p0 0 [] (.alloc [.av [] 0 .full,.int .i64 0,.int .i64 0])] (p2 [p0 1 [.cv (.int .i64 10),.cv (.int .i64 1),.cv (.int .i64 5),.cv (.int .i64 0),.cv (.int .i64 10),.cv (.int .i64 1)] (.yD 6 1 [.int .i64 0] [0,1,2,3,4,5]),p0 2 [.cv (.func 54 [] []),.cv (.int .i64 0),.cv (.int .i64 4),.nd 1] (.call 3),⟨none,[.nd 0,.jq 2],none,none,.st 3⟩] .ret)
theorem acN:ql Try.prog Sm 29=some (X_,3,[.cell 0 (.str 3)]):=by kernel_rfl
def Ox  : Option (qj×(Int×Int)) :=
 (M4 (0:Int) (4:Int) [(10:Int),(1:Int),(5:Int),(0:Int),(10:Int),(1:Int)]).bind fun aS =>
 some aS
theorem agp  {v:(qj×(Int×Int))} (h:Ox  = some v):qu 29 [] (.agg [(.av (v.1.flatMap p7) v.1.length .shared),(h0 v.2.1),(h0 v.2.2)]):=by
 refine qH eG acN rfl (HU (p5 (Hv (fun _=>(p5 rfl (p5 rfl rfl))) _ _ _) (p5 rfl (p5 rfl rfl)))) fun Q bp=>?_;have jK:qJ [.cell 0 (.str 3)] Q (fun v=>(.agg [(q' v.1 .shared),(h0 v.2.1),(h0 v.2.2)])) v:=fun T H bE=>bp _ T H bE;unfold Ox at h;unfold X_;conv=>whnf
 obtain ⟨aS,gM,h⟩:=p9 h;refine ⟨(p5 rfl (p5 rfl (p5 rfl rfl))),_,RM gM,?_⟩;conv=>whnf
 exact qg h jK rfl rfl

noncomputable def X':gE :=
 p2 [p0 0 [] (.alloc [.av [] 0 .full,.int .i64 0,.int .i64 0])] (p2 [p0 1 [.cv (.int .i64 3),.cv (.int .i64 0),.cv (.int .i64 5),.cv (.int .i64 0),.cv (.int .i64 8),.cv (.int .i64 0)] (.yD 6 1 [.int .i64 0] [0,1,2,3,4,5]),p0 2 [.cv (.func 54 [] []),.cv (.int .i64 0),.cv (.int .i64 0),.nd 1] (.call 3),⟨none,[.nd 0,.jq 2],none,none,.st 3⟩] .ret)
theorem acO:ql Try.prog Sn 30=some (X',3,[.cell 0 (.str 3)]):=by kernel_rfl
def Oy  : Option (qj×(Int×Int)) :=
 (M4 (0:Int) (0:Int) [(3:Int),(0:Int),(5:Int),(0:Int),(8:Int),(0:Int)]).bind fun aS =>
 some aS
theorem agr  {v:(qj×(Int×Int))} (h:Oy  = some v):qu 30 [] (.agg [(.av (v.1.flatMap p7) v.1.length .shared),(h0 v.2.1),(h0 v.2.2)]):=by
 refine qH eG acO rfl (HU (p5 (Hv (fun _=>(p5 rfl (p5 rfl rfl))) _ _ _) (p5 rfl (p5 rfl rfl)))) fun Q bp=>?_;have jK:qJ [.cell 0 (.str 3)] Q (fun v=>(.agg [(q' v.1 .shared),(h0 v.2.1),(h0 v.2.2)])) v:=fun T H bE=>bp _ T H bE;unfold Oy at h;unfold X';conv=>whnf
 obtain ⟨aS,gM,h⟩:=p9 h;refine ⟨(p5 rfl (p5 rfl (p5 rfl rfl))),_,RM gM,?_⟩;conv=>whnf
 exact qg h jK rfl rfl

noncomputable def Ya:gE :=
 p2 [p0 0 [] (.alloc [.av [] 0 .full,.int .i64 0,.int .i64 0])] (p2 [p0 1 [.cv (.int .i64 4),.cv (.int .i64 0),.cv (.int .i64 6),.cv (.int .i64 0),.cv (.int .i64 1),.cv (.int .i64 0),.cv (.int .i64 6),.cv (.int .i64 0),.cv (.int .i64 4),.cv (.int .i64 0)] (.yD 10 1 [.int .i64 0] [0,1,2,3,4,5,6,7,8,9]),p0 2 [.cv (.func 54 [] []),.cv (.int .i64 0),.cv (.int .i64 9),.nd 1] (.call 3),⟨none,[.nd 0,.jq 2],none,none,.st 3⟩] .ret)
theorem acP:ql Try.prog So 31=some (Ya,3,[.cell 0 (.str 3)]):=by kernel_rfl
def Oz  : Option (qj×(Int×Int)) :=
 (M4 (0:Int) (9:Int) [(4:Int),(0:Int),(6:Int),(0:Int),(1:Int),(0:Int),(6:Int),(0:Int),(4:Int),(0:Int)]).bind fun aS =>
 some aS
theorem agt  {v:(qj×(Int×Int))} (h:Oz  = some v):qu 31 [] (.agg [(.av (v.1.flatMap p7) v.1.length .shared),(h0 v.2.1),(h0 v.2.2)]):=by
 refine qH eG acP rfl (HU (p5 (Hv (fun _=>(p5 rfl (p5 rfl rfl))) _ _ _) (p5 rfl (p5 rfl rfl)))) fun Q bp=>?_;have jK:qJ [.cell 0 (.str 3)] Q (fun v=>(.agg [(q' v.1 .shared),(h0 v.2.1),(h0 v.2.2)])) v:=fun T H bE=>bp _ T H bE;unfold Oz at h;unfold Ya;conv=>whnf
 obtain ⟨aS,gM,h⟩:=p9 h;refine ⟨(p5 rfl (p5 rfl (p5 rfl rfl))),_,RM gM,?_⟩;conv=>whnf
 exact qg h jK rfl rfl

noncomputable def Yb:gE :=
 p2 [p0 2 [.cv (.av [] 0 .full)] (.nil 1)] (p2 [p1 3 0,p1 2 3] .ret)
theorem acQ:ql Try.prog Sl 28=some (Yb,4,[.tmp 2]):=by kernel_rfl
def Ip (x:qb):Option qb :=
 some x
theorem IV {x:qb} {v:qb} (h:Ip x=some v):qu 28 [(.av (x.map h0) x.length .shared)] (.av (v.map h0) v.length .shared):=by
 refine qH eG acQ rfl (rA (fun _=>rfl) _ _ _) fun Q bp=>?_;have jK:qJ [.tmp 2] Q (fun v=>(qM v .shared)) v:=fun T H bE=>bp _ T H bE;unfold Ip at h;unfold Yb;conv=>whnf
 exact qg h jK rfl rfl

noncomputable def Yc:gE :=
 p2 [p0 2 [.cv (.av [] 0 .full)] (.nil 3)] (p2 [p1 3 0,p1 2 3] .ret)
theorem acR:ql Try.prog Sr 34=some (Yc,4,[.tmp 2]):=by kernel_rfl
def L4 (x:(List (Int×(Int×Int)))):Option (List (Int×(Int×Int))) :=
 some x
theorem RD {x:(List (Int×(Int×Int)))} {v:(List (Int×(Int×Int)))} (h:L4 x=some v):qu 34 [(.av (x.flatMap qm) x.length .shared)] (.av (v.flatMap qm) v.length .shared):=by
 refine qH eG acR rfl (Hv (fun _=>(p5 rfl (p5 rfl (p5 rfl rfl)))) _ _ _) fun Q bp=>?_;have jK:qJ [.tmp 2] Q (fun v=>(.av (v.flatMap qm) v.length .shared)) v:=fun T H bE=>bp _ T H bE;unfold L4 at h;unfold Yc;conv=>whnf
 exact qg h jK rfl rfl

noncomputable def Yd:gE :=
 p2 [p0 6 [] (.alloc [.int .i64 0,.int .i64 0,.int .i64 0])] (p2 [p1 7 0,p1 8 1,p1 9 2,p0 10 [.Bu 8,.Bu 9] (.build [.int .i64 0,.int .i64 0] [(0,1),(1,1)]),p0 11 [.Bu 7,.Bu 10] (.build [.int .i64 0,.int .i64 0,.int .i64 0] [(0,1),(1,2)]),⟨none,[.nd 6,.jq 11],none,none,.st 3⟩] .ret)
theorem acS:ql Try.prog Ss 35=some (Yd,12,[.cell 6 (.str 3)]):=by kernel_rfl
def L5 (N_ pull more:Int):Option (Int×(Int×Int)) :=
 some (N_,(pull,more))
theorem RE {N_:Int} {pull:Int} {more:Int} {v:(Int×(Int×Int))} (h:L5 N_ pull more=some v):qu 35 [(h0 N_),(h0 pull),(h0 more)] (.agg [(h0 v.1),(h0 v.2.1),(h0 v.2.2)]):=by
 refine qH eG acS rfl (HU (p5 rfl (p5 rfl (p5 rfl rfl)))) fun Q bp=>?_;have jK:qJ [.cell 6 (.str 3)] Q (fun v=>(.agg [(h0 v.1),(h0 v.2.1),(h0 v.2.2)])) v:=fun T H bE=>bp _ T H bE;unfold L5 at h;unfold Yd;conv=>whnf
 exact qg h jK rfl rfl
end Go.Proofs.Ytkoioidpbbbaiaa.Ab


namespace Go.Proofs.Ytkoioidpbbbaiaa.Ab
open Go
set_option maxRecDepth 100000
set_option maxHeartbeats 4000000
noncomputable def X1:gE :=
 p2 [p0 0 [.cv (.bool false)] .mV] (p2 [p0 34 [.cv (.func 29 [] [])] (.call 3),p0 35 [.cv (.func 30 [] [])] (.call 3),p0 36 [.cv (.func 31 [] [])] (.call 3),p0 1 [] (.alloc [.av [] 0 .full,.int .i64 0,.int .i64 0]),p0 2 [] (.alloc [.av [] 0 .full,.int .i64 0,.int .i64 0]),p0 3 [] (.alloc [.av [] 0 .full,.int .i64 0,.int .i64 0]),⟨none,[.nd 1,.jq 34],none,none,.st 3⟩,⟨none,[.nd 2,.jq 35],none,none,.st 3⟩,⟨none,[.nd 3,.jq 36],none,none,.st 3⟩] (.seq (q_ [p0 38 [.nd 3] (.zG (.str 3)),p0 39 [.cv (.int .i64 1),.cv (.int .i64 0),.cv (.int .i64 2),.cv (.int .i64 3),.cv (.int .i64 4)] (.yD 5 1 [.int .i64 0] [0,1,2,3,4]),p0 40 [.cv (.func 28 [] []),.nd 39] (.call 3),p0 41 [.cv (.func 12 [] []),.nd 38,.nd 40,.cv (.int .i64 0)] (.call 3),p1 37 41,qL 42 37 0,qL 43 37 1,qL 44 37 2,p1 4 42,p1 5 43,p1 6 44]) (.seq (q_ [p0 46 [.nd 1] (.zG (.str 3)),p0 47 [.cv (.int .i64 1),.cv (.int .i64 0),.cv (.int .i64 2)] (.yD 3 1 [.int .i64 0] [0,1,2]),p0 48 [.cv (.func 28 [] []),.nd 47] (.call 3),p0 49 [.cv (.func 12 [] []),.nd 46,.nd 48,.cv (.int .i64 5)] (.call 3),p1 45 49,qL 50 45 0,qL 51 45 1,qL 52 45 2,p1 7 50,p1 8 51,p1 9 52]) (.seq (q_ [p0 54 [.nd 1] (.zG (.str 3)),p0 55 [.cv (.int .i64 1),.cv (.int .i64 0),.cv (.int .i64 2)] (.yD 3 1 [.int .i64 0] [0,1,2]),p0 56 [.cv (.func 28 [] []),.nd 55] (.call 3),p0 57 [.cv (.func 14 [] []),.nd 54,.nd 56] (.call 3),p1 53 57,qL 58 53 0,qL 59 53 1,p1 10 58,p1 11 59]) (.seq (q_ [p0 61 [.Bu 1] (.zG (.str 3)),p0 62 [.cv (.int .i64 0),.cv (.int .i64 1),.cv (.int .i64 1)] (.yD 3 1 [.int .i64 0] [0,1,2]),p0 63 [.cv (.func 28 [] []),.nd 62] (.call 3),p0 64 [.cv (.func 14 [] []),.nd 61,.nd 63] (.call 3),p1 60 64,qL 65 60 0,qL 66 60 1,p1 12 65,p1 13 66]) (p2 [p0 68 [.nd 2] (.zG (.str 3)),p0 69 [.cv (.func 32 [] []),.nd 68] (.call 3),p1 67 69,qL 70 67 0,p0 71 [.Bu 67] (.ext 1),p1 14 70,p1 15 71] (p2 [p0 73 [.nd 2] (.zG (.str 3)),p0 74 [.cv (.func 33 [] []),.nd 73] (.call 3),p1 72 74,qL 75 72 0,p0 76 [.Bu 72] (.ext 1),p1 16 75,p1 17 76] (p2 [p0 78 [.nd 3] (.zG (.str 3)),p0 79 [.cv (.func 20 [] []),.nd 78] (.call 3),p1 77 79,qL 80 77 0,p0 81 [.Bu 77] (.ext 1),p1 18 80,p1 19 81] (.seq (q_ [p0 83 [.nd 2] (.zG (.str 3)),p0 84 [.cv (.int .i64 0),.cv (.int .i64 2),.cv (.int .i64 1)] (.yD 3 1 [.int .i64 0] [0,1,2]),p0 85 [.cv (.func 28 [] []),.nd 84] (.call 3),p0 86 [.cv (.func 35 [] []),.cv (.int .i64 0),.cv (.int .i64 5),.cv (.int .i64 0)] (.call 3),p0 87 [.Bu 86] (.yD 1 3 [.int .i64 0,.int .i64 0,.int .i64 0] [0]),p0 88 [.cv (.func 34 [] []),.nd 87] (.call 3),p0 89 [.cv (.func 23 [] []),.nd 83,.nd 85,.nd 88] (.call 3),p1 82 89,qL 90 82 0,qL 91 82 1,p1 20 90,p1 21 91]) (.seq (q_ [p0 93 [.nd 2] (.zG (.str 3)),p0 94 [.cv (.int .i64 0),.cv (.int .i64 2),.cv (.int .i64 1)] (.yD 3 1 [.int .i64 0] [0,1,2]),p0 95 [.cv (.func 28 [] []),.nd 94] (.call 3),p0 96 [.cv (.func 35 [] []),.cv (.int .i64 2),.cv (.int .i64 1),.cv (.int .i64 0)] (.call 3),p0 97 [.Bu 96] (.yD 1 3 [.int .i64 0,.int .i64 0,.int .i64 0] [0]),p0 98 [.cv (.func 34 [] []),.nd 97] (.call 3),p0 99 [.cv (.func 23 [] []),.nd 93,.nd 95,.nd 98] (.call 3),p1 92 99,qL 100 92 0,qL 101 92 1,p1 22 100,p1 23 101]) (.seq (q_ [p0 103 [.nd 2] (.zG (.str 3)),p0 104 [.cv (.int .i64 0),.cv (.int .i64 2),.cv (.int .i64 1)] (.yD 3 1 [.int .i64 0] [0,1,2]),p0 105 [.cv (.func 28 [] []),.nd 104] (.call 3),p0 106 [.cv (.func 35 [] []),.cv (.int .i64 0),.cv (.int .i64 101),.cv (.int .i64 0)] (.call 3),p0 107 [.Bu 106] (.yD 1 3 [.int .i64 0,.int .i64 0,.int .i64 0] [0]),p0 108 [.cv (.func 34 [] []),.nd 107] (.call 3),p0 109 [.cv (.func 23 [] []),.nd 103,.nd 105,.nd 108] (.call 3),p1 102 109,qL 110 102 0,qL 111 102 1,p1 24 110,p1 25 111]) (.seq (q_ [p0 113 [.Bu 3] (.zG (.str 3)),p0 114 [.cv (.int .i64 1),.cv (.int .i64 0),.cv (.int .i64 2),.cv (.int .i64 3),.cv (.int .i64 4)] (.yD 5 1 [.int .i64 0] [0,1,2,3,4]),p0 115 [.cv (.func 28 [] []),.nd 114] (.call 3),p0 116 [.cv (.func 21 [] []),.nd 113,.nd 115] (.call 3),p1 112 116,qL 117 112 0,qL 118 112 1,p1 26 117,p1 27 118]) (.seq (q_ [p0 120 [.nd 2] (.zG (.str 3)),p0 121 [.cv (.int .i64 0),.cv (.int .i64 2),.cv (.int .i64 1)] (.yD 3 1 [.int .i64 0] [0,1,2]),p0 122 [.cv (.func 28 [] []),.nd 121] (.call 3),p0 123 [.cv (.func 22 [] []),.nd 120,.nd 122] (.call 3),p1 119 123,qL 124 119 0,qL 125 119 1,p1 28 124,p1 29 125]) (p2 [p0 127 [.nd 2] (.zG (.str 3)),p0 128 [.cv (.func 25 [] []),.nd 127] (.call 3),p1 126 128,qL 129 126 0,p0 130 [.Bu 126] (.ext 1),p1 30 129,p1 31 130] (.seq (p2 [p1 131 6,qw 132 131 0 .neq,p1 133 132,cl 134 [.jq 9] 133 false .mV,cl 135 [.Bu 134,.cv (.int .i64 3)] 133 false (.bin .neq),p0 136 [.Bu 133,.cv (.bool true),.Bu 135] .pick,p1 137 136,cl 138 [.jq 11] 137 false .mV,cl 139 [.Bu 138,.cv (.int .i64 0)] 137 false (.bin .neq),p0 140 [.Bu 137,.cv (.bool true),.Bu 139] .pick,p1 141 140,cl 142 [.jq 13] 141 false .mV,cl 143 [.Bu 142,.cv (.int .i64 16)] 141 false (.bin .neq),p0 144 [.Bu 141,.cv (.bool true),.Bu 143] .pick,p1 145 144,cl 146 [.jq 15] 145 false .mV,cl 147 [.Bu 146,.cv (.int .i64 0)] 145 false (.bin .neq),p0 148 [.Bu 145,.cv (.bool true),.Bu 147] .pick,p1 149 148,cl 150 [.jq 17] 149 false .mV,cl 151 [.Bu 150,.cv (.int .i64 0)] 149 false (.bin .neq),p0 152 [.Bu 149,.cv (.bool true),.Bu 151] .pick,p1 153 152,cl 154 [.jq 19] 153 false .mV,cl 155 [.Bu 154,.cv (.int .i64 0)] 153 false (.bin .neq),p0 156 [.Bu 153,.cv (.bool true),.Bu 155] .pick,p1 157 156,cl 158 [.jq 21] 157 false .mV,cl 159 [.Bu 158,.cv (.int .i64 0)] 157 false (.bin .neq),p0 160 [.Bu 157,.cv (.bool true),.Bu 159] .pick,p1 161 160,cl 162 [.jq 23] 161 false .mV,cl 163 [.Bu 162,.cv (.int .i64 23)] 161 false (.bin .neq),p0 164 [.Bu 161,.cv (.bool true),.Bu 163] .pick,p1 165 164,cl 166 [.jq 25] 165 false .mV,cl 167 [.Bu 166,.cv (.int .i64 3)] 165 false (.bin .neq),p0 168 [.Bu 165,.cv (.bool true),.Bu 167] .pick,p1 169 168,cl 170 [.jq 27] 169 false .mV,cl 171 [.Bu 170,.cv (.int .i64 0)] 169 false (.bin .neq),p0 172 [.Bu 169,.cv (.bool true),.Bu 171] .pick,p1 173 172,cl 174 [.jq 29] 173 false .mV,cl 175 [.Bu 174,.cv (.int .i64 0)] 173 false (.bin .neq),p0 176 [.Bu 173,.cv (.bool true),.Bu 175] .pick,p1 177 176,cl 178 [.jq 31] 177 false .mV,cl 179 [.Bu 178,.cv (.int .i64 0)] 177 false (.bin .neq),p0 180 [.Bu 177,.cv (.bool true),.Bu 179] .pick] (.cond (.nd 180) (p2 [p0 0 [.cv (.bool false)] .mV] .ret) .skip)) (.seq (q_ [p0 182 [.Bu 2] (.zG (.str 3)),p0 183 [.cv (.int .i64 0),.cv (.int .i64 2),.cv (.int .i64 1)] (.yD 3 1 [.int .i64 0] [0,1,2]),p0 184 [.cv (.func 28 [] []),.nd 183] (.call 3),p1 185 28,p0 186 [.cv (.func 24 [] []),.nd 182,.nd 184,.nd 185] (.call 3),p1 181 186,qL 187 181 0,qL 188 181 1,p1 32 187,p1 33 188]) (p2 [p1 189 4,qw 190 189 (-4) .eql,p1 191 190,cl 192 [.jq 5] 191 true .mV,cl 193 [.Bu 192,.cv (.int .i64 2)] 191 true (.bin .eql),p0 194 [.Bu 191,.Bu 193,.cv (.bool false)] .pick,p1 195 194,cl 196 [.jq 10] 195 true .mV,cl 197 [.Bu 196,.cv (.int .i64 9)] 195 true (.bin .eql),p0 198 [.Bu 195,.Bu 197,.cv (.bool false)] .pick,p1 199 198,cl 200 [.jq 14] 199 true .mV,cl 201 [.Bu 200,.cv (.int .i64 2)] 199 true (.bin .eql),p0 202 [.Bu 199,.Bu 201,.cv (.bool false)] .pick,p1 203 202,cl 204 [.jq 16] 203 true .mV,⟨some 205,[.cv (.int .i64 0),.cv (.int .i64 2),.cv (.int .i64 1)],some (203,true),none,.yD 3 1 [.int .i64 0] [0,1,2]⟩,⟨some 206,[.cv (.func 28 [] []),.nd 205],some (203,true),none,.call 3⟩,⟨some 207,[.cv (.func 27 [] []),.nd 204,.nd 206],some (203,true),none,.call 3⟩,p0 208 [.Bu 203,.Bu 207,.cv (.bool false)] .pick,p1 209 208,cl 210 [.jq 18] 209 true .mV,cl 211 [.Bu 210,.cv (.int .i64 8)] 209 true (.bin .eql),p0 212 [.Bu 209,.Bu 211,.cv (.bool false)] .pick,p1 213 212,cl 214 [.jq 20] 213 true .mV,cl 215 [.Bu 214,.cv (.int .i64 1)] 213 true (.bin .eql),p0 216 [.Bu 213,.Bu 215,.cv (.bool false)] .pick,p1 217 216,cl 218 [.jq 26] 217 true .mV,cl 219 [.Bu 218,.cv (.int .i64 2)] 217 true (.bin .eql),p0 220 [.Bu 217,.Bu 219,.cv (.bool false)] .pick,p1 221 220,cl 222 [.jq 33] 221 true .mV,cl 223 [.Bu 222,.cv (.int .i64 0)] 221 true (.bin .eql),p0 224 [.Bu 221,.Bu 223,.cv (.bool false)] .pick,p1 225 224,cl 226 [.jq 32] 225 true .mV,cl 227 [.Bu 226,.cv (.int .i64 1)] 225 true (.bin .eql),p0 228 [.Bu 225,.Bu 227,.cv (.bool false)] .pick,p1 229 228,cl 230 [.jq 30] 229 true .mV,⟨some 231,[.cv (.int .i64 0),.cv (.int .i64 1),.cv (.int .i64 2)],some (229,true),none,.yD 3 1 [.int .i64 0] [0,1,2]⟩,⟨some 232,[.cv (.func 28 [] []),.nd 231],some (229,true),none,.call 3⟩,⟨some 233,[.cv (.func 27 [] []),.nd 230,.nd 232],some (229,true),none,.call 3⟩,p0 234 [.Bu 229,.Bu 233,.cv (.bool false)] .pick,p1 0 234] .ret)))))))))))))))))
theorem acE:ql Try.prog Sf 11=some (X1,235,[.tmp 0]):=by kernel_rfl
def Oq  : Option Bool :=
 (Ox).bind fun aS =>
 (Oy).bind fun bj =>
 (Oz).bind fun eK =>
 (Ip [(1:Int),(0:Int),(2:Int),(3:Int),(4:Int)]).bind fun Jx =>
 (Ki eK Jx (0:Int)).bind fun JP =>
 (Ip [(1:Int),(0:Int),(2:Int)]).bind fun KK =>
 (Ki aS KK (5:Int)).bind fun Vy =>
 (Ip [(1:Int),(0:Int),(2:Int)]).bind fun Vz =>
 (Jn aS Vz).bind fun QD =>
 (Ip [(0:Int),(1:Int),(1:Int)]).bind fun Vf =>
 (Jn aS Vf).bind fun Vg =>
 (L0 bj).bind fun Qu =>
 (KV bj).bind fun Qv =>
 (L1 eK).bind fun Qw =>
 (Ip [(0:Int),(2:Int),(1:Int)]).bind fun Vh =>
 (L5 (0:Int) (5:Int) (0:Int)).bind fun Vi =>
 (L4 [Vi]).bind fun Vj =>
 (Jy bj Vh Vj).bind fun Qx =>
 (Ip [(0:Int),(2:Int),(1:Int)]).bind fun Vk =>
 (L5 (2:Int) (1:Int) (0:Int)).bind fun Vl =>
 (L4 [Vl]).bind fun Vm =>
 (Jy bj Vk Vm).bind fun Vn =>
 (Ip [(0:Int),(2:Int),(1:Int)]).bind fun Vo =>
 (L5 (0:Int) (101:Int) (0:Int)).bind fun Vp =>
 (L4 [Vp]).bind fun Vq =>
 (Jy bj Vo Vq).bind fun Vr =>
 (Ip [(1:Int),(0:Int),(2:Int),(3:Int),(4:Int)]).bind fun Vs =>
 (Kh eK Vs).bind fun Qy =>
 (Ip [(0:Int),(2:Int),(1:Int)]).bind fun Vt =>
 (KW bj Vt).bind fun Qz =>
 (KX bj).bind fun QA =>
 if (decide (JP.2.2≠(0:Int)))=true then
  some false
 else
  if (decide (Vy.2.2≠(3:Int)))=true then
   some false
  else
   if (decide (QD.2≠(0:Int)))=true then
    some false
   else
    if (decide (Vg.2≠(16:Int)))=true then
     some false
    else
     if (decide (Qu.2≠(0:Int)))=true then
      some false
     else
      if (decide (Qv.2≠(0:Int)))=true then
       some false
      else
       if (decide (Qw.2≠(0:Int)))=true then
        some false
       else
        if (decide (Qx.2≠(0:Int)))=true then
         some false
        else
         if (decide (Vn.2≠(23:Int)))=true then
          some false
         else
          if (decide (Vr.2≠(3:Int)))=true then
           some false
          else
           if (decide (Qy.2≠(0:Int)))=true then
            some false
           else
            if (decide (Qz.2≠(0:Int)))=true then
             some false
            else
             if (decide (QA.2≠(0:Int)))=true then
              some false
             else
              (Ip [(0:Int),(2:Int),(1:Int)]).bind fun Vu =>
              (L3 bj Vu Qz.1).bind fun QB =>
              if (decide (JP.1=(-4:Int)))=true then
               if (decide (JP.2.1=(2:Int)))=true then
                if (decide (QD.1=(9:Int)))=true then
                 if (decide (Qu.1=(2:Int)))=true then
                  (Ip [(0:Int),(2:Int),(1:Int)]).bind fun Vv =>
                  (L2 Qv.1 Vv).bind fun QC =>
                  if QC=true then
                   if (decide (Qw.1=(8:Int)))=true then
                    if (decide (Qx.1=(1:Int)))=true then
                     if (decide (Qy.1=(2:Int)))=true then
                      if (decide (QB.2=(0:Int)))=true then
                       if (decide (QB.1=(1:Int)))=true then
                        (Ip [(0:Int),(1:Int),(2:Int)]).bind fun Vw =>
                        (L2 QA.1 Vw).bind fun Vx =>
                        some Vx
                       else
                        some false
                      else
                       some false
                     else
                      some false
                    else
                     some false
                   else
                    some false
                  else
                   some false
                 else
                  some false
                else
                 some false
               else
                some false
              else
               some false
theorem Ry  {v:Bool} (h:Oq  = some v):qu 11 [] (B v):=by
 refine qH eG acE rfl rfl fun Q bp=>?_;have jK:qJ [.tmp 0] Q (fun v=>(B v)) v:=fun T H bE=>bp _ T H bE;unfold Oq at h;unfold X1;conv=>whnf
 obtain ⟨aS,gM,h⟩:=p9 h;refine ⟨rfl,_,agp gM,?_⟩;conv=>whnf
 obtain ⟨bj,gN,h⟩:=p9 h;refine ⟨rfl,_,agr gN,?_⟩;conv=>whnf
 obtain ⟨eK,qs,h⟩:=p9 h;refine ⟨rfl,_,agt qs,?_⟩;conv=>whnf
 obtain ⟨Jx,qP,h⟩:=p9 h;refine ⟨(p5 rfl rfl),_,IV qP,Hi,?_⟩;conv=>whnf
 obtain ⟨JP,rj,h⟩:=p9 h;refine ⟨qi.pl,_,XA rj,H_ rfl,?_⟩;conv=>whnf
 obtain ⟨KK,rU,h⟩:=p9 h;refine ⟨(p5 rfl rfl),_,IV rU,Hi,?_⟩;conv=>whnf
 obtain ⟨Vy,qX,h⟩:=p9 h;refine ⟨qi.pl,_,XA qX,H_ rfl,?_⟩;conv=>whnf
 obtain ⟨Vz,Hr,h⟩:=p9 h;refine ⟨(p5 rfl rfl),_,IV Hr,Hi,?_⟩;conv=>whnf
 obtain ⟨QD,rN,h⟩:=p9 h;refine ⟨qi.pl,_,Ow rN,H_ rfl,?_⟩;conv=>whnf
 obtain ⟨Vf,Hq,h⟩:=p9 h;refine ⟨(p5 rfl rfl),_,IV Hq,Hi,?_⟩;conv=>whnf
 obtain ⟨Vg,J8,h⟩:=p9 h;refine ⟨qi.pl,_,Ow J8,H_ rfl,?_⟩;conv=>whnf
 obtain ⟨Qu,KD,h⟩:=p9 h;refine ⟨qi.pl,_,af9 KD,?_⟩;conv=>whnf
 obtain ⟨Qv,Lm,h⟩:=p9 h;refine ⟨qi.pl,_,Xt Lm,?_⟩;conv=>whnf
 obtain ⟨Qw,PH,h⟩:=p9 h;refine ⟨qi.pl,_,aga PH,?_⟩;conv=>whnf
 obtain ⟨Vh,Mt,h⟩:=p9 h;refine ⟨(p5 rfl rfl),_,IV Mt,Hi,?_⟩;conv=>whnf
 obtain ⟨Vi,aaR,h⟩:=p9 h;refine ⟨(p5 rfl (p5 rfl (p5 rfl rfl))),_,RE aaR,H_ rfl,?_⟩;conv=>whnf
 obtain ⟨Vj,aaS,h⟩:=p9 h;refine ⟨(p5 rfl rfl),_,RD aaS,H_ rfl,?_⟩;conv=>whnf
 obtain ⟨Qx,aaT,h⟩:=p9 h;refine ⟨qi.pl,_,RB aaT,H_ rfl,?_⟩;conv=>whnf
 obtain ⟨Vk,aaU,h⟩:=p9 h;refine ⟨(p5 rfl rfl),_,IV aaU,Hi,?_⟩;conv=>whnf
 obtain ⟨Vl,aaV,h⟩:=p9 h;refine ⟨(p5 rfl (p5 rfl (p5 rfl rfl))),_,RE aaV,H_ rfl,?_⟩;conv=>whnf
 obtain ⟨Vm,aaW,h⟩:=p9 h;refine ⟨(p5 rfl rfl),_,RD aaW,H_ rfl,?_⟩;conv=>whnf
 obtain ⟨Vn,aaX,h⟩:=p9 h;refine ⟨qi.pl,_,RB aaX,H_ rfl,?_⟩;conv=>whnf
 obtain ⟨Vo,aaY,h⟩:=p9 h;refine ⟨(p5 rfl rfl),_,IV aaY,Hi,?_⟩;conv=>whnf
 obtain ⟨Vp,aaZ,h⟩:=p9 h;refine ⟨(p5 rfl (p5 rfl (p5 rfl rfl))),_,RE aaZ,H_ rfl,?_⟩;conv=>whnf
 obtain ⟨Vq,aa0,h⟩:=p9 h;refine ⟨(p5 rfl rfl),_,RD aa0,H_ rfl,?_⟩;conv=>whnf
 obtain ⟨Vr,aa1,h⟩:=p9 h;refine ⟨qi.pl,_,RB aa1,H_ rfl,?_⟩;conv=>whnf
 obtain ⟨Vs,aa2,h⟩:=p9 h;refine ⟨(p5 rfl rfl),_,IV aa2,Hi,?_⟩;conv=>whnf
 obtain ⟨Qy,aa3,h⟩:=p9 h;refine ⟨qi.pl,_,Xu aa3,H_ rfl,?_⟩;conv=>whnf
 obtain ⟨Vt,aa4,h⟩:=p9 h;refine ⟨(p5 rfl rfl),_,IV aa4,Hi,?_⟩;conv=>whnf
 obtain ⟨Qz,aa5,h⟩:=p9 h;refine ⟨qi.pl,_,Xv aa5,H_ rfl,?_⟩;conv=>whnf
 obtain ⟨QA,aa6,h⟩:=p9 h;refine ⟨qi.pl,_,Xx aa6,?_⟩;conv=>whnf
 refine bs h (fun PI h=>?_) fun PI h=>?_
 ·rw [PI];conv=>whnf
  exact qg h jK rfl rfl
 ·rw [PI];conv=>whnf
  refine bs h (fun PJ h=>?_) fun PJ h=>?_
  ·rw [PJ];(conv=>whnf);exact qg h jK rfl rfl
  ·rw [PJ];(conv=>whnf);refine bs h (fun PK h=>?_) fun PK h=>?_
   ·rw [PK];(conv=>whnf);exact qg h jK rfl rfl
   ·rw [PK];(conv=>whnf);refine bs h (fun PL h=>?_) fun PL h=>?_
    ·rw [PL];(conv=>whnf);exact qg h jK rfl rfl
    ·rw [PL];(conv=>whnf);refine bs h (fun PM h=>?_) fun PM h=>?_
     ·rw [PM];(conv=>whnf);exact qg h jK rfl rfl
     ·rw [PM];(conv=>whnf);refine bs h (fun PN h=>?_) fun PN h=>?_
      ·rw [PN];(conv=>whnf);exact qg h jK rfl rfl
      ·rw [PN];(conv=>whnf);refine bs h (fun PO h=>?_) fun PO h=>?_
       ·rw [PO];(conv=>whnf);exact qg h jK rfl rfl
       ·rw [PO];(conv=>whnf);refine bs h (fun PQ h=>?_) fun PQ h=>?_
        ·rw [PQ];(conv=>whnf);exact qg h jK rfl rfl
        ·rw [PQ];(conv=>whnf);refine bs h (fun PR h=>?_) fun PR h=>?_
         ·rw [PR];(conv=>whnf);exact qg h jK rfl rfl
         ·rw [PR];(conv=>whnf);refine bs h (fun PS h=>?_) fun PS h=>?_
          ·rw [PS];(conv=>whnf);exact qg h jK rfl rfl
          ·rw [PS];(conv=>whnf);refine bs h (fun PT h=>?_) fun PT h=>?_
           ·rw [PT];(conv=>whnf);exact qg h jK rfl rfl
           ·rw [PT];(conv=>whnf);refine bs h (fun PU h=>?_) fun PU h=>?_
            ·rw [PU];(conv=>whnf);exact qg h jK rfl rfl
            ·rw [PU];(conv=>whnf);refine bs h (fun PV h=>?_) fun PV h=>?_
             ·rw [PV];(conv=>whnf);exact qg h jK rfl rfl
             ·rw [PV];(conv=>whnf);obtain ⟨Vu,aa7,h⟩:=p9 h;refine ⟨(p5 rfl rfl),_,IV aa7,Hi,?_⟩;(conv=>whnf);obtain ⟨QB,aa8,h⟩:=p9 h;refine ⟨qi.pl,_,age aa8,H_ rfl,?_⟩;(conv=>whnf);refine bs h (fun PW h=>?_) fun PW h=>?_
              ·rw [PW];(conv=>whnf);refine bs h (fun PX h=>?_) fun PX h=>?_
               ·rw [PX];(conv=>whnf);refine bs h (fun PY h=>?_) fun PY h=>?_
                ·rw [PY];(conv=>whnf);refine bs h (fun PZ h=>?_) fun PZ h=>?_
                 ·rw [PZ];(conv=>whnf);obtain ⟨Vv,aa9,h⟩:=p9 h;refine ⟨(p5 rfl rfl),_,IV aa9,?_⟩;(conv=>whnf);obtain ⟨QC,aa_,h⟩:=p9 h;refine ⟨qi.pl,_,Rz aa_,?_⟩;(conv=>whnf);cases QC
                  ·(conv=>whnf);replace h:=HC rfl h;exact qg h jK rfl rfl
                  ·(conv=>whnf);replace h:=HD rfl h;refine bs h (fun P0 h=>?_) fun P0 h=>?_
                   ·rw [P0];(conv=>whnf);refine bs h (fun P1 h=>?_) fun P1 h=>?_
                    ·rw [P1];(conv=>whnf);refine bs h (fun P2 h=>?_) fun P2 h=>?_
                     ·rw [P2];(conv=>whnf);refine bs h (fun P3 h=>?_) fun P3 h=>?_
                      ·rw [P3];(conv=>whnf);refine bs h (fun P4 h=>?_) fun P4 h=>?_
                       ·rw [P4];(conv=>whnf);obtain ⟨Vw,aba,h⟩:=p9 h;refine ⟨(p5 rfl rfl),_,IV aba,?_⟩;(conv=>whnf);obtain ⟨Vx,abb,h⟩:=p9 h;refine ⟨qi.pl,_,Rz abb,?_⟩;(conv=>whnf);exact qg h jK rfl rfl
                       ·rw [P4];(conv=>whnf);exact qg h jK rfl rfl
                      ·rw [P3];(conv=>whnf);exact qg h jK rfl rfl
                     ·rw [P2];(conv=>whnf);exact qg h jK rfl rfl
                    ·rw [P1];(conv=>whnf);exact qg h jK rfl rfl
                   ·rw [P0];(conv=>whnf);exact qg h jK rfl rfl
                 ·rw [PZ];(conv=>whnf);exact qg h jK rfl rfl
                ·rw [PY];(conv=>whnf);exact qg h jK rfl rfl
               ·rw [PX];(conv=>whnf);exact qg h jK rfl rfl
              ·rw [PW];(conv=>whnf);exact qg h jK rfl rfl
end Go.Proofs.Ytkoioidpbbbaiaa.Ab


namespace Go.Proofs.Ytkoioidpbbbaiaa.Ab
open Go
set_option maxRecDepth 20000
set_option maxHeartbeats 1000000
def NI:p_:=([(10,1),(5,0),(10,1)],(0,4))
def HO:p_:=([(3,0),(5,0),(8,0)],(0,0))
def Lz:p_:=([(4,0),(6,0),(1,0),(6,0),(4,0)],(0,9))
theorem ago:Ox=some NI:=by decide +kernel
theorem agq:Oy=some HO:=by decide +kernel
theorem ags:Oz=some Lz:=by decide +kernel
theorem afY:Ki Lz [1,0,2,3,4] 0=some (-4,2,0):=by
 rw [Xz (by decide) (by decide)];decide +kernel
theorem afZ:Ki NI [1,0,2] 5=some (0,0,3):=by
 rw [Xz (by decide) (by decide)];decide +kernel
theorem afW:Jn NI [1,0,2]=some (9,0):=by
 rw [Ov (by decide) (by decide)];decide +kernel
theorem afX:Jn NI [0,1,1]=some (0,16):=by
 rw [Ov (by decide) (by decide)];decide +kernel
theorem afM:L0 HO=some (2,0):=by
 rw [af8 (by decide)];decide +kernel
theorem afN:KV HO=some ([0,2,1],0):=by
 rw [Xs (by decide)];decide +kernel
theorem afO:L1 Lz=some (8,0):=by
 rw [af_ (by decide)];decide +kernel
theorem afQ:Jy HO [0,2,1] [(0,(5,0))]=some (1,0):=by
 rw [RA (by decide) (by decide) (by decide)];decide +kernel
theorem afR:Jy HO [0,2,1] [(2,(1,0))]=some (0,23):=by
 rw [RA (by decide) (by decide) (by decide)];decide +kernel
theorem afS:Jy HO [0,2,1] [(0,(101,0))]=some (0,3):=by
 rw [RA (by decide) (by decide) (by decide)];decide +kernel
theorem Pv {p:p_} {o:List Int} {a i t:Nat} (ab:¬ HA p o a) (ae:i<o.length) (aF:i % 2=a) (a_:t<2121) (bP:IZ p o a i (I2 t)):Ho p o a=1:=by
 unfold Ho;rw [if_neg ab,if_pos ⟨i,ae,aF,t,a_,bP⟩]
theorem Pw {p:p_} {o:List Int} {a:Nat} (ab:HA p o a):Ho p o a=0:=by
 unfold Ho;rw [if_pos ab]
theorem afT:Kh Lz [1,0,2,3,4]=some (2,0):=by
 unfold Kh;obtain ⟨l,ab,ae⟩:=RC (p:=Lz) (o:=[1,0,2,3,4]) (by decide) (by decide);have rV:rK Lz [1,0,2,3,4]=0:=by decide +kernel
 rw [if_pos rV] at ab;rw [ab,sb,(ae rV).1];rw [Pv (i:=0) (t:=1014) (by decide +kernel) (by decide) (by decide) (by decide) (by decide +kernel),Pv (i:=1) (t:=1016) (by decide +kernel) (by decide) (by decide) (by decide) (by decide +kernel)];rfl
theorem afU:∃ l,KW HO [0,2,1]=some (l,0)∧L3 HO [0,2,1] l=some (1,0):=by
 obtain ⟨l,ab,ae⟩:=RC (p:=HO) (o:=[0,2,1]) (by decide) (by decide);have rV:rK HO [0,2,1]=0:=by decide +kernel
 rw [if_pos rV] at ab;obtain ⟨aF,a_,bP⟩:=ae rV;have ao:l.length=1:=by
  rw [aF,Pv (i:=0) (t:=1015) (by decide +kernel) (by decide) (by decide) (by decide) (by decide +kernel),Pw (by decide +kernel)]
 refine ⟨l,ab,?_⟩;rw [agc (by decide) (by decide) (by omega),if_pos rV,if_pos a_,if_neg (by omega),ao];rfl
theorem afV:KX HO=some ([0,1,2],0):=by
 have af:∀ (s t:Nat) (o:List Int),qq 3 o→s=(ix o 0).toNat→t<2121→IZ HO o 0 0 (I2 t)→HA HO o 1→o.length=3→HM HO s=true:=fun s t o ab ae aF a_ bP bQ =>
  Pl.2 ⟨o,ab,0,by omega,ae,by
   unfold C_;rw [sn,decide_eq_true_eq,decide_eq_true_eq]
   exact ⟨bP,t,aF,a_⟩⟩
 have de:HM HO 0=true:=af 0 1018 [0,1,2] (by decide) (by decide) (by decide) (by decide +kernel) (by decide +kernel) rfl;have bm:HM HO 1=true:=af 1 1018 [1,0,2] (by decide) (by decide) (by decide) (by decide +kernel) (by decide +kernel) rfl;have cw:HM HO 2=true:=af 2 1015 [2,0,1] (by decide) (by decide) (by decide) (by decide +kernel) (by decide +kernel) rfl;have e:I6 HO=[0,1,2]:=by
  unfold I6;show List.filter (fun s:Int=>HM HO s.toNat) [0,1,2]=[0,1,2];refine tC.2 fun s ah=>?_;simp only [sA,List.not_mem_nil,or_false] at ah;rcases ah with rfl | rfl | rfl
  ·exact de
  ·exact bm
  ·exact cw
 rw [Xw (by decide),e,if_pos (by decide +kernel)]
theorem afP:L2 [0,2,1] [0,2,1]=some true:=by decide +kernel
theorem Xp:L2 [0,1,2] [0,1,2]=some true:=by decide +kernel
theorem works:Oq=some true:=by
 obtain ⟨l,ab,ae⟩:=afU;unfold Oq;simp only [ago,agq,ags,Ip,L4,L5,sb,afY,afZ,afW,afX,afM,afN,afO,afQ,afR,afS,afT,afV,ab,ae,afP,Xp];simp only [decide_eq_true_eq,ne_eq,not_true_eq_false,if_false,if_true]
end Go.Proofs.Ytkoioidpbbbaiaa.Ab


namespace Go.Proofs.Ytkoioidpbbbaiaa.Ab
open Go
set_option maxRecDepth 20000
set_option maxHeartbeats 1000000
abbrev adA (p:p_):I:=.agg [.av (p.1.flatMap p7) p.1.length .shared,h0 p.2.1,h0 p.2.2]
end Go.Proofs.Ytkoioidpbbbaiaa.Ab


namespace Go.Proofs.Ytkoioidpbbbaiaa.Ab
open Go
set_option maxRecDepth 20000
set_option maxHeartbeats 4000000
noncomputable def XX:gE :=
 p2 [p0 1 [.jq 0] .box,p0 2 [.cv (.bool false)] .mV] (p2 [qx 3 1 0,qf 4 3,qU 5 4,qw 6 5 10 .gtr,p1 2 6] .ret)
theorem acA:ql Try.prog Sc 10=some (XX,7,[.tmp 2]):=by kernel_rfl
def Om (p:(qj×(Int×Int))):Option Bool :=
 some (decide ((10:Int)<(p.1.length:Int)))
theorem af7 {p:(qj×(Int×Int))} {v:Bool} (h:Om p=some v):qu 10 [(.agg [(.av (p.1.flatMap p7) p.1.length .shared),(h0 p.2.1),(h0 p.2.2)])] (B v):=by
 refine qH eG acA rfl rfl fun Q bp=>?_;have jK:qJ [.tmp 2] Q (fun v=>(B v)) v:=fun T H bE=>bp _ T H bE;unfold Om at h;unfold XX;conv=>whnf
 exact qg h jK rfl rfl

noncomputable def X6:gE :=
 p2 [p0 1 [.jq 0] .box,p0 2 [.cv (.bool false)] .mV] (p2 [p0 3 [.nd 1] (.zG (.str 3)),p0 4 [.cv (.func 10 [] []),.nd 3] (.call 3),p0 5 [.Bu 4] (.un .not),p1 6 5,cl 7 [.Bu 1] 6 true (.zG (.str 3)),⟨some 8,[.cv (.func 17 [] []),.nd 7],some (6,true),none,.call 3⟩,cl 9 [.Bu 8,.cv (.int .i64 0)] 6 true (.bin .eql),p0 10 [.Bu 6,.Bu 9,.cv (.bool false)] .pick,p1 2 10] .ret)
theorem acJ:ql Try.prog Si 18=some (X6,11,[.tmp 2]):=by kernel_rfl
def Ot (p:(qj×(Int×Int))):Option Bool :=
 (Om p).bind fun aS =>
 if aS=true then
  some false
 else
  (K1 p).bind fun bj =>
  some (decide (bj=(0:Int)))
theorem agi {p:(qj×(Int×Int))} {v:Bool} (h:Ot p=some v):qu 18 [(.agg [(.av (p.1.flatMap p7) p.1.length .shared),(h0 p.2.1),(h0 p.2.2)])] (B v):=by
 refine qH eG acJ rfl rfl fun Q bp=>?_;have jK:qJ [.tmp 2] Q (fun v=>(B v)) v:=fun T H bE=>bp _ T H bE;unfold Ot at h;unfold X6;conv=>whnf
 obtain ⟨aS,gM,h⟩:=p9 h;refine ⟨qi.pl,_,af7 gM,?_⟩;conv=>whnf
 cases aS
 ·conv=>whnf
  replace h:=HC rfl h;obtain ⟨bj,gN,h⟩:=p9 h;refine ⟨qi.pl,_,RI gN,?_⟩;conv=>whnf
  exact qg h jK rfl rfl
 ·conv=>whnf
  replace h:=HD rfl h;exact qg h jK rfl rfl

end Go.Proofs.Ytkoioidpbbbaiaa.Ab


namespace Go.Proofs.Ytkoioidpbbbaiaa.Ab
open Go
set_option maxRecDepth 20000
set_option maxHeartbeats 4000000

noncomputable def OL:gE :=
 .loop (some (p8 false [0,2,3,3,48])) (.seq (p2 [p3 10 7,p3 11 0,qo 12 10 11 .lss] (.cond (.nd 12) .skip (.exit 0))) (.seq (.block 1 (qG [p1 15 5,p3 16 7,p0 17 [.Bu 16] (.yD 1 1 [.int .i64 0] [0]),p0 18 [.jq 15,.jq 17] (.app 1 8),p1 5 18])) (qG [p1 13 7,qT 14 13 1,p1 7 14])))
noncomputable def OM:gE :=
 p2 [p1 38 6,p3 39 5,p3 40 9,q5 41 39 40 1,qf 42 41,p0 43 [.Bu 42] (.yD 1 1 [.int .i64 0] [0]),p0 44 [.jq 38,.jq 43] (.app 1 8),p1 6 44] (q_ [p0 45 [] (.yD 0 1 [.int .i64 0] []),p3 46 5,p3 47 9,p0 48 [.jq 46,.jq 47] (.Bj 1 false true false),p0 49 [.jq 45,.jq 48] (.app 1 8),p3 50 5,p3 51 9,qT 52 51 1,p0 53 [.jq 50,.jq 52] (.Bj 1 true false false),p0 54 [.jq 49,.jq 53] (.app 1 8),p1 5 54])
noncomputable def OO:gE :=
 .loop (some (p8 false [1,1,3,2,1,1,47])) (.seq (p2 [p3 19 5,qU 20 19,qw 21 20 0 .gtr] (.cond (.nd 21) .skip (.exit 2))) (.seq (.block 3 (p2 [qc 9 0] (.seq (p2 [p3 24 1,qU 25 24,qw 26 25 0 .gtr] (.cond (.nd 26) (qG [p3 27 1,p3 28 8,p3 29 1,qU 30 29,qo 31 28 30 .rem,q5 32 27 31 1,qf 33 32,p0 34 [.Bu 33] (.conv .i64),p3 35 5,qU 36 35,qo 37 34 36 .rem,p1 9 37]) .skip)) OM))) (qG [p1 22 8,qT 23 22 1,p1 8 23])))
noncomputable def X7:gE :=
 p2 [p0 4 [.cv (.av [] 0 .full)] (.nil 1)] (p2 [p0 5 [.cv (.av [] 0 .full)] (.nil 1),p0 6 [.cv (.av [] 0 .full)] (.nil 1)] (.seq (p2 [qc 7 0] (.block 0 OL)) (.seq (p2 [qc 8 0] (.block 2 OO)) (p2 [p1 55 6,p1 4 55] .ret))))
theorem acK:ql Try.prog Mh 19=some (X7,56,[.tmp 4]):=by kernel_rfl
def KZ (I3:Int) (qd:qb→Option qb):Nat→qb→Int→Option qb
 | 0,_,_=>none
 | m+1,s1,s2 =>
   if (decide (s2<I3))=true then
    qy ((s1.length+1)*8≤140737488355328) <|
    KZ I3 qd m (s1++[s2]) (w (s2+(1:Int)))
   else
    qd s1
def KY (dk Ha:qb) (NC:qb→qb→Option qb) (dE:Int):Option qb :=
 qy (0≤dE∧dE<(dk.length:Int)) <|
 qy ((Ha.length+1)*8≤140737488355328) <|
 qy (0≤dE∧dE≤(dk.length:Int)) <|
 qy ((([]:List Int).length+(dk.take dE.toNat).length)*8≤140737488355328) <|
 qy (0≤(w (dE+(1:Int)))∧(w (dE+(1:Int)))≤(dk.length:Int)) <|
 qy (((([]:List Int)++(dk.take dE.toNat)).length+(dk.drop (w (dE+(1:Int))).toNat).length)*8≤140737488355328) <|
 NC ((([]:List Int)++(dk.take dE.toNat))++(dk.drop (w (dE+(1:Int))).toNat)) (Ha++[(ix dk dE)])
def Jz (q7:qb) (rC:qb→Option qb):Nat→qb→qb→Int→Option qb
 | 0,_,_,_=>none
 | m+1,dk,Ha,HP =>
   if (decide ((0:Int)<(dk.length:Int)))=true then
    if (decide ((0:Int)<(q7.length:Int)))=true then
     qy ((q7.length:Int)≠0) <|
     qy (0≤(HP.tmod (q7.length:Int))∧(HP.tmod (q7.length:Int))<(q7.length:Int)) <|
     qy ((dk.length:Int)≠0) <|
     KY dk Ha (fun oU GC =>
       Jz q7 rC m oU GC (w (HP+(1:Int)))) ((w (ix q7 (HP.tmod (q7.length:Int)))).tmod (dk.length:Int))
    else
     KY dk Ha (fun oU GC =>
       Jz q7 rC m oU GC (w (HP+(1:Int)))) (0:Int)
   else
    rC Ha
def Ou (I3:Int) (q7:qb):Option qb :=
 KZ I3 (fun yo =>
   Jz q7 (fun JX =>
     some JX) qk yo ([]:List Int) (0:Int)) qk ([]:List Int) (0:Int)
theorem agk {I3:Int} {qd:qb→Option qb} {s1:qb} {s2:Int} {q7:qb} {v:qb} {Q:HL}   (rn:∀ (yo:qb) (qe:List I),qd yo=some v→rm 56 [(1,(.av (q7.map Jq) q7.length .shared)),(5,(qM yo (.uniq 1))),(6,(.av [] 0 (.uniq 1)))] qe→Q (.exit 0) qe []) {T:List I} (b0:eZ (p8 false [0,2,3,3,48]) T=qa 56 [(0,(h0 I3)),(1,(.av (q7.map Jq) q7.length .shared)),(5,(qM s1 (.uniq 1))),(6,(.av [] 0 (.uniq 1))),(7,(h0 s2))]) (h:KZ I3 qd qk s1 s2=some v) :
  dQ Try.prog Mh 19 0 none OL T [] Q:=by
 unfold OL;refine wp_loop b0 ?_;refine .intro (fun m T H=>∃ (s1:qb) (s2:Int),T=qa 56 [(0,(h0 I3)),(1,(.av (q7.map Jq) q7.length .shared)),(5,(qM s1 (.uniq 1))),(6,(.av [] 0 (.uniq 1))),(7,(h0 s2))]∧H=[]∧KZ I3 qd m s1 s2=some v) qk ⟨s1,s2,rfl,rfl,h⟩ ?_;clear h b0;rintro m T H ⟨s1,s2,rfl,rfl,h⟩;cases m
 ·exact rT h
 rename_i m;rw [KZ.eq_2] at h;conv=>whnf
 refine bs h (fun gM h=>?_) fun gM h=>?_
 ·rw [gM];conv=>whnf
  obtain ⟨gN,h⟩:=rL h;refine ⟨by first | rfl | simp,by have:=gN;omega,rfl,gN,?_⟩
  erw [SZ h0 s1 s2];conv=>whnf
  exact ⟨m,sG m,(s1++[s2]),(w (s2+(1:Int))),rfl,rfl,h⟩
 ·rw [gM];conv=>whnf
  exact rn _ _ h ⟨rfl,rfl⟩
theorem Xy {dk:qb} {Ha:qb} {NC:qb→qb→Option qb} {dE:Int} {q7:qb} {HP:Int} {v:qb} {Q:HL}  {qe:List I}  (abu:∀ (oU GC:qb) (qe:List I),NC oU GC=some v→rm 56 [(1,(.av (q7.map Jq) q7.length .shared)),(5,(qM oU (.uniq 1))),(6,(qM GC (.uniq 1))),(8,(h0 HP))] qe→Q .normal qe []) (qA:rm 56 [(1,(.av (q7.map Jq) q7.length .shared)),(5,(qM dk (.own 1))),(6,(qM Ha (.uniq 1))),(8,(h0 HP)),(9,(h0 dE))] qe) (h:KY dk Ha NC dE=some v) :
  dQ Try.prog Mh 19 0 none OM qe [] Q:=by
 obtain ⟨rG,rfl⟩:=qA.ex;unfold KY at h;unfold OM;conv=>whnf
 refine qV h id fun Hr h=>?_;rw [rb h0 dk dE Hr];conv=>whnf
 obtain ⟨rN,h⟩:=rL h;refine ⟨by first | rfl | simp,by have:=rN;omega,rfl,rN,?_⟩
 erw [SZ h0 Ha (ix dk dE)];conv=>whnf
 refine qV h id fun Hq h=>?_;erw [WN h0 dk dE Hq];conv=>whnf
 obtain ⟨J8,h⟩:=rL h;refine ⟨by first | rfl | simp,by have:=J8;omega,rfl,J8,?_⟩
 erw [SY h0 ([]:List Int) (dk.take dE.toNat)];conv=>whnf
 refine qV h id fun KD h=>?_;erw [WO h0 dk (w (dE+(1:Int))) KD];conv=>whnf
 obtain ⟨Lm,h⟩:=rL h;refine ⟨by first | rfl | simp,by have:=Lm;omega,rfl,Lm,?_⟩
 erw [SY h0 (([]:List Int)++(dk.take dE.toNat)) (dk.drop (w (dE+(1:Int))).toNat)];conv=>whnf
 exact abu _ _ _ h ⟨rfl,rfl⟩
theorem agl {q7:qb} {rC:qb→Option qb} {dk:qb} {Ha:qb} {HP:Int} {v:qb} {Q:HL}   (JI:∀ (JX:qb) (qe:List I),rC JX=some v→rm 56 [(6,(qM JX (.uniq 1)))] qe→Q (.exit 2) qe []) {T:List I} (b0:eZ (p8 false [1,1,3,2,1,1,47]) T=qa 56 [(1,(.av (q7.map Jq) q7.length .shared)),(5,(qM dk (.uniq 1))),(6,(qM Ha (.uniq 1))),(8,(h0 HP))]) (h:Jz q7 rC qk dk Ha HP=some v) :
  dQ Try.prog Mh 19 0 none OO T [] Q:=by
 unfold OO;obtain ⟨Kx,rM⟩:∃ c,OM=c:=⟨_,rfl⟩;rw [rM];refine wp_loop b0 ?_;refine .intro (fun m T H=>∃ (dk Ha:qb) (HP:Int),T=qa 56 [(1,(.av (q7.map Jq) q7.length .shared)),(5,(qM dk (.uniq 1))),(6,(qM Ha (.uniq 1))),(8,(h0 HP))]∧H=[]∧Jz q7 rC m dk Ha HP=some v) qk ⟨dk,Ha,HP,rfl,rfl,h⟩ ?_;clear h b0;rintro m T H ⟨dk,Ha,HP,rfl,rfl,h⟩;cases m
 ·exact rT h
 rename_i m;rw [Jz.eq_2] at h;conv=>whnf
 refine bs h (fun qs h=>?_) fun qs h=>?_
 ·rw [qs];conv=>whnf
  refine bs h (fun qP h=>?_) fun qP h=>?_
  ·rw [qP];(conv=>whnf);refine qV h id fun rj h=>?_;(conv=>whnf);refine qV h id fun rU h=>?_;rw [rb Jq q7 (HP.tmod (q7.length:Int)) rU];(conv=>whnf);refine qV h id fun qX h=>?_;(conv=>whnf);subst rM;refine Xy ?_ (by exact ⟨rfl,rfl⟩) h;intro oU GC qe h qA;obtain ⟨rG,rfl⟩:=qA.ex;(conv=>whnf);exact ⟨m,sG m,oU,GC,(w (HP+(1:Int))),rfl,rfl,h⟩
  ·rw [qP];(conv=>whnf);subst rM;refine Xy ?_ (by exact ⟨rfl,rfl⟩) h;intro oU GC qe h qA;obtain ⟨rG,rfl⟩:=qA.ex;(conv=>whnf);exact ⟨m,sG m,oU,GC,(w (HP+(1:Int))),rfl,rfl,h⟩
 ·rw [qs];conv=>whnf
  exact JI _ _ h ⟨rfl,rfl⟩
theorem agm {I3:Int} {q7:qb} {v:qb} (h:Ou I3 q7=some v):qu 19 [(h0 I3),(.av (q7.map Jq) q7.length .shared)] (.av (v.map h0) v.length .shared):=by
 refine qH eG acK rfl (rA (fun _=>rfl) _ _ _) fun Q bp=>?_;have jK:qJ [.tmp 4] Q (fun v=>(qM v .shared)) v:=fun T H bE=>bp _ T H bE;unfold Ou at h;unfold X7;obtain ⟨HY,qF⟩:∃ c,OL=c:=⟨_,rfl⟩;rw [qF];obtain ⟨ZE,Mp⟩:∃ c,OO=c:=⟨_,rfl⟩;rw [Mp];conv=>whnf
 subst qF;refine agk ?_ (by exact rfl) h;intro yo qe h qA;obtain ⟨rG,rfl⟩:=qA.ex;conv=>whnf
 subst Mp;refine agl ?_ (by exact rfl) h;intro JX qe h qA;obtain ⟨rG,rfl⟩:=qA.ex;conv=>whnf
 exact qg h jK rfl rfl

end Go.Proofs.Ytkoioidpbbbaiaa.Ab


namespace Go.Proofs.Ytkoioidpbbbaiaa.Ab
open Go
set_option maxRecDepth 20000
set_option maxHeartbeats 1000000
theorem afB (i:Nat):qh (i+1)=qh i++[(i:Int)]:=by unfold qh;rw [vE,sP];rfl
theorem Ud {n:Nat} (aI:n≤1000) {K:List Int→Option (List Int)}:∀ (m i:Nat),i≤n→n-i<m→KZ (n:Int) K m (qh i) (i:Int)=K (qh n)
 | 0,_,_,h=>absurd h (by omega)
 | m+1,i,hi,hm=>by
   rw [KZ];by_cases aR:i<n
   ·rw [if_pos (decide_eq_true (by omega)),qE (by rw [Kd];omega),Iz i (by omega),←afB];exact Ud aI m (i+1) (by omega) (by omega)
   ·(obtain rfl:i=n:=by omega);rw [if_neg (by simp)]
theorem abN {A B:List Int} {j:Nat} (aw:j<A.length) (aL:A.length≤1000) (H0:B.length≤1000) (K:List Int→List Int→Option (List Int)):KY A B K (j:Int)=K (A.take j++A.drop (j+1)) (B++[A[j]]):=by
 unfold KY;have ab:=List.length_take_le j A;rw [qE (by omega),qE (by omega),qE (by omega),tw,qE (by simp;omega),Iz j (by omega),qE (by omega),tw,qE (by simp;omega),rI aw,tP]
theorem adG {A B:List Int} {j:Nat} (aw:j<A.length):((B++[A[j]])++(A.take j++A.drop (j+1))).Perm (B++A):=by
 have e:A=A.take j++A[j]::A.drop (j+1):=by rw [←s7 aw,List.take_append_drop]
 rw [sx];refine List.Perm.append_left B ?_;have:=(List.perm_middle (l₁:=A.take j) (a:=A[j]) (l₂:=A.drop (j+1))).symm;rw [←e] at this;exact this
theorem Uc {n:Nat} (aI:n≤1000) {Q:List Int} (bp:∀ b∈Q,0≤b∧b≤255) (ao:Q.length≤1000) {K:List Int→Option (List Int)}:∀ (m:Nat) (A B:List Int),A.length<m→(B++A).Perm (qh n) →
  ∃ r,qq n r∧Jz Q K m A B (B.length:Int)=K r
 | 0,_,_,h,_=>absurd h (by omega)
 | m+1,A,B,hm,aB=>by
   rw [Jz];have hlen:=aB.length_eq;rw [sy,Kd] at hlen;by_cases aQ:0<A.length
   ·rw [if_pos (decide_eq_true (by omega)),Iz B.length (by omega)];have next:∀ j:Nat,j<A.length→∃ r,qq n r∧KY A B (fun oU GC=>Jz Q K m oU GC ((B.length+1:Nat):Int)) (j:Int)=K r:=fun j aw=>by
     rw [abN aw (by omega) (by omega)];have:=Uc aI bp ao (K:=K) m (A.take j++A.drop (j+1)) (B++[A[j]]) (by simp;omega) ((adG aw).trans aB);rw [show (B++[A[j]]).length=B.length+1 by simp] at this;exact this
    by_cases a':0<Q.length
    ·rw [if_pos (decide_eq_true (by omega)),qE (by omega)];(have e1:((B.length:Nat):Int).tmod (Q.length:Int)=((B.length % Q.length:Nat):Int):=by rw [vB (by omega)];omega);have Qa:=uH B.length a';rw [e1,qE (by omega),qE (by omega)];have af:=bp _ (Jb (l:=Q) (i:=((B.length % Q.length:Nat):Int)) (by omega));obtain ⟨v,ad⟩:∃ v:Nat,ix Q ((B.length % Q.length:Nat):Int)=(v:Int):=⟨(ix Q ((B.length % Q.length:Nat):Int)).toNat,by omega⟩;rw [ad] at af ⊢;(have b':(v:Int).tmod (A.length:Int)=((v % A.length:Nat):Int):=by rw [vB (by omega)];omega);rw [qO (n:=(v:Int)) (by omega),b'];exact next _ (uH _ aQ)
    ·rw [if_neg (by simpa using a')];exact next 0 aQ
   ·rw [if_neg (by simpa using aQ)];obtain rfl:A=[]:=List.length_eq_zero_iff.1 (by omega);rw [sM] at aB;exact ⟨B,Lw.2 aB,rfl⟩
theorem agj {n:Nat} (aI:n≤1000) {Q:List Int} (bp:∀ b∈Q,0≤b∧b≤255) (ao:Q.length≤1000):∃ r,qq n r∧Ou (n:Int) Q=some r:=by
 unfold Ou;obtain ⟨r,ab,ae⟩:=Uc aI bp ao (K:=fun JX=>some JX) qk (qh n) [] (by rw [Kd];exact IH (by omega)) (by rw [tP]);refine ⟨r,ab,?_⟩;rw [←ae];exact Ud aI (K:=fun yo=>Jz Q (fun JX=>some JX) qk yo [] 0) qk 0 (by omega) (IH (by omega))
theorem agh (p:p_):Ot p=some (decide (rh p=0)):=by
 unfold Ot Om;rw [sb];by_cases h:(10:Int)<(p.1.length:Int)
 ·rw [if_pos (decide_eq_true h),decide_eq_false];intro ak;have:=(JE.1 ak).len;omega
 ·rw [if_neg (by simpa using h),XF (by omega),sb]
theorem U4 {p:p_} {o:List Int} (h:q3 p) (k:qq p.1.length o):rK p o=0:=KJ.2 ⟨h,k⟩
theorem agn {p:p_} {o:List Int} (h:q3 p) (k:qq p.1.length o):Jn p o=some (qZ p o,0):=by
 have:=h.len;have:=k.1;rw [Ov (by omega) (by omega),if_pos (U4 h k)]
end Go.Proofs.Ytkoioidpbbbaiaa.Ab


namespace Go.Proofs.Ytkoioidpbbbaiaa.Ab
open Go
set_option maxRecDepth 100000
set_option maxHeartbeats 4000000
end Go.Proofs.Ytkoioidpbbbaiaa.Ab


namespace Go.Proofs.Ytkoioidpbbbaiaa.Ab
open Go
set_option maxRecDepth 20000
set_option maxHeartbeats 1000000
section
variable {p:p_} {o:List Int}
theorem agf (h:q3 p) (k:qq p.1.length o):Kh p o=some (((Ho p o 0+Ho p o 1:Nat):Int),0):=by
 have aI:=h.len;have al:=k.1;obtain ⟨l,ab,ae⟩:=RC (p:=p) (o:=o) (by omega) (by omega);have rV:=U4 h k;rw [if_pos rV] at ab;unfold Kh;rw [ab,sb,(ae rV).1]
end
end Go.Proofs.Ytkoioidpbbbaiaa.Ab


namespace Go.Proofs.Ytkoioidpbbbaiaa.Ab
open Go
set_option maxRecDepth 20000
set_option maxHeartbeats 4000000

end Go.Proofs.Ytkoioidpbbbaiaa.Ab


namespace Go.Proofs.Ytkoioidpbbbaiaa.Ab
open Go
set_option maxRecDepth 20000
set_option maxHeartbeats 1000000
section
variable {p:p_} {o:List Int} {l:List qn}
theorem aai {a i:Nat} (h:i<o.length∧i % 2=a∧I7 p o a i):Ho p o a≤1:=by
 unfold Ho;split
 ·omega
 ·rw [if_pos ⟨i,h⟩];exact sc _
theorem aaj {a:Nat}:Ho p o a=0↔HA p o a:=by
 constructor
 ·intro h;unfold Ho at h;split at h
  ·assumption
  ·split at h <;> cases h
 ·exact Pw
theorem UL {s:Int}:s∈I6 p↔(0≤s∧s<(p.1.length:Int))∧HM p s.toNat=true:=by
 unfold I6;rw [List.mem_filter,My]
theorem abp (k:qq p.1.length o) {i:Nat} (hi:i<o.length) (ab:HA p o (1-i % 2)) (ae:I7 p o (i % 2) i):ix o (i:Int)∈I6 p :=
 UL.2 ⟨rZ k i hi,Pl.2 ⟨o,k,i,hi,rfl,by unfold C_;rw [decide_eq_true ab,decide_eq_true ae];rfl⟩⟩
end
end Go.Proofs.Ytkoioidpbbbaiaa.Ab


namespace Go.Proofs.Ytkoioidpbbbaiaa.Ab
open Go
set_option maxRecDepth 20000
set_option maxHeartbeats 1000000
def It (q:p_) (o:List Int):Bool :=
 decide (qt q.1 o 0=qt q.1 o 2) || (decide (q.2.1=q.2.2) && decide (qR q.2.1 (qt q.1 o 0)=qR q.2.1 (qt q.1 o 2)))
theorem UQ {S:List qv} {o:List Int} {f:qv→Int} (aI:o.length=3):rB S o 0 f=f (qt S o 2)-f (qt S o 0):=by
 unfold rB;rw [aI];simp [qQ,qB];omega
theorem aal {q:p_} {o:List Int} (aI:o.length=3):It q o=true↔HA q o 0:=by
 unfold It HA q6;rw [UQ aI,UQ aI,tt,sn,decide_eq_true_eq,decide_eq_true_eq,decide_eq_true_eq];obtain ⟨a,cu⟩:∃ a,a=qt q.1 o 0:=⟨_,rfl⟩;obtain ⟨b,af⟩:∃ b,b=qt q.1 o 2:=⟨_,rfl⟩;rw [←cu,←af];constructor
 ·rintro (h | ⟨ab,ae⟩)
  ·rw [h];omega
  ·rw [←ab,ae];omega
 ·rintro ⟨ab,ae⟩;by_cases he:q.2.1=q.2.2
  ·exact .inr ⟨he,by omega⟩
  ·left;unfold qR at ab ae;have:=(Og (L:=q.2.1) (H:=q.2.2) (U:=b.1-a.1) (V:=b.2-a.2) he).1 ⟨by grind,by grind⟩;exact Prod.ext (by omega) (by omega)
structure YG (q:p_) (o:List Int):Prop where
 Td:∃ k:Int,Jn q o=some (k,0)∧decide (k=0)=It q o
 Tc:KX q=some ([0,1,2],0)
 Tb:∃ m:Int,Kh q o=some (m,0)∧m≤1∧decide (m=0)=It q o
theorem afx {q:p_} (h:q3 q) (aF:q.1.length=3) {o:List Int} (k:qq q.1.length o):YG q o:=by
 have al:=k.1;have aI:o.length=3:=by omega
 have f1:HA q o 1:=⟨Lu aI,Lu aI⟩;have aP:=aal (q:=q) aI;have bk:Ho q o 1=0:=Pw f1;have hle:=aai (Qn h k (a:=0) (i:=2) (.inl ⟨aI,rfl,rfl⟩));refine ⟨⟨qZ q o,agn h k,?_⟩,?_,⟨((Ho q o 0+Ho q o 1:Nat):Int),agf h k,by omega,?_⟩⟩
 ·rw [uD,decide_eq_true_eq,aP,Ta];exact ⟨fun h=>h.1,fun h=>⟨h,f1⟩⟩
 ·have af:I6 q=qh q.1.length:=by
   unfold I6;refine tC.2 fun s ah=>?_;have ah:=My.1 ah;have key:∀ cz:List Int,qq 3 cz→ix cz ((2:Nat):Int)=s→HM q s.toNat=true:=fun cz k' e=>by
    (have aN:qq q.1.length cz:=by rw [aF];exact k');have Qb:cz.length=3:=k'.1;have hm:=Qn h aN (a:=0) (i:=2) (.inl ⟨Qb,rfl,rfl⟩);have:=(UL.1 (abp aN (i:=2) (by omega) ⟨Lu Qb,Lu Qb⟩ hm.2.2)).2;rw [e] at this;exact this
   rcases (show s=0∨s=1∨s=2 by omega) with rfl | rfl | rfl
   ·exact key [1,2,0] (by decide) rfl
   ·exact key [0,2,1] (by decide) rfl
   ·exact key [0,1,2] (by decide) rfl
  rw [Xw (by omega),if_pos (JE.2 h),af,aF];rfl
 ·rw [uD,decide_eq_true_eq,aP,←aaj];omega
theorem W5 {p:p_} (h:q3 p):q3 (p.1.take 3,p.2) :=
 ⟨.inl (by have:=h.len;simp;omega),fun s ah=>h.s s (List.mem_of_mem_take ah),h.lo,h.le,h.hi⟩
end Go.Proofs.Ytkoioidpbbbaiaa.Ab


namespace Go.Proofs.Ytkoioidpbbbaiaa.Ab
open Go
noncomputable def Rf:gE :=
 p2 [p1 95 12,qw 96 95 0 .eql,p1 97 96,cl 98 [.jq 11] 97 true .mV,cl 99 [.Bu 98,.cv (.int .i64 0)] 97 true (.bin .eql),cl 100 [.nd 10] 97 true .mV,cl 101 [.Bu 99,.Bu 100] 97 true (.o4 false),p0 102 [.Bu 97,.Bu 101,.cv (.bool false)] .pick,p1 103 102,cl 104 [.jq 14] 103 true .mV,cl 105 [.Bu 104,.cv (.int .i64 0)] 103 true (.bin .eql),p0 106 [.Bu 103,.Bu 105,.cv (.bool false)] .pick,p1 107 106,cl 108 [.jq 13] 107 true .mV,⟨some 109,[.cv (.int .i64 0),.cv (.int .i64 1),.cv (.int .i64 2)],some (107,true),none,.yD 3 1 [.int .i64 0] [0,1,2]⟩,⟨some 110,[.cv (.func 28 [] []),.nd 109],some (107,true),none,.call 3⟩,⟨some 111,[.cv (.func 27 [] []),.nd 108,.nd 110],some (107,true),none,.call 3⟩,p0 112 [.Bu 107,.Bu 111,.cv (.bool false)] .pick,p1 113 112,cl 114 [.jq 16] 113 true .mV,cl 115 [.Bu 114,.cv (.int .i64 0)] 113 true (.bin .eql),p0 116 [.Bu 113,.Bu 115,.cv (.bool false)] .pick,p1 117 116,cl 118 [.nd 15] 117 true .mV,cl 119 [.Bu 118,.cv (.int .i64 1)] 117 true (.bin .leq),p0 120 [.Bu 117,.Bu 119,.cv (.bool false)] .pick,p1 121 120,cl 122 [.jq 15] 121 true .mV,cl 123 [.Bu 122,.cv (.int .i64 0)] 121 true (.bin .eql),cl 124 [.jq 10] 121 true .mV,cl 125 [.Bu 123,.Bu 124] 121 true (.o4 false),p0 126 [.Bu 121,.Bu 125,.cv (.bool false)] .pick,p1 127 126,⟨some 128,[.cv (.func 11 [] [])],some (127,true),none,.call 3⟩,p0 129 [.Bu 127,.Bu 128,.cv (.bool false)] .pick,p1 4 129] .ret
noncomputable def Rg:gE :=
 p2 [p0 90 [.Bu 5] (.zG (.str 3)),p1 91 6,p0 92 [.cv (.func 21 [] []),.nd 90,.nd 91] (.call 3),p1 89 92,qL 93 89 0,p0 94 [.Bu 89] (.ext 1),p1 15 93,p1 16 94] Rf
noncomputable def Rh:gE :=
 p2 [p0 85 [.nd 5] (.zG (.str 3)),p0 86 [.cv (.func 25 [] []),.nd 85] (.call 3),p1 84 86,qL 87 84 0,p0 88 [.Bu 84] (.ext 1),p1 13 87,p1 14 88] Rg
noncomputable def N3:gE :=
 p2 [p0 79 [.nd 5] (.zG (.str 3)),p3 80 6,p0 81 [.cv (.func 14 [] []),.nd 79,.nd 80] (.call 3),p1 78 81,qL 82 78 0,p0 83 [.Bu 78] (.ext 1),p1 11 82,p1 12 83] Rh
noncomputable def N4:gE :=
 p2 [p0 51 [.nd 7] (.zG (.str 2)), p0 52 [.nd 8] (.zG (.str 2)), p0 53 [.Bu 51, .Bu 52] (.other (Oper.mk (some 53) (Op.binOp .eql 52 (Operand.tmp 51) (Operand.tmp 52) 52) 4 "outright.go:253" (Array.mk [Edge.mk 0 Ground.data, Edge.mk 1 Ground.data]) none) 0), p1 54 53, cl 55 [.nd 9] 54 false .mV, cl 56 [.nd 5] 54 false (.yO 1), cl 57 [.Bu 56] 54 false (.yO 1), cl 58 [.Bu 57] 54 false (.zG .one), cl 59 [.Bu 55, .Bu 58] 54 false (.bin .eql), cl 60 [.jq 59] 54 false .mV, cl 61 [.nd 7] 60 true (.yO 0), cl 62 [.Bu 61] 60 true (.zG .one), cl 63 [.Bu 7] 60 true (.yO 1), cl 64 [.Bu 63] 60 true (.zG .one), cl 65 [.nd 9] 60 true .mV, cl 66 [.Bu 64, .Bu 65] 60 true (.bin .mul), cl 67 [.Bu 62, .Bu 66] 60 true (.bin .add), cl 68 [.nd 8] 60 true (.yO 0), cl 69 [.Bu 68] 60 true (.zG .one), cl 70 [.Bu 8] 60 true (.yO 1), cl 71 [.Bu 70] 60 true (.zG .one), cl 72 [.jq 9] 60 true .mV, cl 73 [.Bu 71, .Bu 72] 60 true (.bin .mul), cl 74 [.Bu 69, .Bu 73] 60 true (.bin .add), cl 75 [.Bu 67, .Bu 74] 60 true (.bin .eql), cl 76 [.Bu 60, .Bu 75, .cv (.bool false)] 54 false .pick, p0 77 [.Bu 54, .cv (.bool true), .Bu 76] .pick, p1 10 77] N3
noncomputable def Ri:gE :=
 .seq (.two [p0 34 [.nd 5] (.yO 0), qf 35 34, p3 36 6, p0 37 [.Bu 36, .cv (.int .i64 0)] (.kZ 1), qf 38 37, q5 39 35 38 2, p0 40 [.Bu 39] (.zG (.str 2)), p0 41 [.nd 5] (.yO 0), p0 42 [.Bu 41] (.other (Oper.mk (some 42) (Op.load 22 (Operand.tmp 41)) 22 "outright.go:252" (Array.mk [Edge.mk 7 Ground.data, Edge.mk 19 (Ground.gcOnly Departure.lateStores)]) none) 13), p3 43 6, p0 44 [.Bu 43, .cv (.int .i64 2)] (.kZ 1), p0 45 [.Bu 44] (.zH .one), q5 46 42 45 2, p0 47 [.Bu 46] (.zH (.str 2)), p0 48 [.nd 5] (.yO 1), qx 49 48 0, p0 50 [.Bu 49] (.other (Oper.mk (some 50) (Op.load 2 (Operand.tmp 49)) 2 "outright.go:252" (Array.mk [Edge.mk 15 Ground.data, Edge.mk 20 (Ground.gcOnly Departure.lateStores)]) none) 13), p0 7 [] (.alloc [.int .i64 0, .int .i64 0]), p0 8 [] (.alloc [.int .i64 0, .int .i64 0]), ⟨none, [.nd 7, .jq 40], none, none, .other (Oper.mk none (Op.store 52 (Operand.tmp 7) (Operand.tmp 40)) 0 "outright.go:252" (Array.mk [Edge.mk 17 Ground.data, Edge.mk 6 Ground.data, Edge.mk 0 Ground.phase, Edge.mk 1 Ground.phase, Edge.mk 2 Ground.phase, Edge.mk 3 Ground.phase, Edge.mk 4 Ground.phase, Edge.mk 5 Ground.phase, Edge.mk 6 Ground.phase, Edge.mk 7 (Ground.textOnly Departure.lateStores), Edge.mk 8 (Ground.textOnly Departure.lateStores), Edge.mk 9 (Ground.textOnly Departure.lateStores), Edge.mk 10 (Ground.textOnly Departure.lateStores), Edge.mk 11 (Ground.textOnly Departure.lateStores), Edge.mk 12 (Ground.textOnly Departure.lateStores), Edge.mk 13 (Ground.textOnly Departure.lateStores), Edge.mk 14 (Ground.textOnly Departure.lateStores), Edge.mk 15 (Ground.textOnly Departure.lateStores), Edge.mk 16 (Ground.textOnly Departure.lateStores), Edge.mk 17 Ground.phase, Edge.mk 18 Ground.phase]) none) 13⟩, ⟨none, [.nd 8, .jq 47], none, none, .other (Oper.mk none (Op.store 52 (Operand.tmp 8) (Operand.tmp 47)) 0 "outright.go:252" (Array.mk [Edge.mk 18 Ground.data, Edge.mk 13 Ground.data, Edge.mk 19 Ground.chain, Edge.mk 0 Ground.phase, Edge.mk 1 Ground.phase, Edge.mk 2 Ground.phase, Edge.mk 3 Ground.phase, Edge.mk 4 Ground.phase, Edge.mk 5 Ground.phase, Edge.mk 6 Ground.phase, Edge.mk 7 Ground.phase, Edge.mk 8 Ground.phase, Edge.mk 9 Ground.phase, Edge.mk 10 Ground.phase, Edge.mk 11 Ground.phase, Edge.mk 12 Ground.phase, Edge.mk 13 Ground.phase, Edge.mk 14 (Ground.textOnly Departure.lateStores), Edge.mk 15 (Ground.textOnly Departure.lateStores), Edge.mk 16 (Ground.textOnly Departure.lateStores), Edge.mk 17 Ground.phase, Edge.mk 18 Ground.phase, Edge.mk 19 Ground.phase]) none) 13⟩, p1 9 50] [p0 34 [.nd 5] (.yO 0), qf 35 34, p3 36 6, p0 37 [.Bu 36, .cv (.int .i64 0)] (.kZ 1), qf 38 37, q5 39 35 38 2, p0 40 [.Bu 39] (.zG (.str 2)), p0 41 [.nd 5] (.yO 0), p0 42 [.Bu 41] (.other (Oper.mk (some 42) (Op.load 22 (Operand.tmp 41)) 22 "outright.go:252" (Array.mk [Edge.mk 7 Ground.data, Edge.mk 19 (Ground.gcOnly Departure.lateStores)]) none) 13), p3 43 6, p0 44 [.Bu 43, .cv (.int .i64 2)] (.kZ 1), p0 45 [.Bu 44] (.zH .one), q5 46 42 45 2, p0 47 [.Bu 46] (.zH (.str 2)), p0 48 [.nd 5] (.yO 1), qx 49 48 0, p0 50 [.Bu 49] (.other (Oper.mk (some 50) (Op.load 2 (Operand.tmp 49)) 2 "outright.go:252" (Array.mk [Edge.mk 15 Ground.data, Edge.mk 20 (Ground.gcOnly Departure.lateStores)]) none) 13), p0 8 [] (.alloc [.int .i64 0, .int .i64 0]), p0 7 [] (.alloc [.int .i64 0, .int .i64 0]), ⟨none, [.nd 7, .jq 40], none, none, .other (Oper.mk none (Op.store 52 (Operand.tmp 7) (Operand.tmp 40)) 0 "outright.go:252" (Array.mk [Edge.mk 17 Ground.data, Edge.mk 6 Ground.data, Edge.mk 0 Ground.phase, Edge.mk 1 Ground.phase, Edge.mk 2 Ground.phase, Edge.mk 3 Ground.phase, Edge.mk 4 Ground.phase, Edge.mk 5 Ground.phase, Edge.mk 6 Ground.phase, Edge.mk 7 (Ground.textOnly Departure.lateStores), Edge.mk 8 (Ground.textOnly Departure.lateStores), Edge.mk 9 (Ground.textOnly Departure.lateStores), Edge.mk 10 (Ground.textOnly Departure.lateStores), Edge.mk 11 (Ground.textOnly Departure.lateStores), Edge.mk 12 (Ground.textOnly Departure.lateStores), Edge.mk 13 (Ground.textOnly Departure.lateStores), Edge.mk 14 (Ground.textOnly Departure.lateStores), Edge.mk 15 (Ground.textOnly Departure.lateStores), Edge.mk 16 (Ground.textOnly Departure.lateStores), Edge.mk 17 Ground.phase, Edge.mk 18 Ground.phase]) none) 13⟩, ⟨none, [.nd 8, .jq 47], none, none, .other (Oper.mk none (Op.store 52 (Operand.tmp 8) (Operand.tmp 47)) 0 "outright.go:252" (Array.mk [Edge.mk 18 Ground.data, Edge.mk 13 Ground.data, Edge.mk 19 Ground.chain, Edge.mk 0 Ground.phase, Edge.mk 1 Ground.phase, Edge.mk 2 Ground.phase, Edge.mk 3 Ground.phase, Edge.mk 4 Ground.phase, Edge.mk 5 Ground.phase, Edge.mk 6 Ground.phase, Edge.mk 7 Ground.phase, Edge.mk 8 Ground.phase, Edge.mk 9 Ground.phase, Edge.mk 10 Ground.phase, Edge.mk 11 Ground.phase, Edge.mk 12 Ground.phase, Edge.mk 13 Ground.phase, Edge.mk 14 (Ground.textOnly Departure.lateStores), Edge.mk 15 (Ground.textOnly Departure.lateStores), Edge.mk 16 (Ground.textOnly Departure.lateStores), Edge.mk 17 Ground.phase, Edge.mk 18 Ground.phase, Edge.mk 19 Ground.phase]) none) 13⟩, p1 9 50]) N4
noncomputable def Rj:gE :=
 .seq (q_ [p0 26 [.nd 2] (.yO 0),qf 27 26,p0 28 [.jq 27,.cv (.int .i64 3)] (.Bj 2 false true false),p0 29 [.nd 2] (.yO 1),p0 30 [.Bu 29] (.zG (.str 2)),p0 31 [.Bu 28,.Bu 30] (.build [.av [] 0 .full,.int .i64 0,.int .i64 0] [(0,1),(1,2)]),p0 5 [] (.alloc [.av [] 0 .full,.int .i64 0,.int .i64 0]),⟨none,[.nd 5,.jq 31],none,none,.st 3⟩]) (p2 [p1 32 1,p0 33 [.cv (.func 19 [] []),.cv (.int .i64 3),.nd 32] (.call 3),p1 6 33] Ri)
noncomputable def Rk:gE :=
 .seq (p2 [p0 17 [.nd 2] (.zG (.str 3)),p0 18 [.cv (.func 18 [] []),.nd 17] (.call 3),p0 19 [.Bu 18] (.un .not),p1 20 19,cl 21 [.nd 1] 20 false .mV,cl 22 [.jq 21] 20 false .zL,cl 23 [.Bu 22,.cv (.int .i64 20)] 20 false (.bin .gtr),p0 24 [.Bu 20,.cv (.bool true),.Bu 23] .pick] (.cond (.nd 24) (p2 [p0 25 [.cv (.func 11 [] [])] (.call 3),p1 4 25] .ret) .skip)) Rj
noncomputable def Wc:gE :=
 p2 [p0 2 [.jq 0] .yA,p0 4 [.cv (.bool false)] .mV] Rk
theorem aci:ql Go.Proofs.Try.prog Ng 8=some (Wc,130,[.tmp 4]):=by kernel_rfl
end Go.Proofs.Ytkoioidpbbbaiaa.Ab


namespace Go.Proofs.Ytkoioidpbbbaiaa.Ab
open Go
set_option maxRecDepth 100000
set_option maxHeartbeats 4000000
theorem Uo {P:Program} {C:b8} {lo id:Nat} {o:Oper} {t:TypeId} {e:Operand} {x y z:I} {H:List ar} (aq:o.op=.load t e) (cu:iL P t=some .one) (ag:H[id]?=some (.cells [x,y,z])):a3 P C lo o 13 [.ptr id 1] H=some (y.view,H):=by
 unfold a3;rw [aq];show du P lo 13 t H [.ptr id 1]=_;unfold du;simp only [ag,List.length_cons,tK,if_true];rw [Pk cu];simp only [Mi,ag,J_];rfl
theorem Oc {P:Program} {C:b8} {id:Nat} {o:Oper} {t:TypeId} {e1 b':Operand} {u v:I} {a b:Int} {H:List ar} (aq:o.op=.store t e1 b') (ah:bF P t=some 2) (ag:H[id]?=some (.cells [u,v])) :
  a3 P C 0 o 13 [.ptr id 0,.agg [h0 a,h0 b]] H=some (.a0,H.set id (.cells [h0 a,h0 b])):=by
 unfold a3;rw [aq];show gm P 0 13 t H [.ptr id 0,.agg [h0 a,h0 b]]=_;unfold gm;simp only [ag];rw [if_neg (show ¬ [u,v].length=3 by simp)];unfold g8;simp only [ah,I.cells,gT,ag,if_pos (sD id)];rw [if_pos ⟨rfl,show 0+2≤[u,v].length by simp⟩];rfl
theorem Rw {q:p_} {o:List Int} (h:q3 q) (aF:q.1.length=3) (k:qq q.1.length o) {H:List ar} (bP:H[0]?=some (.cells [.av (q.1.flatMap p7) q.1.length .shared,h0 q.2.1,h0 q.2.2]))
  {Q:cQ→List I→List ar→Prop} (jK:∀ T H,Hl [.tmp 4] (.bool true) .ret T H→Q .ret T H) {T:List I} (b0:rm 130 [(5,.ptr 0 0),(6,.av (o.map h0) o.length .shared),(10,.bool (It q o))] T) :
  dQ Try.prog Ng 8 0 none N3 T H Q:=by
 obtain ⟨u,rfl⟩:=b0.ex;obtain ⟨⟨fl,Td,f29⟩,Tc,⟨Qo,Tb,da,f21⟩⟩:=afx h aF k;unfold N3;obtain ⟨bt,eS⟩:∃ c,Rh=c:=⟨_,rfl⟩;rw [eS];conv=>whnf
 refine Ex bP ?_;conv=>whnf
 refine ⟨qi.pl,_,Ow Td,?_⟩;conv=>whnf
 subst eS;unfold Rh;obtain ⟨a9,ca⟩:∃ c,Rg=c:=⟨_,rfl⟩;rw [ca];conv=>whnf
 refine Ex bP ?_;conv=>whnf
 refine ⟨qi.pl,_,Xx Tc,?_⟩;conv=>whnf
 subst ca;unfold Rg;obtain ⟨a7,cf⟩:∃ c,Rf=c:=⟨_,rfl⟩;rw [cf];conv=>whnf
 refine Ex bP ?_;conv=>whnf
 refine ⟨qi.pl,_,Xu Tb,?_⟩;conv=>whnf
 subst cf;unfold Rf;conv=>whnf
 have S2:∀ b:Bool,(b == b)=true:=fun b=>by cases b <;> rfl
 rw [show (decide (((fl,(0:Int)):Int×Int).1=0) == It q o)=true by rw [show decide (((fl,(0:Int)):Int×Int).1=0)=It q o from f29];exact S2 _];conv=>whnf
 refine ⟨rfl,_,IV (x:=[0,1,2]) rfl,?_⟩;conv=>whnf
 refine ⟨qi.pl,_,Rz Xp,?_⟩;conv=>whnf
 rw [show decide (((Qo,(0:Int)):Int×Int).1≤1)=true from decide_eq_true da];conv=>whnf
 rw [show (decide (((Qo,(0:Int)):Int×Int).1=0) == It q o)=true by rw [show decide (((Qo,(0:Int)):Int×Int).1=0)=It q o from f21];exact S2 _];conv=>whnf
 refine ⟨rfl,_,Ry works,?_⟩;conv=>whnf
 exact jK _ _ ⟨.inr rfl,_,rfl,_,yY rfl,rfl⟩
theorem W4 {q:p_} {o:List Int} (h:q3 q) (aF:q.1.length=3) (k:qq q.1.length o) {H:List ar} (bP:H[0]?=some (.cells [.av (q.1.flatMap p7) q.1.length .shared,h0 q.2.1,h0 q.2.2])) {ida idb:Nat} (cu:H[ida]?=some (.cells [h0 (qt q.1 o 0).1,h0 (qt q.1 o 0).2])) (af:H[idb]?=some (.cells [h0 (qt q.1 o 2).1,h0 (qt q.1 o 2).2]))
  {Q:cQ→List I→List ar→Prop} (jK:∀ T H,Hl [.tmp 4] (.bool true) .ret T H→Q .ret T H) {T:List I} (b0:rm 130 [(5,.ptr 0 0),(6,.av (o.map h0) o.length .shared),(7,.ptr ida 0),(8,.ptr idb 0),(9,h0 q.2.1)] T) :
  dQ Try.prog Ng 8 0 none N4 T H Q:=by
 obtain ⟨u,rfl⟩:=b0.ex;have bD:=h.lo;have GQ:=h.hi;have hle:=h.le;have WA:=Io h.s (rZ k) (show 0<o.length by have:=k.1;omega);have s2:=Io h.s (rZ k) (show 2<o.length by have:=k.1;omega);obtain ⟨a,aL⟩:∃ a,a=qt q.1 o 0:=⟨_,rfl⟩;obtain ⟨b,H0⟩:∃ b,b=qt q.1 o 2:=⟨_,rfl⟩;have pF:It q o=(decide (a=b) || (decide (q.2.1=q.2.2) && decide (qR q.2.1 a=qR q.2.1 b))):=by unfold It;rw [←aL,←H0]
 rw [←aL] at cu WA;rw [←H0] at af s2;unfold N4;obtain ⟨b6,iP⟩:∃ c,N3=c:=⟨_,rfl⟩;rw [iP];conv=>whnf
 refine Ex cu ?_;conv=>whnf
 refine Ex af ?_;conv=>whnf
 refine ⟨.bool (decide (a=b)),_,fun C=>Qr rfl rfl (R8 (fs:=Tx Try.prog 52) (by kernel_rfl) (by kernel_rfl) (by kernel_rfl) (by kernel_rfl) (by kernel_rfl) _ _ _ _ (.inl rfl)),?_⟩;conv=>whnf
 by_cases e1:a=b
 ·rw [decide_eq_true e1] at pF ⊢;have pF:It q o=true:=pF;conv=>whnf
  subst iP;refine Rw h aF k bP jK ?_;rw [pF];exact ⟨rfl,rfl⟩
 ·rw [decide_eq_false e1] at pF ⊢;conv=>whnf
  refine Ex bP ?_;conv=>whnf
  by_cases b':q.2.1=q.2.2
  ·rw [decide_eq_true b'] at pF ⊢;(conv=>whnf);refine Ex cu ?_;(conv=>whnf);refine Ex cu ?_;(conv=>whnf);refine Ex af ?_;(conv=>whnf);refine Ex af ?_;(conv=>whnf);have w0:∀ s:qv,qK s→IntKind.i64.wrap (s.1+IntKind.i64.wrap (s.2*q.2.1))=qR q.2.1 s:=fun s ah=>by
    have t0:=Kw ah (d:=q.2.1) (by omega);have t1:=HT (a:=s.2) (b:=q.2.1) (A:=10) (B:=50) ⟨ah.2.2.1,ah.2.2.2⟩ (by omega);rw [Hj (s.2*q.2.1) (by omega) (by omega)];show IntKind.i64.wrap (qR q.2.1 s)=_;exact Hj _ (by omega) (by omega)
   rw [w0 a WA,w0 b s2];have pF:It q o=decide (qR q.2.1 a=qR q.2.1 b):=pF;subst iP;refine Rw h aF k bP jK ?_;rw [pF];exact ⟨rfl,rfl⟩
  ·rw [decide_eq_false b'] at pF ⊢;have pF:It q o=false:=pF;(conv=>whnf);subst iP;refine Rw h aF k bP jK ?_;rw [pF];exact ⟨rfl,rfl⟩
theorem Z' (p:p_) {B:List Int} (H0:∀ b∈B,0≤b∧b≤255):qu 8 [adA p,.av (B.map Jq) B.length .shared] (.bool true):=by
 refine qH eG aci rfl rfl fun Q bp=>?_;have jK:∀ T H,Hl [.tmp 4] (.bool true) .ret T H→Q .ret T H:=fun T H bE=>bp _ T H bE;unfold Wc;obtain ⟨ZC,Mn⟩:∃ c,Rk=c:=⟨_,rfl⟩;rw [Mn];conv=>whnf
 refine ⟨rfl,?_⟩;conv=>whnf
 subst Mn;unfold Rk;obtain ⟨ZB,Mm⟩:∃ c,Rj=c:=⟨_,rfl⟩;rw [Mm];conv=>whnf
 refine ⟨qi.pl,_,agi (agh p),?_⟩;conv=>whnf
 by_cases ak:rh p=0
 ·rw [decide_eq_true ak];have h:=JE.1 ak;have hlen:=h.len;conv=>whnf
  refine Hm (fun aR=>?_) (fun aR=>?_)
  ·(conv=>whnf);refine ⟨rfl,_,Ry works,?_⟩;(conv=>whnf);exact jK _ _ ⟨.inr rfl,_,rfl,_,yY rfl,rfl⟩
  ·(conv=>whnf);subst Mm;unfold Rj;obtain ⟨f',rP⟩:∃ c,Ri=c:=⟨_,rfl⟩;rw [rP];(conv=>whnf);(have qs:0≤(3:Int)∧(3:Int)≤(p.1.length:Int):=by omega);refine ⟨qs,?_⟩;erw [afd p7 2 Je p.1 (3:Int) qs];obtain ⟨S,cp⟩:∃ S,S=p.1.take (3:Int).toNat:=⟨_,rfl⟩;rw [←cp];(conv=>whnf);obtain ⟨o,k,aq⟩:=agj (n:=3) (by omega) H0 (by omega);refine ⟨qi.pl,_,agm aq,?_⟩;(conv=>whnf);have al:=k.1;(have J6:S.length=3:=by rw [cp,List.length_take];omega);have nU:=k.2.2 _ (Jb (l:=o) (i:=(0:Int)) (by omega));have Du:=k.2.2 _ (Jb (l:=o) (i:=(2:Int)) (by omega));(have iS:0≤(0:Int)∧(0:Int)<(o.length:Int):=by omega);(have gN:0≤(2:Int)∧(2:Int)<(o.length:Int):=by omega);(have Lp:0≤ix o (0:Int)∧ix o (0:Int)<(S.length:Int):=by omega);(have dN:0≤ix o (2:Int)∧ix o (2:Int)<(S.length:Int):=by omega);subst rP;unfold Ri;obtain ⟨dV,Cs⟩:∃ c,N4=c:=⟨_,rfl⟩;rw [Cs];(conv=>whnf);refine ⟨?_,?_⟩
   ·(conv=>whnf);refine ⟨iS,?_⟩;rw [rb h0 o (0:Int) iS];(conv=>whnf);refine ⟨Lp,?_⟩;rw [Ib p7 2 Je S _ Lp];(conv=>whnf);refine ⟨_,_,fun C=>Qh (x:=.av (S.flatMap p7) S.length .shared) rfl (by kernel_rfl) (by first | exact qC.h | rfl | (simp [sj,I.settle];done)),?_⟩
    (conv=>whnf);refine ⟨gN,?_⟩;rw [rb h0 o (2:Int) gN];(conv=>whnf);refine ⟨dN,?_⟩;rw [Ib p7 2 Je S _ dN];(conv=>whnf);refine ⟨_,_,fun C=>Uo (y:=h0 p.2.1) rfl (by kernel_rfl) (by first | exact qC.h | rfl | (simp [sj,I.settle];done)),?_⟩
    (conv=>whnf);refine ⟨_,_,fun C=>Oc rfl (by kernel_rfl) (by first | exact qC.h | rfl | (simp [sj,I.settle];done)),?_⟩
    (conv=>whnf);refine ⟨_,_,fun C=>Oc rfl (by kernel_rfl) (by first | exact qC.h | rfl | (simp [sj,I.settle];done)),?_⟩
    (conv=>whnf);subst Cs;have ad:=W5 h;exact W4 (q:=(S,p.2)) (ida:=1) (idb:=2) (by rw [cp];exact ad) J6 (by rw [show (S,p.2).1.length=3 from J6];exact k) rfl rfl rfl jK ⟨rfl,rfl⟩
   ·(conv=>whnf);refine ⟨iS,?_⟩;rw [rb h0 o (0:Int) iS];(conv=>whnf);refine ⟨Lp,?_⟩;rw [Ib p7 2 Je S _ Lp];(conv=>whnf);refine ⟨_,_,fun C=>Qh (x:=.av (S.flatMap p7) S.length .shared) rfl (by kernel_rfl) (by first | exact qC.h | rfl | (simp [sj,I.settle];done)),?_⟩
    (conv=>whnf);refine ⟨gN,?_⟩;rw [rb h0 o (2:Int) gN];(conv=>whnf);refine ⟨dN,?_⟩;rw [Ib p7 2 Je S _ dN];(conv=>whnf);refine ⟨_,_,fun C=>Uo (y:=h0 p.2.1) rfl (by kernel_rfl) (by first | exact qC.h | rfl | (simp [sj,I.settle];done)),?_⟩
    (conv=>whnf);refine ⟨_,_,fun C=>Oc rfl (by kernel_rfl) (by first | exact qC.h | rfl | (simp [sj,I.settle];done)),?_⟩
    (conv=>whnf);refine ⟨_,_,fun C=>Oc rfl (by kernel_rfl) (by first | exact qC.h | rfl | (simp [sj,I.settle];done)),?_⟩
    (conv=>whnf);subst Cs;have ad:=W5 h;exact W4 (q:=(S,p.2)) (ida:=2) (idb:=1) (by rw [cp];exact ad) J6 (by rw [show (S,p.2).1.length=3 from J6];exact k) rfl rfl rfl jK ⟨rfl,rfl⟩
 ·rw [decide_eq_false ak];conv=>whnf
  refine ⟨rfl,_,Ry works,?_⟩;conv=>whnf
  exact jK _ _ ⟨.inr rfl,_,rfl,_,yY rfl,rfl⟩
end Go.Proofs.Ytkoioidpbbbaiaa.Ab
