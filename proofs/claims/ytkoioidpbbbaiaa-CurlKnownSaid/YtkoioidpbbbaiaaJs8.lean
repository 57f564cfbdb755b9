
import Derived.Test.YtkoioidpbbbaiaaJs7
import Derived.KernelRfl
import Derived.Test.YtkoioidpbbbaiaaJs5
import Derived.Test.YtkoioidpbbbaiaaProg
import Derived.Test.YtkoioidpbbbaiaaJs6
set_option linter.unusedSimpArgs false
set_option linter.unusedVariables false
set_option linter.unusedSectionVars false

open Bool renaming and_eq_true→sn,and_true→tp,or_false→vw
open Int renaming le_refl→sS,toNat_natCast→tH
open List renaming append_assoc→sw,append_nil→sM,exists_cons_of_ne_nil→tI,filter_append→tX,getD_eq_getElem?_getD→sv,getElem?_append_left→sf,getElem?_eq_getElem→sg,getElem?_eq_some_iff→r_,getElem?_map→sj,getElem?_set_ne→sc,getElem?_set_self→si,getElem_map→tW,getElem_mem→tK,length_map→sW,map_set→tD,mem_cons→sx,take_of_length_le→tb
open Nat renaming le_refl→sb,lt_succ_self→sG,mul_one→ti,zero_add→sy,zero_le→sC
open Option renaming bind_some→sa
namespace Go.Proofs.Ytkoioidpbbbaiaa.Ab
open Go
set_option maxRecDepth 20000
set_option maxHeartbeats 4000000
def Hg (N:Nat) (H H':List ar):Prop:=H.length≤H'.length∧∀ (j:Nat) (c:List I),N≤j→H[j]?=some (.cells c)→H'[j]?=some (.cells c)
theorem Hg.refl (N:Nat) (H:List ar):Hg N H H:=⟨sb _,fun _ _ _ h=>h⟩
theorem Hg.trans {N:Nat} {H H1 H2:List ar} (h:Hg N H H1) (k:Hg N H1 H2):Hg N H H2:=⟨Nat.le_trans h.1 k.1,fun j c aw ak=>k.2 j c aw (h.2 j c aw ak)⟩
structure PM (l N:Nat) (Inv:Nat→List ar→Prop):Prop where
 len:∀ i H,Inv i H→l<N∧N≤H.length
 more:∀ i H Z,Inv i H→Inv i (H++Z)
 set:∀ i H j c dU,Inv i H→N≤j→H[j]?=some (.cells c)→Inv i (H.set j (.cells dU))
def So (P:Program) (k:FuncId) (cap:List I) (E:List I):Prop :=
 ∀ (l N:Nat) (Inv:Nat→List ar→Prop),PM l N Inv →
   (∀ (i:Nat) (h:i<E.length) (H:List ar),Inv i H→∃ H',Inv (i+1) H'∧Hg N H H'∧Sem P (.yield l) [E[i]] H 0 (.bool true) H') →
   ∀ H,Inv 0 H→∃ H',Inv E.length H'∧Sem P (.fn k) (.yield l::cap) H 0 (.tuple []) H'
structure H5 (L:Nat) (b:I) (p:Nat) (U:List Int) (H:List ar):Prop where
 y:H[p]?=some (.cells [.yield L])
 u:H[p+1]?=some (.cells (U.map h0))
 g:H[p+2]?=some (.cells [IG b p])
theorem H5.set {L p:Nat} {b:I} {U:List Int} {H:List ar} (h:H5 L b p U H) (MH:List Int):H5 L b p MH (H.set (p+1) (.cells (MH.map h0))) :=
 ⟨by rw [sc (by omega)];exact h.y,si (r_.1 h.u).1,by rw [sc (by omega)];exact h.g⟩
theorem H5.cE {L p N:Nat} {b:I} {U:List Int} {H H':List ar} (h:H5 L b p U H) (aB:N≤p) (k:Hg N H H'):H5 L b p U H':=⟨k.2 _ _ aB h.y,k.2 _ _ (by omega) h.u,k.2 _ _ (by omega) h.g⟩
theorem ae4 {Lf Lg:I} {Q:cQ→List I→List ar→Prop} {begun:List Int} {i n:Nat} {H:List ar} {L p:Nat} {b:I} {U:List Int} (l_:H5 L b p U H) (Hl:U.length=7) (hi:i<7) (af:begun.length≤7)
  (dW:∃ H',H5 L b p U H'∧Sem Try.prog (.fn 66) [.av ((begun++[(i:Int)]).map h0) (begun++[(i:Int)]).length (.uniq 1),b,.ptr p 0,.ptr (p+1) 0,.ptr (p+2) 0] H 0 (.bool true) H' ∧
   Q .normal (qb 52 [(0,rX begun),(3,.ptr (p+1) 0),(4,.ptr (p+2) 0),(26,h0 n),(27,h0 i),(28,Lf),(33,Lg),(50,.bool false)]) (H'.set (p+1) (.cells ((U.set i 0).map h0)))) :
  dQ Try.prog J5 66 0 none La (qb 52 [(0,rX begun),(3,.ptr (p+1) 0),(4,.ptr (p+2) 0),(7,h0 i),(26,h0 n),(27,h0 i),(28,Lf),(33,Lg)]) H Q:=by
 obtain ⟨H',aax,cp,bp⟩:=dW;have fin:∀ dH,dH=qb 52 [(0,rX begun),(3,.ptr (p+1) 0),(4,.ptr (p+2) 0),(7,h0 i),(8,.bool true),(26,h0 n),(27,h0 i),(28,Lf),(33,Lg)]→dQ Try.prog J5 66 0 none Nq dH H' Q:=by
  rintro _ rfl;unfold Nq;conv=>whnf
  refine ⟨by omega,?_⟩;conv=>whnf
  refine Ew aax.u ?_;conv=>whnf
  rw [show 0+(i:Int).toNat*1=i by omega];refine Gn (by simp;omega) ?_;conv=>whnf
  rw [show (List.map h0 U).set i (I.int IntKind.i64 0)=(U.set i 0).map h0 by rw [tD]];exact bp
 unfold La;cases begun with
 | nil =>
   (conv=>whnf);refine Ew l_.g ?_;(conv=>whnf);refine ⟨⟨by decide,by decide,by decide⟩,?_⟩;(conv=>whnf);refine ⟨rfl,by decide,?_⟩;(conv=>whnf);refine ⟨by decide,by decide,rfl,?_⟩;(conv=>whnf);refine ⟨_,_,ra cp,?_⟩;(conv=>whnf);exact fin _ rfl
 | cons a l =>
   (conv=>whnf);refine Ew l_.g ?_;(conv=>whnf);refine ⟨⟨rfl,by omega,sS _⟩,?_⟩;(conv=>whnf);rw [tH,ti,tb (by simp)];refine ⟨rfl,by decide,?_⟩;(conv=>whnf);refine ⟨by decide,by omega,by simp,?_⟩;(conv=>whnf);(have e1:List.map h0 (a::l)++[h0 (i:Int)]=((a::l)++[(i:Int)]).map h0:=by simp);(have b':(a::l).length+1=((a::l)++[(i:Int)]).length:=by simp);refine ⟨_,_,ra (by erw [e1,b'];exact cp),?_⟩;(conv=>whnf);exact fin _ rfl
def YB (L N:Nat) (Inv:Nat→List ar→Prop) (c:Nat) (begun:List Int) (E:List (List Int)):Prop :=
 ∀ (j:Nat) (l:List Int),E[j]?=some l→∀ H:List ar,Inv (c+j) H→∃ H',Inv (c+j+1) H'∧Hg N H H'∧Sem Try.prog (.yield L) [rX (begun++l)] H 0 (.bool true) H'
theorem T5 {b:((List (Int×Int))×(Int×Int))×Unit} (qR:b.1.1.length≤7) (iS:0<b.1.1.length) {L N:Nat} {Inv:Nat→List ar→Prop} (kE:PM L N Inv) {p:Nat} (aB:N≤p) :
  ∀ (k:Nat) (begun:List Int) (IC:hE) (U:List Int) (c:Nat),U.length=7→(∀ i,0≤U.getD i 0)→begun.length+k=b.1.1.length→(rb U b.1.1.length).length=k→((IC=.full∧begun=[])∨IC=.uniq 1∧begun≠[])→YB L N Inv c begun (qV k (rb U b.1.1.length)) →
  ∀ H,Inv c H→H5 L (.bS [lp b]) p U H→∃ H',Inv (c+(qV k (rb U b.1.1.length)).length) H'∧Hg N H H'∧Sem Try.prog (.fn 66) [.av (begun.map h0) begun.length IC,.bS [lp b],.ptr p 0,.ptr (p+1) 0,.ptr (p+2) 0] H 0 (.bool true) H'
 | 0,begun,IC,U,c,Hl,_,al,ao,CM,ai,H,ag,l_=>by
   obtain ⟨H',aav,aaw,cp⟩:=ai 0 [] rfl H ag;(have bJ:begun≠[]:=fun e=>by subst e;simp at al;omega);have CM:IC=.uniq 1:=by
    rcases CM with ⟨_,h⟩ | ⟨h,_⟩
    ·exact absurd h bJ
    ·exact h
   subst CM;obtain ⟨a,l,rfl⟩:=tI bJ;rw [sM] at cp;refine ⟨H',aav,aaw,?_⟩;refine re eG Oz rfl cp.1 fun Q bp=>?_;unfold K_ Lb;obtain ⟨f',Hh⟩:∃ c,Jj=c:=⟨_,rfl⟩;rw [Hh];(conv=>whnf);rw [decide_eq_true (show (((a::l).length:Nat):Int)=(b.1.1.length:Int) by omega)];(conv=>whnf);refine Ew l_.y ?_;(conv=>whnf);refine ⟨_,_,ra cp,?_⟩;(conv=>whnf);exact bp _ _ _ ⟨.inr rfl,lI.refl _,rfl⟩
 | k+1,begun,IC,U,c,Hl,MP,al,ao,CM,ai,H,ag,l_=>by
   obtain ⟨n,aI⟩:∃ n,n=b.1.1.length:=⟨_,rfl⟩;have MF:=T5 (L:=L) qR iS kE aB k;rw [←aI] at qR iS al ao ai MF ⊢
   obtain ⟨JG,KH,J9⟩:=Ob (fun i rj HU=>i<n→Inv (c+rS k U n i) rj∧H5 L (.bS [lp b]) p U rj →
    (Inv (c+rS k U n (i+1)) HU∧H5 L (.bS [lp b]) p U HU∧Hg N rj HU) ∧
    (U.getD i 0=0→∃ H2,H5 L (.bS [lp b]) p (U.set i 1) H2∧HU=H2.set (p+1) (.cells (U.map h0))∧Sem Try.prog (.fn 66) [.av ((begun++[(i:Int)]).map h0) (begun++[(i:Int)]).length (.uniq 1),.bS [lp b],.ptr p 0,.ptr (p+1) 0,.ptr (p+2) 0] (rj.set (p+1) (.cells ((U.set i 1).map h0))) 0 (.bool true) H2)∧(U.getD i 0≠0→HU=rj)) H (fun i rj=>by
    by_cases aP:i<n∧Inv (c+rS k U n i) rj∧H5 L (.bS [lp b]) p U rj
    ·obtain ⟨hi,aP⟩:=aP;by_cases aQ:U.getD i 0=0
     ·have hm:(i:Int)∈rb U n:=U6.2 ⟨i,hi,aQ,rfl⟩
      obtain ⟨H2,aA,aG,aT⟩:=MF (begun++[(i:Int)]) (.uniq 1) (U.set i 1) (c+rS k U n i) (by simpa using Hl) (WJ MP) (by simp;omega) (by rw [LR (by omega) aQ,List.length_erase_of_mem hm];omega) (.inr ⟨rfl,by simp⟩) (fun j l aw H' b9=>by
       rw [LR (by omega) aQ] at aw;rw [show c+rS k U n i+j=c+(rS k U n i+j) by omega] at b9 ⊢;obtain ⟨hF,bm,cw,e2⟩:=ai _ _ (UL hi aQ aw) H' b9;refine ⟨hF,bm,cw,?_⟩
       rw [sw];exact e2) (rj.set (p+1) (.cells ((U.set i 1).map h0))) (kE.set _ _ _ _ _ aP.1 (by omega) aP.2.u) (aP.2.set _)
      rw [LR (by omega) aQ] at aA;have LN:H5 L (.bS [lp b]) p (U.set i 1) H2:=(aP.2.set (U.set i 1)).cE aB aG;refine ⟨H2.set (p+1) (.cells (U.map h0)),fun _ _=>⟨⟨?_,LN.set U,?_⟩,fun _=>⟨H2,LN,rfl,aT⟩,fun h=>absurd aQ h⟩⟩
      ·rw [Od,if_pos aQ,←Nat.add_assoc];exact kE.set _ _ _ _ _ aA (by omega) LN.u
      ·refine ⟨by have:=aG.1;simp at this ⊢;omega,fun j cs aw ak=>?_⟩;by_cases e:j=p+1
       ·subst e;rw [aP.2.u] at ak;rw [←Option.some.inj ak];exact (LN.set U).u
       ·rw [sc (by omega)];exact aG.2 j cs aw (by rw [sc (by omega)];exact ak)
     ·refine ⟨rj,fun _ _=>⟨⟨?_,aP.2,Hg.refl _ _⟩,fun ab=>absurd ab aQ,fun _=>rfl⟩⟩;rw [Od,if_neg aQ];exact aP.1
    ·exact ⟨rj,fun ab h=>absurd ⟨ab,h⟩ aP⟩)
   have c1:∀ i,i≤n→Inv (c+rS k U n i) (JG i)∧H5 L (.bS [lp b]) p U (JG i)∧Hg N H (JG i):=fun i=>by
    induction i with
    | zero=>intro _;rw [KH];exact ⟨ag,l_,Hg.refl _ _⟩
    | succ i a8 =>
      intro hi;obtain ⟨aA,aG,aT⟩:=a8 (by omega);obtain ⟨⟨bm,cw,e2⟩,_,_⟩:=J9 i (by omega) ⟨aA,aG⟩;exact ⟨bm,cw,aT.trans e2⟩
   have QI:rS k U n n=(qV (k+1) (rb U n)).length:=rfl;refine ⟨JG n,by rw [←QI];exact (c1 n (sb _)).1,(c1 n (sb _)).2.2,?_⟩;refine re eG Oz rfl (Iw (c1 n (sb _)).2.2.1) fun Q bp=>?_;have main:∀ T,T=qb 52 [(0,rX begun),(1,.bS [lp b]),(2,.ptr p 0),(3,.ptr (p+1) 0),(4,.ptr (p+2) 0),(6,.bool false),(17,.bool false)]→dQ Try.prog J5 66 0 none Jj T H Q:=by
    rintro _ rfl;unfold Jj Rx Rw;obtain ⟨bt,eS⟩:∃ c,La=c:=⟨_,rfl⟩;rw [eS];(conv=>whnf);rw [←aI];refine .intro (fun m T H'=>∃ i:Nat,i≤n∧m=n-i∧T=qb 52 [(0,rX begun),(3,.ptr (p+1) 0),(4,.ptr (p+2) 0),(26,h0 n),(27,h0 i)]∧H'=JG i) n ⟨0,sC _,rfl,rfl,KH.symm⟩ ?_;rintro m T H' ⟨i,hi,rfl,rfl,rfl⟩;(conv=>whnf);refine HB (fun aR=>?_) (fun aR=>?_)
    ·(have hg:i<n:=by omega);obtain ⟨aA,aG,_⟩:=c1 i hi;obtain ⟨_,a7,a9⟩:=J9 i hg ⟨aA,aG⟩;(conv=>whnf);refine ⟨by omega,?_⟩;(conv=>whnf);refine Ew aG.u ?_;(conv=>whnf);rw [show 0+(i:Int).toNat*1=i by omega];refine Ew (x:=h0 (U.getD i 0)) (by rw [sj,sv,sg (show i<U.length by omega)];rfl) ?_;(conv=>whnf);(have rr:IntKind.i64.wrap ((i:Int)+1)=((i+1:Nat):Int):=by rw [HK _ (by omega) (by omega)];omega);refine HB (fun aQ=>?_) (fun aQ=>?_)
     ·(conv=>whnf);refine ⟨n-(i+1),by omega,i+1,by omega,rfl,by rw [rr];rfl,?_⟩;rw [a9 (by omega)]
     ·(have MN:U.getD i 0=0:=by have:=MP i;omega);obtain ⟨H2,LN,aaR,cp⟩:=a7 MN;(conv=>whnf);refine ⟨by omega,?_⟩;(conv=>whnf);refine Ew aG.u ?_;(conv=>whnf);rw [show 0+(i:Int).toNat*1=i by omega];refine Gn (by simp;omega) ?_;(conv=>whnf);rw [show (List.map h0 U).set i (I.int IntKind.i64 1)=(U.set i 1).map h0 by rw [tD]];subst eS;refine ae4 (aG.set (U.set i 1)) (by simpa using Hl) (by omega) (by omega) ⟨H2,LN,cp,?_⟩;(conv=>whnf);refine ⟨n-(i+1),by omega,i+1,by omega,rfl,by rw [rr];rfl,?_⟩;rw [List.set_set,WH (by omega) MN,aaR]
    ·(obtain rfl:i=n:=by omega);(conv=>whnf);exact bp _ _ _ ⟨.inr rfl,lI.refl _,rfl⟩
   rcases CM with ⟨rfl,rfl⟩ | ⟨rfl,bJ⟩
   ·unfold K_ Lb;obtain ⟨f',Hh⟩:∃ c,Jj=c:=⟨_,rfl⟩;rw [Hh];(conv=>whnf);rw [decide_eq_false (show ¬ (((([]:List Int).length:Nat):Int)=(b.1.1.length:Int)) by simp only [List.length_nil];omega)];(conv=>whnf);subst Hh;exact main _ rfl
   ·obtain ⟨a,l,rfl⟩:=tI bJ;unfold K_ Lb;obtain ⟨f',Hh⟩:∃ c,Jj=c:=⟨_,rfl⟩;rw [Hh];(conv=>whnf);rw [decide_eq_false (show ¬ ((((a::l).length:Nat):Int)=(b.1.1.length:Int)) by omega)];(conv=>whnf);subst Hh;exact main _ rfl
theorem aeM {b:((List (Int×Int))×(Int×Int))×Unit} (qR:b.1.1.length≤7) (iS:0<b.1.1.length):So Try.prog 65 [.bS [lp b]] ((qV b.1.1.length (qi b.1.1.length)).map rX):=by
 intro L N Inv kE ai H ag;have jT:=UJ qR;obtain ⟨H1,bW⟩:∃ H1,H1=((H++[.cells [.yield L]])++[.cells [h0 0,h0 0,h0 0,h0 0,h0 0,h0 0,h0 0]])++[.cells [IG (.bS [lp b]) H.length]]:=⟨_,rfl⟩;have l1:(H++[ar.cells [I.yield L]]).length=H.length+1:=by simp
 have l2:((H++[ar.cells [I.yield L]])++[ar.cells [I.int IntKind.i64 0,I.int IntKind.i64 0,I.int IntKind.i64 0,I.int IntKind.i64 0,I.int IntKind.i64 0,I.int IntKind.i64 0,I.int IntKind.i64 0]]).length=H.length+2:=by simp
 have l_:H5 L (.bS [lp b]) H.length [0,0,0,0,0,0,0] H1:=by
  subst bW;refine ⟨?_,?_,?_⟩
  ·rw [sw,sf (by rw [l1];omega)];exact IH _ _
  ·rw [sf (by rw [l2];omega),←l1];exact IH _ _
  ·rw [←l2];exact IH _ _
 obtain ⟨H',aA,aG,aT⟩:=T5 (b:=b) (L:=L) qR iS kE (kE.len _ _ ag).2 b.1.1.length [] .full [0,0,0,0,0,0,0] 0 rfl (fun i=>by
  rw [sv]
  match i with
  | 0 | 1 | 2 | 3 | 4 | 5 | 6 | i+7=>simp) (by simp) (by rw [jT];simp [qi]) (.inl ⟨rfl,rfl⟩) (fun j l aw H' b9=>by
    rw [jT] at aw;obtain ⟨ab,ae⟩:=r_.1 aw;rw [sy] at b9 ⊢;obtain ⟨H2,bm,cw,e2⟩:=ai j (by simpa using ab) H' b9;rw [tW,ae] at e2
    exact ⟨H2,bm,cw,e2⟩) H1 (by rw [bW,sw,sw];exact kE.more _ _ _ ag) l_
 rw [jT,sy] at aA;refine ⟨H',by rw [sW];exact aA,?_⟩;refine re eG UW rfl (Iw (by have:=aG.1;rw [bW] at this;simp at this;omega)) fun Q bp=>?_;rw [bW] at aT;unfold Ru Rv;conv=>whnf
 refine Ew (x:=.cells [.a0]) (by simp) ?_;conv=>whnf
 rw [HO];refine Ew (x:=.cells [IG (.bS [lp b]) H.length]) (by rw [List.getElem?_append_right (sb _),l1,l2,Nat.sub_self];rfl) ?_;conv=>whnf
 refine ⟨_,_,ra (by rw [l1,l2];exact aT),?_⟩;conv=>whnf
 exact bp _ _ _ ⟨.inl rfl,lI.refl _,rfl⟩
theorem aeG {α:Type} {P:Program} {A:dw} {fn:FuncId} {rl:Option Nat} {k:FuncId} {cap:List I} {t:Nat} {bq:List Nat} {gH ct:Code} {T:List I} {H:List ar} {Q:cQ→List I→List ar→Prop} {f:α→I} {L:List α} (Ik:So P k cap (L.map f))
  (ax:df T t=.func k [] cap) {Inv:Nat→List ar→Prop} (kE:PM H.length (H.length+1) Inv) (aQ:Inv 0 (H++[.loop .ready none fn (T.map I.view) bq gH ct A]))
  (K2:∀ (i:Nat) (h:i<L.length) (H1:List ar),Inv i H1→∃ H',Inv (i+1) H'∧Hg (H.length+1) H1 H'∧Sem P (.yield H.length) [f L[i]] H1 0 (.bool true) H')
  (hg:inLoop H rl=true) (aa2:∀ H',Inv L.length H'→H'[H.length]?=some (.loop .ready none fn (T.map I.view) bq gH ct A)) (bp:∀ H',Inv L.length H'→Q .normal (T.map I.settle) (H'.set H.length .dead)):dQ P A fn 0 rl (.AM (.nc t) bq gH ct) T H Q:=by
 show hI T t _;rw [iQ,ax]
 obtain ⟨H',b9,cp⟩:=Ik H.length (H.length+1) Inv kE (fun i h H1 bW=>by
  have aX:i<L.length:=by simpa using h
  obtain ⟨H2,bm,cw,e2⟩:=K2 i aX H1 bW
  exact ⟨H2,bm,cw,by rw [tW];exact e2⟩) _ aQ
 rw [sW] at b9;refine ⟨hg,.tuple [],H',.ready,none,fn,T.map I.view,bq,gH,ct,A,cp,aa2 _ b9,by decide,bp _ b9⟩
end Go.Proofs.Ytkoioidpbbbaiaa.Ab


namespace Go.Proofs.Ytkoioidpbbbaiaa.Ab
open Go
noncomputable def Wp:gE :=
 .ov false [p1 7 27]
noncomputable def Nt:gE :=
 p2 [p1 58 11,p1 59 58,cl 60 [.jq 13] 59 true .mU,p0 61 [.Bs 59,.Bs 60,.cv (.bool false)] .pick] (.cond (.nc 61) (qM [p1 62 9,p0 63 [.nc 6,.Bs 62] (.zu 7 1),⟨none,[.jq 63,.cv (.int .i64 1)],none,none,.st 1⟩]) .skip)
noncomputable def Nu:gE :=
 p2 [p0 49 [.nc 4] (.zE .one),p3 50 7,p3 51 8,qu 52 51 2 .rem,p1 53 8,p0 54 [.Bs 53] (.yB 1 1 [.int .i64 0] [0]),p0 55 [.cv (.func 53 [] []),.jq 49,.jq 50,.jq 52,.jq 54] (.call 1),p1 48 55,qo 56 48 0,p0 57 [.Bs 48] (.ext 1),p1 12 56,p1 13 57] Nt
noncomputable def OY:gE :=
 p2 [p0 40 [.nc 4] (.zE .one),p3 41 7,p3 42 8,qu 43 42 2 .rem,p0 44 [.cv (.int .i64 1),.Bs 43] (.bin .sub),p0 45 [.cv (.func 53 [] []),.jq 40,.jq 41,.jq 44,.cv (.av [] 0 .full)] (.call 1),p1 39 45,qo 46 39 0,p0 47 [.Bs 39] (.ext 1),p1 10 46,p1 11 47] Nu
noncomputable def Wu:gE :=
 .seq (p2 [p3 35 9,p0 36 [.nc 6,.Bs 35] (.zu 7 1),qf 37 36,qu 38 37 0 .gtr] (.cond (.nc 38) (.exit 3) .skip)) OY
noncomputable def RJ:gE :=
 .block 3 (p2 [p3 32 30,p0 33 [.nc 28,.nc 30] (.kY 1),qf 34 33,p1 8 32,p1 9 34] Wu)
noncomputable def Wt:gE :=
 .block 1 (p2 [p3 28 7,p0 29 [.nc 28] .zJ,p' 30 0] (.block 2 (.loop (some (p_ false [4,1,1,2,20,3,55])) (p2 [p0 31 [.nc 30,.nc 29] (.bin .lss)] (.seq (.cond (.nc 31) .skip (.exit 2)) (.seq RJ (qM [qU 64 30 1,p1 30 64])))))))
theorem ab5:ey Go.Proofs.Try.prog Jv (q6 Go.Proofs.Try.prog 25 0) 0=some Wp:=by kernel_rfl
theorem ab9:ey Go.Proofs.Try.prog Jv (q7 Go.Proofs.Try.prog 25 0) 0=some Wt:=by kernel_rfl
end Go.Proofs.Ytkoioidpbbbaiaa.Ab


namespace Go.Proofs.Ytkoioidpbbbaiaa.Ab
open Go
set_option maxRecDepth 20000
set_option maxHeartbeats 4000000
def Jy (b:rP) (o:List Int) (F:List Int) (i:Int):Option (List Int) :=
 qI (0≤ix o i∧ix o i<7) <|
 if 0<ix F (ix o i) then some F else
 (Ie b o (w (1-i.tmod 2)) []).bind fun x=>(Ie b o (i.tmod 2) [i]).bind fun y =>
 some (if (x.2 && y.2)=true then F.set (ix o i).toNat 1 else F)
theorem HP.rM {b:rP} {m j:Nat} {H:List ar} {o cz:ar} (h:HP b m H) (aw:H[j]?=some o) (hm:∀ es c,o≠.map es c):HP b m (H.set j cz):=by
 obtain ⟨es,ID,ab,ae⟩:=h;have aa4:j≠m:=fun e=>by subst e;rw [ab] at aw;exact hm _ _ (Option.some.inj aw).symm
 refine ⟨es,ID,by rw [sc aa4];exact ab,fun e he=>?_⟩;obtain ⟨x,id,c,A,aA,aG,aT,br,bg⟩:=ae e he;have h_:j≠id:=fun e=>by subst e;rw [br] at aw;exact hm _ _ (Option.some.inj aw).symm
 exact ⟨x,id,c,A,aA,aG,aT,by rw [sc h_];exact br,bg⟩
structure Good (b:rP) (rA:ar) (F:List Int) (H:List ar):Prop where
 f:HP b 0 H
 p:H[1]?=some (.cells [rF b 0])
 m:H[2]?=some (.cells (F.map h0))
 l:H[3]?=some rA
 n:F.length=7
theorem Good.ext {b:rP} {rA:ar} {F:List Int} {H H':List ar} (h:Good b rA F H) (aP:HP b 0 H') (he:H4 0 H H'):Good b rA F H':=by
 have aF:=(r_.1 h.l).1;exact ⟨aP,by rw [he.2 1 (by omega) (by omega)];exact h.p,by rw [he.2 2 (by omega) (by omega)];exact h.m,by rw [he.2 3 (by omega) aF];exact h.l,h.n⟩
theorem Good.mark {b:rP} {rA:ar} {F IW:List Int} {H:List ar} (h:Good b rA F H) (aI:IW.length=7):Good b rA IW (H.set 2 (.cells (IW.map h0))) :=
 ⟨h.f.rM h.m (fun _ _ e=>by cases e),by rw [sc (by omega)];exact h.p,si (r_.1 h.m).1,by rw [sc (by omega)];exact h.l,aI⟩
theorem H4.cE {H H':List ar} (h:H4 0 H H'):Hg 4 H H':=⟨h.1,fun j c aw ak=>by rw [h.2 j (by omega) (r_.1 ak).1];exact ak⟩
theorem abw {b:rP} {o F IW:List Int} {i:Int} (h:Jy b o F i=some IW) {rA:ar} {H:List ar} (rm:Good b rA F H) :
  ∃ H',Good b rA IW H'∧Hg 4 H H'∧(0≤ix o i∧ix o i<7)∧(0<ix F (ix o i)→H'=H) ∧
    (¬ 0<ix F (ix o i)→∃ x y H1 H2,(x.2 && y.2)=true∧IW=F.set (ix o i).toNat 1∧H'=H2.set 2 (.cells (IW.map h0))∧Good b rA F H2∧Good b rA F H1 ∧
      Sem Try.prog (.fn 53) [rF b 0,.av (o.map h0) o.length .shared,h0 (w (1-i.tmod 2)),.av [] 0 .full] H 0 (.tuple [.av [] 0 .shared,B x.2]) H1 ∧
      Sem Try.prog (.fn 53) [rF b 0,.av (o.map h0) o.length .shared,h0 (i.tmod 2),.av [h0 i] 1 (.uniq 1)] H1 0 (.tuple [.av ((y:List qm×Bool).1.flatMap ql) y.1.length .shared,B y.2]) H2 ∨
     (x.2 && y.2)=false∧IW=F∧H'=H2∧Good b rA F H2∧Good b rA F H1 ∧
      Sem Try.prog (.fn 53) [rF b 0,.av (o.map h0) o.length .shared,h0 (w (1-i.tmod 2)),.av [] 0 .full] H 0 (.tuple [.av [] 0 .shared,B (x:List qm×Bool).2]) H1 ∧
      Sem Try.prog (.fn 53) [rF b 0,.av (o.map h0) o.length .shared,h0 (i.tmod 2),.av [h0 i] 1 (.uniq 1)] H1 0 (.tuple [.av (y.1.flatMap ql) y.1.length .shared,B y.2]) H2):=by
 unfold Jy at h;obtain ⟨ah,h⟩:=Hj h;by_cases aB:0<ix F (ix o i)
 ·rw [if_pos aB] at h;obtain rfl:=Option.some.inj h;exact ⟨H,rm,Hg.refl _ _,ah,fun _=>rfl,fun aI=>absurd aB aI⟩
 ·rw [if_neg aB] at h;obtain ⟨x,aj,h⟩:=p8 h;obtain ⟨y,aY,h⟩:=p8 h;obtain rfl:=Option.some.inj h;obtain ⟨xf,Ve,s1⟩:=XN aj (m:=0) (lo:=0) (H:=H) (sC _);have e1:H4 0 H (H++[Ve]):=⟨by simp,fun j _ aw=>by rw [sf aw]⟩;have cf:Good b rA F (H++[Ve]):=rm.ext (rm.f.more _) e1;obtain ⟨H2,f2,b',s2⟩:=XO aY (lo:=0) (sb 0) cf.f;have ca:Good b rA F H2:=cf.ext f2 b';cases af:(x.2 && y.2) with
  | true =>
    rw [if_pos rfl];refine ⟨H2.set 2 (.cells ((F.set (ix o i).toNat 1).map h0)),ca.mark (by rw [List.length_set];exact ca.n),?_,ah,fun h=>absurd h aB,fun _=>⟨x,y,_,H2,.inl ⟨af,rfl,rfl,ca,cf,s1,s2⟩⟩⟩;have k:=(e1.cE).trans b'.cE;refine ⟨by have:=k.1;simpa using this,fun j c aw ak=>by rw [sc (by omega)];exact k.2 j c aw ak⟩
  | false =>
    rw [if_neg (by decide)];exact ⟨H2,ca,(e1.cE).trans b'.cE,ah,fun h=>absurd h aB,fun _=>⟨x,y,_,H2,.inr ⟨af,rfl,rfl,ca,cf,s1,s2⟩⟩⟩
theorem ZO {F:List Int} {k:Int} (al:0≤k∧k<7) (bG:F.length=7):(F.map h0)[0+k.toNat*1]?=some (h0 (ix F k)):=by
 have h:k.toNat<F.length:=by omega
 rw [sy,ti,sj,sg h];simp [ix,sv,sg h]
theorem aeE {b:rP} {o F IW:List Int} (aq:o≠[]) (fL:o.length≤1000) (h:Ii (Jy b o) (qi o.length) F=some IW) {gv Gi rI IQ Ms:I} {H:List ar} (rm:Good b (.loop .ready none 25 (qb 86 [(2,gv),(3,Gi),(4,.ptr 1 0),(5,rI),(6,.ptr 2 0),(23,IQ),(26,Ms)]) [27] (q6 Try.prog 25 0) (q7 Try.prog 25 0) Jv) F H) :
  ∃ H',Good b (.loop .ready none 25 (qb 86 [(2,gv),(3,Gi),(4,.ptr 1 0),(5,rI),(6,.ptr 2 0),(23,IQ),(26,Ms)]) [27] (q6 Try.prog 25 0) (q7 Try.prog 25 0) Jv) IW H'∧Hg 4 H H'∧Sem Try.prog (.yield 3) [rX o] H 0 (.bool true) H':=by
 obtain ⟨Hk,MO,KG,Qo⟩:=Oj h;rw [Le] at KG;obtain ⟨n,aI⟩:∃ n,n=o.length:=⟨_,rfl⟩;rw [←aI] at KG fL;obtain ⟨Il,Uf⟩:∃ Il:ar,Il=(.loop .busy none 25 (qb 86 [(2,gv),(3,Gi),(4,.ptr 1 0),(5,rI),(6,.ptr 2 0),(23,IQ),(26,Ms)]) [27] (q6 Try.prog 25 0) (q7 Try.prog 25 0) Jv):=⟨_,rfl⟩;obtain ⟨OA,QL⟩:∃ OA:ar,OA=(.loop .ready none 25 (qb 86 [(2,gv),(3,Gi),(4,.ptr 1 0),(5,rI),(6,.ptr 2 0),(23,IQ),(26,Ms)]) [27] (q6 Try.prog 25 0) (q7 Try.prog 25 0) Jv):=⟨_,rfl⟩;rw [←QL] at rm ⊢;have Dl:∀ es c,OA≠.map es c:=fun _ _ e=>by rw [QL] at e;cases e
 have kM:∀ es c,Il≠.map es c:=fun _ _ e=>by rw [Uf] at e;cases e
 have aau:Good b Il F (H.set 3 Il):=⟨rm.f.rM rm.l Dl,by rw [sc (by omega)];exact rm.p,by rw [sc (by omega)];exact rm.m,si (r_.1 rm.l).1,rm.n⟩;have aat:∀ i (hi:i<n),Jy b o (Hk i) (i:Int)=some (Hk (i+1)):=fun i hi=>by
  have:=Qo i (by rw [Le];omega);simpa [qi] using this
 classical
 obtain ⟨Hs,gL,LM⟩:=Ob (fun i rj HU=>i<n→Good b Il (Hk i) rj→Good b Il (Hk (i+1)) HU∧Hg 4 rj HU∧(0≤ix o i∧ix o i<7)∧(0<ix (Hk i) (ix o i)→HU=rj) ∧
   (¬ 0<ix (Hk i) (ix o i)→∃ x y H1 H2,(x.2 && y.2)=true∧Hk (i+1)=(Hk i).set (ix o i).toNat 1∧HU=H2.set 2 (.cells ((Hk (i+1)).map h0))∧Good b Il (Hk i) H2∧Good b Il (Hk i) H1 ∧
     Sem Try.prog (.fn 53) [rF b 0,.av (o.map h0) o.length .shared,h0 (w (1-(i:Int).tmod 2)),.av [] 0 .full] rj 0 (.tuple [.av [] 0 .shared,B x.2]) H1 ∧
     Sem Try.prog (.fn 53) [rF b 0,.av (o.map h0) o.length .shared,h0 ((i:Int).tmod 2),.av [h0 (i:Int)] 1 (.uniq 1)] H1 0 (.tuple [.av ((y:List qm×Bool).1.flatMap ql) y.1.length .shared,B y.2]) H2 ∨
    (x.2 && y.2)=false∧Hk (i+1)=Hk i∧HU=H2∧Good b Il (Hk i) H2∧Good b Il (Hk i) H1 ∧
     Sem Try.prog (.fn 53) [rF b 0,.av (o.map h0) o.length .shared,h0 (w (1-(i:Int).tmod 2)),.av [] 0 .full] rj 0 (.tuple [.av [] 0 .shared,B (x:List qm×Bool).2]) H1 ∧
     Sem Try.prog (.fn 53) [rF b 0,.av (o.map h0) o.length .shared,h0 ((i:Int).tmod 2),.av [h0 (i:Int)] 1 (.uniq 1)] H1 0 (.tuple [.av (y.1.flatMap ql) y.1.length .shared,B y.2]) H2)) (H.set 3 Il) (fun i rj=>by
  by_cases aO:i<n∧Good b Il (Hk i) rj
  ·obtain ⟨H',aA⟩:=abw (aat i aO.1) aO.2;exact ⟨H',fun _ _=>aA⟩
  ·exact ⟨rj,fun ab ae=>absurd ⟨ab,ae⟩ aO⟩)
 have c1:∀ i,i≤n→Good b Il (Hk i) (Hs i)∧Hg 4 (H.set 3 Il) (Hs i):=fun i=>by
  induction i with
  | zero=>intro _;rw [gL,MO];exact ⟨aau,Hg.refl _ _⟩
  | succ i a8 =>
    intro hi;obtain ⟨aA,aG⟩:=a8 (by omega);obtain ⟨bm,cw,_⟩:=LM i (by omega) aA;exact ⟨bm,aG.trans cw⟩
 obtain ⟨J8,Ur⟩:=c1 n (sb _);rw [KG] at J8;have hlen:H.length≤(Hs n).length:=by have:=Ur.1;simpa using this
 refine ⟨(Hs n).set 3 OA,⟨J8.f.rM J8.l kM,by rw [sc (by omega)];exact J8.p,by rw [sc (by omega)];exact J8.m,si (r_.1 J8.l).1,J8.n⟩,⟨by simpa using hlen,fun j c aw ak=>by rw [sc (by omega)];exact Ur.2 j c aw (by rw [sc (by omega)];exact ak)⟩,?_⟩;subst QL;refine O2 eG ab5 ab9 rm.l rfl (Iw (by simpa using hlen)) ?_;obtain ⟨gb,e,mx⟩:=tI aq;have aaM:rX o=.av (o.map h0) o.length (.own 1):=by rw [mx];rfl
 rw [aaM];unfold Wp;conv=>whnf
 refine ⟨rfl,rm.l,?_⟩;rw [←Uf];unfold Wt;obtain ⟨dV,Cr⟩:∃ c,RJ=c:=⟨_,rfl⟩;rw [Cr];conv=>whnf
 rw [←aI];refine .intro (fun m T H'=>∃ i:Nat,i≤n∧m=n-i∧T=qb 86 [(4,.ptr 1 0),(6,.ptr 2 0),(7,.av (o.map h0) n (.own 1)),(28,.av (o.map h0) n .shared),(29,h0 n),(30,h0 i)]∧H'=Hs i) n ⟨0,sC _,rfl,rfl,gL.symm⟩ ?_;rintro m T H' ⟨i,hi,rfl,rfl,rfl⟩;conv=>whnf
 refine HB (fun aR=>?_) (fun aR=>?_)
 ·have hg:i<n:=by omega
  have Ij:0≤(i:Int)∧(i:Int)<(o.length:Int):=by omega
  have a:=c1 i hi;obtain ⟨_,_,ah,a7,a9⟩:=LM i hg a.1;have rr:IntKind.i64.wrap ((i:Int)+1)=((i+1:Nat):Int):=by rw [HK _ (by omega) (by omega)];omega
  subst Cr;unfold RJ Wu;obtain ⟨bt,eS⟩:∃ c,OY=c:=⟨_,rfl⟩;rw [eS];conv=>whnf
  refine ⟨by omega,?_⟩;rw [rD h0 o (i:Int) Ij];conv=>whnf
  refine ⟨ah,?_⟩;conv=>whnf
  refine Ew a.1.m ?_;conv=>whnf
  refine Ew (x:=h0 (ix (Hk i) (ix o i))) (ZO ah a.1.n) ?_;conv=>whnf
  refine HB (fun aB=>?_) (fun aB=>?_)
  ·(conv=>whnf);refine ⟨n-(i+1),by omega,i+1,by omega,rfl,by rw [rr];rfl,?_⟩;rw [a7 aB]
  ·obtain ⟨x,y,H1,H2,a1⟩:=a9 aB;subst eS;rcases a1 with ⟨af,On,b9,ca,cf,s1,s2⟩ | ⟨af,On,b9,ca,cf,s1,s2⟩
   ·unfold OY;obtain ⟨Zy,ML⟩:∃ c,Nu=c:=⟨_,rfl⟩;rw [ML];(conv=>whnf);refine Ew a.1.p ?_;(conv=>whnf);refine ⟨by decide,?_⟩;(conv=>whnf);rw [←aI] at s1 s2;refine ⟨_,_,ra s1,?_⟩;(conv=>whnf);subst ML;unfold Nu;obtain ⟨B8,MK⟩:∃ c,Nt=c:=⟨_,rfl⟩;rw [MK];(conv=>whnf);refine Ew cf.p ?_;(conv=>whnf);refine ⟨by decide,?_⟩;(conv=>whnf);refine ⟨_,_,ra s2,?_⟩;(conv=>whnf);subst MK;unfold Nt;cases aj:x.2 <;> cases aY:y.2 <;> rw [aj,aY] at af
    ·cases af
    ·cases af
    ·cases af
    ·(conv=>whnf);refine ⟨ah,?_⟩;(conv=>whnf);refine Ew ca.m ?_;(conv=>whnf);refine Gn (by rw [sW,ca.n];omega) ?_;(conv=>whnf);refine ⟨n-(i+1),by omega,i+1,by omega,rfl,by rw [rr];rfl,?_⟩;rw [b9,On,tD,sy,ti]
   ·unfold OY;obtain ⟨Zy,ML⟩:∃ c,Nu=c:=⟨_,rfl⟩;rw [ML];(conv=>whnf);refine Ew a.1.p ?_;(conv=>whnf);refine ⟨by decide,?_⟩;(conv=>whnf);rw [←aI] at s1 s2;refine ⟨_,_,ra s1,?_⟩;(conv=>whnf);subst ML;unfold Nu;obtain ⟨B8,MK⟩:∃ c,Nt=c:=⟨_,rfl⟩;rw [MK];(conv=>whnf);refine Ew cf.p ?_;(conv=>whnf);refine ⟨by decide,?_⟩;(conv=>whnf);refine ⟨_,_,ra s2,?_⟩;(conv=>whnf);subst MK;unfold Nt;cases aj:x.2 <;> cases aY:y.2 <;> rw [aj,aY] at af
    ·(conv=>whnf);refine ⟨n-(i+1),by omega,i+1,by omega,rfl,by rw [rr];rfl,?_⟩;rw [b9]
    ·(conv=>whnf);refine ⟨n-(i+1),by omega,i+1,by omega,rfl,by rw [rr];rfl,?_⟩;rw [b9]
    ·(conv=>whnf);refine ⟨n-(i+1),by omega,i+1,by omega,rfl,by rw [rr];rfl,?_⟩;rw [b9]
    ·cases af
 ·obtain rfl:i=n:=by omega
  conv=>whnf
  exact ⟨rfl,J8.l,lI.refl _⟩
end Go.Proofs.Ytkoioidpbbbaiaa.Ab


namespace Go.Proofs.Ytkoioidpbbbaiaa.Ab
open Go
noncomputable def Rg:gE :=
 .ov false [p3 75 14,p3 76 14,qW 77 76,p1 78 14,qW 79 78,p0 80 [.jq 75,.jq 77,.jq 79] (.Bh 1 false true true),p1 81 15,p0 82 [.Bs 81] (.yB 1 1 [.int .i64 0] [0]),p0 83 [.jq 80,.jq 82] (.app 1 8),p1 14 83]
noncomputable def Rh:gE :=
 .block 5 (p2 [p3 71 69, p0 72 [.nc 68, .nc 69] (.other (Oper.mk (some 72) (Op.index 87 (Operand.tmp 68) (Operand.tmp 69)) 3 "curl.go:170" (Array.mk []) none) 0), p1 15 71, p1 16 72] (p2 [p1 73 16, qu 74 73 0 .gtr] (.cond (.nc 74) Rg .skip)))
noncomputable def Ri:gE :=
 .seq (p2 [p0 68 [.Bs 6] (.zE (.arr 7)),p' 69 0] (.block 4 (.loop (some (p_ false [14,1,53,2,16])) (p2 [p0 70 [.nc 69,.cv (.int .i64 7)] (.bin .lss)] (.seq (.cond (.nc 70) .skip (.exit 4)) (.seq Rh (qM [qU 84 69 1,p1 69 84]))))))) (p2 [p1 85 14,p1 2 85,p' 3 0] .ret)
noncomputable def Nm:gE :=
 .seq (p2 [p0 65 [.nc 6] (.zE (.arr 7)), p0 66 [] (.build [.int .i64 0, .int .i64 0, .int .i64 0, .int .i64 0, .int .i64 0, .int .i64 0, .int .i64 0] []), p0 67 [.Bs 65, .Bs 66] (.other (Oper.mk (some 67) (Op.binOp .eql 87 (Operand.tmp 65) (Operand.tmp 66) 87) 4 "curl.go:166" (Array.mk [Edge.mk 0 Ground.data, Edge.mk 1 Ground.data]) none) 0)] (.cond (.nc 67) (p2 [p0 2 [.cv (.av [] 0 .full)] (.nil 1), p' 3 0] .ret) .skip)) (p2 [p0 14 [.cv (.av [] 0 .full)] (.nil 1)] Ri)
noncomputable def OG:gE :=
 .seq (p2 [p3 22 5,qu 23 22 0 .neq] (.cond (.nc 23) (p2 [p1 24 5,p0 2 [.cv (.av [] 0 .full)] (.nil 1),p1 3 24] .ret) .skip)) (p2 [p0 6 [] (.alloc [.int .i64 0,.int .i64 0,.int .i64 0,.int .i64 0,.int .i64 0,.int .i64 0,.int .i64 0])] (.seq (p2 [p0 25 [.nc 4] (.zE .one),p0 26 [.cv (.func 46 [] []),.jq 25] (.call 9)] (.block 0 (.AM (.nc 26) [27] (q6 Go.Proofs.Try.prog 25 0) (q7 Go.Proofs.Try.prog 25 0)))) Nm))
noncomputable def VY:gE :=
 p2 [p0 18 [.Bs 1] (.zE (.str 3)),p0 19 [.cv (.func 36 [] []),.jq 18,.cv (.av [] 0 .full)] (.call 8),p1 17 19,qo 20 17 0,p0 21 [.Bs 17] (.ext 1),p0 4 [] (.alloc [.eI]),⟨none,[.nc 4,.jq 20],none,none,.st 1⟩,p1 5 21] OG
noncomputable def VX:gE :=
 p2 [p0 1 [.jq 0] .yy,p0 2 [.cv (.av [] 0 .full)] (.nil 1),p' 3 0] VY
theorem abR:qj Go.Proofs.Try.prog Jv 25=some (VX,86,[.tmp 2,.tmp 3]):=by kernel_rfl
end Go.Proofs.Ytkoioidpbbbaiaa.Ab


namespace Go.Proofs.Ytkoioidpbbbaiaa.Ab
open Go
set_option maxRecDepth 20000
set_option maxHeartbeats 4000000
theorem WD {P:Program} {k:FuncId} {args:List I} {H H':List ar} {lo:Nat} {r:I} (h:Sem P (.fn k) (args.map I.cc) H lo r H'):Sem P (.fn k) args H lo r H':=by
 obtain ⟨aQ,ab,ae⟩:=h;exact ⟨aQ,ab,fun B aa J S w vs ag aI ad=>ae B aa J S w vs ag aI ad.cc⟩
abbrev Lz (p:qc):List I:=[(.agg [(.av (p.1.flatMap p7) p.1.length .shared),(h0 p.2.1),(h0 p.2.2)]),(.av [] 0 .full)]
section
variable {p:qc}
theorem ZD {e:Int} {lo:Nat} (h:rz p []=some (none,e)):oV Try.prog 8 lo (.fn 36) (Lz p) [] (.tuple [.eI,h0 e]) [] :=
 ⟨_,EB (r:=.tuple [.eI,h0 e]) (H':=[rp p]) (WD (args:=Lz p) (by exact XA h)),by
  show (k9 _ _ _ _ _ _ (.fn 36) (Lz p) [] 0).bind _=_
  rw [EA];rfl⟩
theorem ZF {t:qc×Unit} {e:Int} {lo:Nat} (h:rz p []=some (some t,e)):oV Try.prog 8 lo (.fn 36) (Lz p) [] (.tuple [.bS [(.av (p.1.flatMap p7) p.1.length .shared),(h0 p.2.1),(h0 p.2.2),.map 0],h0 0]) [.map [] 0] :=
 ⟨_,EB (r:=.tuple [.ptr 2 0,h0 0]) (H':=[rp p,.map [] 0,.cells [(.av (p.1.flatMap p7) p.1.length .shared),(h0 p.2.1),(h0 p.2.2),.map 1]]) (WD (args:=Lz p) (by exact (NQ h).2.2)),by
  show (k9 _ _ _ _ _ _ (.fn 36) (Lz p) [] 0).bind _=_;rw [EA];have e1:ea (bM [rp p,.map [] 0,.cells [(.av (p.1.flatMap p7) p.1.length .shared),(h0 p.2.1),(h0 p.2.2),.map 1]] 0 1 0 6) [(.av (p.1.flatMap p7) p.1.length .shared),(h0 p.2.1),(h0 p.2.2),.map 1]=some [(.av (p.1.flatMap p7) p.1.length .shared),(h0 p.2.1),(h0 p.2.2),.map 0] :=
   rf (yW (Hu (fun _=>p4 rfl (p4 rfl rfl)) _ _ _)) (rf (yW rfl) (rf (yW rfl) (rf rfl Ix)))
  have b':bM [rp p,.map [] 0,.cells [(.av (p.1.flatMap p7) p.1.length .shared),(h0 p.2.1),(h0 p.2.2),.map 1]] 0 1 0 8 (.tuple [.ptr 2 0,h0 0])=some (.tuple [.bS [(.av (p.1.flatMap p7) p.1.length .shared),(h0 p.2.1),(h0 p.2.2),.map 0],h0 0]) :=
   MJ (rf (show (ea (bM [rp p,.map [] 0,.cells [(.av (p.1.flatMap p7) p.1.length .shared),(h0 p.2.1),(h0 p.2.2),.map 1]] 0 1 0 6) [(.av (p.1.flatMap p7) p.1.length .shared),(h0 p.2.1),(h0 p.2.2),.map 1]).map I.bS=_ by rw [e1];rfl) (rf rfl Ix))
  show (match mapM (bM [rp p,.map [] 0,.cells [(.av (p.1.flatMap p7) p.1.length .shared),(h0 p.2.1),(h0 p.2.2),.map 1]] 0 1 0 8) [],bM [rp p,.map [] 0,.cells [(.av (p.1.flatMap p7) p.1.length .shared),(h0 p.2.1),(h0 p.2.2),.map 1]] 0 1 0 8 (.tuple [.ptr 2 0,h0 0]) with | some es',some v=>some (v,[]++[ar.map es' 0]) | _,_=>none)=_
  rw [b'];rfl⟩
end
def LF (b:rP) (F:List Int) (o:List Int):Option (List Int):=Ii (Jy b o) (qi o.length) F
def KC (F:List Int):List Int×Int:=if decide (F=[0,0,0,0,0,0,0])=true then ([],0) else ((qi 7).filter (fun s=>decide (0<ix F s)),0)
def Mu (p:qc):Option (List Int×Int) :=
 (rz p []).bind fun r=>match r with
 | (none,q)=>if decide (q≠0)=true then some ([],q) else none
 | (some b,_) =>
   qI (0<b.1.1.length∧b.1.1.length≤7) <|
   (Ii (LF b) (qV b.1.1.length (qi b.1.1.length)) [0,0,0,0,0,0,0]).bind fun F =>
   some (KC F)
theorem abJ {n:Nat} {left:List Int}:∀ e∈qV n left,e.length=n:=fun e he=>by
 induction n generalizing left e with
 | zero=>simp [qV] at he;simp [he]
 | succ n a8 =>
   simp only [qV,List.mem_flatMap,List.mem_map] at he;obtain ⟨x,_,l,ao,rfl⟩:=he;simp [a8 l ao]
theorem Good.more {b:rP} {rA:ar} {F:List Int} {H:List ar} (h:Good b rA F H) (Z:List ar):Good b rA F (H++Z) :=
 h.ext (h.f.more Z) ⟨by simp,fun j _ aw=>by rw [sf aw]⟩
theorem Good.aeR {b:rP} {rA:ar} {F:List Int} {H:List ar} {j:Nat} {c:List I} (dU:List I) (h:Good b rA F H) (aw:4≤j) (ak:H[j]?=some (.cells c)):Good b rA F (H.set j (.cells dU)) :=
 ⟨h.f.rM ak (fun _ _ e=>by cases e),by rw [sc (by omega)];exact h.p,by rw [sc (by omega)];exact h.m,by rw [sc (by omega)];exact h.l,h.n⟩
theorem W4 (n:Nat):qi (n+1)=qi n++[(n:Int)]:=by simp [qi,List.range_succ]
theorem afc {b:rP} {rA:ar} {F:List Int} {H':List ar} (rm:Good b rA F H') {gv Gi rI IQ Ms:I} {Q:cQ→List I→List ar→Prop}
  (jJ:∀ T H,HQ [.tmp 2,.tmp 3] (.tuple [.av ((KC F).1.map h0) (KC F).1.length .shared,h0 (KC F).2]) .ret T H→Q .ret T H) :
  dQ Try.prog Jv 25 0 none Nm (qb 86 [(2,gv),(3,Gi),(4,.ptr 1 0),(5,rI),(6,.ptr 2 0),(23,IQ),(26,Ms)]) (H'.set 3 .dead) Q:=by
 unfold Nm;obtain ⟨bt,eS⟩:∃ c,Ri=c:=⟨_,rfl⟩;rw [eS];have hm:(H'.set 3 .dead)[2]?=some (.cells (F.map h0)):=by rw [sc (by omega)];exact rm.m
 have aI:=rm.n;conv=>whnf
 refine Ew hm ?_;conv=>whnf
 refine ⟨by simp [aI],?_⟩;rw [UI h0 F (fun _=>rfl) aI];conv=>whnf
 refine ⟨_,_,fun C=>Vj rfl rfl (YD .i64 (e:=3) (len:=7) (kd:=.i64) (xs:=F) (ys:=[(0:Int),0,0,0,0,0,0]) (by kernel_rfl) (by kernel_rfl) (by kernel_rfl) (by kernel_rfl) aI rfl),?_⟩;conv=>whnf
 unfold KC at jJ;refine HB (fun bk=>?_) (fun bk=>?_)
 ·rw [decide_eq_true bk] at jJ;conv=>whnf
  exact jJ _ _ (Ib rfl rfl)
 ·rw [decide_eq_false bk] at jJ;conv=>whnf
  subst eS;unfold Ri;obtain ⟨a9,ca⟩:∃ c,Rh=c:=⟨_,rfl⟩;rw [ca];conv=>whnf
  refine Ew hm ?_;conv=>whnf
  refine ⟨by simp [aI],?_⟩;rw [UI h0 F (fun _=>rfl) aI];conv=>whnf
  refine .intro (fun m T H=>∃ (i:Nat) (L:List Int) (c:hE),i≤7∧m=7-i∧L=(qi i).filter (fun s=>decide (0<ix F s))∧c=.uniq 1∧T=qb 86 [(14,.av (L.map h0) L.length c),(68,.agg (F.map h0)),(69,h0 i)]∧H=H'.set 3 .dead) 7 ⟨0,[],_,by omega,rfl,rfl,rfl,rfl,rfl⟩ ?_;rintro m T H ⟨i,L,c,hi,rfl,fq,rfl,rfl,rfl⟩;conv=>whnf
  refine HB (fun aR=>?_) (fun aR=>?_)
  ·(have rr:IntKind.i64.wrap ((i:Int)+1)=((i+1:Nat):Int):=by rw [HK _ (by omega) (by omega)];omega);subst ca;unfold Rh;obtain ⟨a7,cf⟩:∃ c,Rg=c:=⟨_,rfl⟩;rw [cf];(conv=>whnf);refine ⟨_,_,fun C=>adf rfl (YF (e:=3) (len:=7) (kd:=.i64) (by kernel_rfl) (by kernel_rfl) (by kernel_rfl) (by kernel_rfl) aI ⟨by omega,aR⟩),?_⟩;(conv=>whnf);refine HB (fun aB=>?_) (fun aB=>?_)
   ·subst cf;unfold Rg;have ag1:L.length≤7:=by
     have:=List.length_filter_le (fun s=>decide (0<ix F s)) (qi i);rw [Le] at this;rw [fq];omega
    (conv=>whnf);refine ⟨⟨rfl,by omega,sS _⟩,?_⟩;(conv=>whnf);rw [tH,ti,tb (by simp)];refine ⟨rfl,by decide,?_⟩;(conv=>whnf);refine ⟨by decide,by omega,by simp,?_⟩;(conv=>whnf);refine ⟨7-(i+1),by omega,i+1,_,.uniq 1,by omega,rfl,rfl,rfl,?_,rfl⟩;rw [W4,tX,←fq,show [(i:Int)].filter (fun s=>decide (0<ix F s))=[(i:Int)] by simp [aB],List.map_append,List.length_append,rr];rfl
   ·(conv=>whnf);refine ⟨7-(i+1),by omega,i+1,L,.uniq 1,by omega,rfl,?_,rfl,by rw [rr];rfl,rfl⟩;rw [W4,tX,←fq,show [(i:Int)].filter (fun s=>decide (0<ix F s))=[] by simp [aB],sM]
  ·(obtain rfl:i=7:=by omega);(conv=>whnf);rw [fq];exact jJ _ _ (Ib rfl rfl)
theorem af0 {p:qc} {v:List Int×Int} (h:Mu p=some v):qt 25 [.agg [.av (p.1.flatMap p7) p.1.length .shared,h0 p.2.1,h0 p.2.2]] (.tuple [.av (v.1.map h0) v.1.length .shared,h0 v.2]):=by
 unfold Mu at h;obtain ⟨⟨aS,bj⟩,ai,h⟩:=p8 h;refine qD eG abR rfl (IL (p4 (rE (fun _=>rfl) _ _ _) (p4 rfl rfl))) fun Q bp=>?_;have jJ:∀ T H,HQ [.tmp 2,.tmp 3] (.tuple [.av (v.1.map h0) v.1.length .shared,h0 v.2]) .ret T H→Q .ret T H:=fun T H bE=>bp _ T H bE;unfold VX VY;obtain ⟨dV,Cr⟩:∃ c,OG=c:=⟨_,rfl⟩;rw [Cr];conv=>whnf
 refine ⟨rfl,?_⟩;conv=>whnf
 rcases aS with _ | b
 ·refine ⟨_,_,ZD ai,?_⟩;conv=>whnf
  subst Cr;unfold OG;refine bs h (fun af h=>?_) fun af h=>?_
  ·obtain ⟨b6,iP⟩:∃ c,Nm=c:=⟨_,rfl⟩;rw [iP];rw [show I.int IntKind.i64 bj=h0 bj from rfl];(conv=>whnf);rw [af];(conv=>whnf);obtain rfl:=Option.some.inj h;exact jJ _ _ (Ib rfl rfl)
  ·cases h
 ·obtain ⟨rfl,rfl,_⟩:=NQ ai;refine ⟨_,_,ZF ai,?_⟩;conv=>whnf
  obtain ⟨⟨Di,LP⟩,h⟩:=Hj h;obtain ⟨F,ao,h⟩:=p8 h;obtain rfl:=Option.some.inj h;subst Cr;unfold OG;obtain ⟨b6,iP⟩:∃ c,Nm=c:=⟨_,rfl⟩;rw [iP];conv=>whnf
  refine ⟨_,_,call9 (bs:=[lp (p,())]) rfl (p4 (H0 (p,())) rfl) (R3 (b:=(p,())) (v:=()) rfl),?_⟩;obtain ⟨bt,eS⟩:∃ c,gE.AM (.nc 26) [27] (q6 Try.prog 25 0) (q7 Try.prog 25 0)=c:=⟨_,rfl⟩;rw [eS];conv=>whnf
  subst eS;obtain ⟨Hk,MO,KG,Qo⟩:=Oj ao;obtain ⟨rA,Ou⟩:∃ rA:ar,rA=.loop .ready none 25 (qb 86 [(2,I.view (.av [] 0 (.uniq 1))),(3,h0 0),(4,.ptr 1 0),(5,h0 0),(6,.ptr 2 0),(23,B (decide ((0:Int)≠0))),(26,I.view (.func 65 [] [.bS [lp (p,())]]))]) [27] (q6 Try.prog 25 0) (q7 Try.prog 25 0) Jv:=⟨_,rfl⟩;have kM:∀ c,rA≠.cells c:=fun c e=>by rw [Ou] at e;cases e
  refine aeG (f:=rX) (aeM (b:=(p,())) LP Di) (Inv:=fun i H=>Good (p,()) rA (Hk i) H) (by exact rfl) ⟨fun i H rm=>⟨sG _,(r_.1 rm.l).1⟩,fun i H Z rm=>rm.more Z,fun i H j c dU rm aw ak=>rm.aeR dU aw ak⟩ ?_ ?_ (rl:=none) (by exact rfl) ?_ ?_
  ·show Good _ _ (Hk 0) _;rw [MO,Ou];exact ⟨⟨[],0,rfl,fun e he=>absurd he (by simp)⟩,rfl,rfl,rfl,rfl⟩
  ·intro i hi H1 rm;rw [Ou] at rm ⊢;exact aeE (QT Di _ (tK hi)) (by rw [abJ _ (tK hi)];omega) (Qo i hi) rm
  ·intro H' rm;rw [Ou] at rm;exact rm.l
  ·intro H' rm;rw [KG] at rm;subst iP;exact afc rm jJ

end Go.Proofs.Ytkoioidpbbbaiaa.Ab


namespace Go.Proofs.Ytkoioidpbbbaiaa.Ab
open Go
set_option maxRecDepth 20000
set_option maxHeartbeats 1000000
def C9 (p:qc) (o:List Int) (i:Nat):Bool:=decide (Ig p o (1-i % 2)) && decide (JH p o (i % 2) i)
abbrev HV:=Nat→Bool
def NB (p:qc) (o:List Int) (i:Nat) (M:HV):HV:=fun s=>M s || (decide (s=(ix o (i:Int)).toNat) && C9 p o i)
def JR (p:qc) (o:List Int) (M:HV):Nat→HV
 | 0=>M
 | k+1=>NB p o k (JR p o M k)
def allM (p:qc):List (List Int)→HV→HV
 | [],M=>M
 | o::r,M=>allM p r (JR p o M o.length)
def HW (p:qc):HV:=allM p (rk p) fun _=>false
theorem Vl {p:qc} {o:List Int} {M:HV} {s:Nat}:∀ {k:Nat},JR p o M k s=true↔M s=true∨∃ i,i<k∧s=(ix o (i:Int)).toNat∧C9 p o i=true
 | 0=>by simp [JR]
 | k+1=>by
   unfold JR NB;rw [Bool.or_eq_true,Vl,sn,decide_eq_true_eq];constructor
   ·rintro ((h | ⟨i,ab,ae⟩) | h)
    ·exact .inl h
    ·exact .inr ⟨i,by omega,ae⟩
    ·exact .inr ⟨k,by omega,h⟩
   ·rintro (h | ⟨i,ab,ae⟩)
    ·exact .inl (.inl h)
    ·by_cases e:i=k
     ·subst e;exact .inr ae
     ·exact .inl (.inr ⟨i,by omega,ae⟩)
theorem Sw {p:qc} {s:Nat}:∀ {E:List (List Int)} {M:HV},allM p E M s=true↔M s=true∨∃ o∈E,∃ i,i<o.length∧s=(ix o (i:Int)).toNat∧C9 p o i=true
 | [],M=>by simp [allM]
 | o::r,M=>by
   unfold allM;rw [Sw,Vl];constructor
   ·rintro ((h | h) | ⟨cz,ab,ae⟩)
    ·exact .inl h
    ·exact .inr ⟨o,by simp,h⟩
    ·exact .inr ⟨cz,by simp [ab],ae⟩
   ·rintro (h | ⟨cz,ab,ae⟩)
    ·exact .inl (.inl h)
    ·rcases sx.1 ab with rfl | ab
     ·exact .inl (.inr ae)
     ·exact .inr ⟨cz,ab,ae⟩
theorem Tr {p:qc} {s:Nat}:HW p s=true↔∃ o,qx p.1.length o∧∃ i,i<o.length∧s=(ix o (i:Int)).toNat∧C9 p o i=true:=by
 unfold HW;rw [Sw];constructor
 ·rintro (h | ⟨o,ab,ae⟩)
  ·cases h
  ·exact ⟨o,LU.1 ab,ae⟩
 ·rintro ⟨o,ab,ae⟩;exact .inr ⟨o,LU.2 ab,ae⟩
theorem Zq {p:qc} {s:Nat} (h:HW p s=true):s<p.1.length:=by
 obtain ⟨o,k,i,hi,rfl,_⟩:=Tr.1 h;have:=HD k i hi;omega
def LD (p:qc):List Int:=(qi p.1.length).filter fun s=>HW p s.toNat
def zY (M:HV):List Int:=(List.range 7).map fun s=>if M s=true then 1 else 0
theorem acZ (M:HV):(zY M).length=7:=by simp [zY]
theorem U8 (M:HV) {s:Nat} (h:s<7):ix (zY M) (s:Int)=if M s=true then 1 else 0:=by
 rw [rK (by rw [acZ];exact h)];simp [zY]
theorem ac0 (M:HV) {v:Nat} (h:v<7):(zY M).set v 1=zY fun s=>M s || decide (s=v):=by
 apply List.ext_getElem (by simp [zY]);intro j ab ae;rw [List.getElem_set];simp only [zY,tW,List.getElem_range];by_cases e:v=j
 ·subst e;simp
 ·rw [if_neg e]
  have:decide (j=v)=false:=by simp;omega
  rw [this,vw]
section
variable {p:qc} {o:List Int}
theorem Zr (h:rv p) (k:qx p.1.length o) {i:Nat} (hi:i<o.length) (M:HV):Jy (p,()) o (zY M) (i:Int)=some (zY (NB p o i M)):=by
 have aa1:=qx.UK h k;have ai:=HD k i hi;have aI:=k.1;obtain ⟨v,ad⟩:∃ v:Nat,ix o (i:Int)=(v:Int):=⟨(ix o (i:Int)).toNat,by omega⟩;have hu:NB p o i M=fun s=>M s || (decide (s=v) && C9 p o i):=by unfold NB;rw [ad];rfl
 rw [hu];unfold Jy;rw [ad] at ai ⊢;rw [qS (by omega),U8 M (by omega)];cases CA:M v with
 | true =>
   rw [if_pos (by simp)];congr 1;unfold zY;refine List.map_congr_left fun s _=>?_;by_cases e:s=v
   ·subst e;simp [CA]
   ·simp [e]
 | false =>
   rw [if_neg (by simp),NA];(have e1:w (1-((i % 2:Nat):Int))=((1-i % 2:Nat):Int):=by rw [qO (by omega)];omega);rw [e1,XM h k,sa];unfold C9;rcases XL h k (a:=i % 2) hi with ⟨s,ab,ae,aF⟩ | ⟨ab,ae⟩
   ·rw [ab,sa,decide_eq_true (N_.2 ⟨s,ae,aF⟩)];simp only [tp];by_cases aP:Ig p o (1-i % 2)
    ·rw [if_pos (decide_eq_true aP),decide_eq_true aP,tH,ac0 M (by omega)];simp only [tp]
    ·rw [if_neg (by simpa using aP),decide_eq_false aP];simp only [Bool.and_false,vw]
   ·rw [ab,sa,decide_eq_false ae];simp only [Bool.and_false,vw];rw [if_neg (by decide)]
theorem TI (h:rv p) (k:qx p.1.length o) (M:HV):∀ (m i:Nat),i≤o.length→o.length-i=m→Ii (Jy (p,()) o) ((qi o.length).drop i) (zY (JR p o M i))=some (zY (JR p o M o.length))
 | 0,i,hi,hm=>by
   (obtain rfl:i=o.length:=by omega);rw [List.drop_of_length_le (by rw [NC];omega)];rfl
 | m+1,i,hi,hm=>by
   (have aR:i<o.length:=by omega);have e1:(qi o.length).drop i=(i:Int)::(qi o.length).drop (i+1):=by
    rw [List.drop_eq_getElem_cons (by rw [NC];omega)];congr 1;rw [←rK,QQ aR]
   rw [e1];show (Jy (p,()) o (zY (JR p o M i)) (i:Int)).bind (fun t=>Ii (Jy (p,()) o) _ t)=_;rw [Zr h k aR,sa];exact TI h k M m (i+1) (by omega) (by omega)
theorem Zs (h:rv p) (k:qx p.1.length o) (M:HV):LF (p,()) (zY M) o=some (zY (JR p o M o.length)):=TI h k M o.length 0 (by omega) rfl
theorem TK (h:rv p):∀ (E:List (List Int)) (M:HV),(∀ o∈E,qx p.1.length o)→Ii (LF (p,())) E (zY M)=some (zY (allM p E M))
 | [],_,_=>rfl
 | o::r,M,rL=>by
   show (LF (p,()) (zY M) o).bind (fun t=>Ii (LF (p,())) r t)=_;rw [Zs h (rL o (by simp)),sa];exact TK h r _ fun cz aX=>rL cz (by simp [aX])
theorem Zh {p:qc} (h:rv p):KC (zY (HW p))=(LD p,0):=by
 have gb:(qi 7).filter (fun s=>decide (0<ix (zY (HW p)) s))=(qi 7).filter fun s=>HW p s.toNat:=by
  refine List.filter_congr fun s ah=>?_;have:=QX.1 ah;obtain ⟨v,rfl⟩:∃ v:Nat,s=(v:Int):=⟨s.toNat,by omega⟩;rw [U8 _ (by omega),tH];cases HW p v <;> rfl
 have e1:(qi 7).filter (fun s=>HW p s.toNat)=LD p:=by
  unfold LD;have key:∀ r:List Int,(∀ s∈r,(p.1.length:Int)≤s)→r.filter (fun s=>HW p s.toNat)=[]:=fun r ai=>by
   rw [List.filter_eq_nil_iff];intro s ah af;have:=Zq af;have:=ai s ah;omega
  rcases h.n with e | e | e
  ·rw [e,show qi 7=qi 3++[3,4,5,6] from rfl,tX,key [3,4,5,6] (by rw [e];decide),sM]
  ·rw [e,show qi 7=qi 5++[5,6] from rfl,tX,key [5,6] (by rw [e];decide),sM]
  ·rw [e]
 unfold KC;by_cases bk:zY (HW p)=[0,0,0,0,0,0,0]
 ·rw [if_pos (decide_eq_true bk)];rw [bk] at gb;rw [←e1,←gb];rfl
 ·rw [if_neg (by simpa using bk),gb,e1]
theorem afZ (aB:p.1.length≤1000):Mu p=some (if ri p=0 then (LD p,0) else ([],ri p)):=by
 unfold Mu;rw [R2 aB,sa];by_cases h:ri p=0
 ·rw [if_pos h,if_pos h];have ad:=LJ.1 h;have ao:=ad.len;simp only;rw [qS (show 0<p.1.length∧p.1.length≤7 by omega)];have e:Ii (LF (p,())) (qV p.1.length (qi p.1.length)) [0,0,0,0,0,0,0]=some (zY (HW p)):=TK ad (rk p) (fun _=>false) fun o aq=>LU.1 aq;rw [e,sa,Zh ad]
 ·rw [if_neg h,if_neg h];simp only;rw [if_pos (decide_eq_true h)]
end
end Go.Proofs.Ytkoioidpbbbaiaa.Ab


namespace Go.Proofs.Ytkoioidpbbbaiaa.Ab
open Go
set_option maxRecDepth 20000
set_option maxHeartbeats 4000000
noncomputable def Pw:gE :=
 .loop (some (p_ false [0,2,3,1,20])) (.seq (p2 [p3 11 5,p3 12 0,qW 13 12,qs 14 11 13 .lss] (.cond (.nc 14) .skip (.exit 0))) (.seq (.block 1 (.seq (qT [p3 17 0,p3 18 5,rn 19 17 18 1,qf 20 19,p3 21 1,p3 22 5,rn 23 21 22 1,qf 24 23,qs 25 20 24 .neq]) (.cond (.nc 25) (p2 [p0 4 [.cv (.bool false)] .mU] .ret) .skip))) (qM [p1 15 5,qU 16 15 1,p1 5 16])))
noncomputable def XY:gE :=
 p2 [p0 4 [.cv (.bool false)] .mU] (.seq (p2 [p3 6 0,qW 7 6,p3 8 1,qW 9 8,qs 10 7 9 .neq] (.cond (.nc 10) (p2 [p0 4 [.cv (.bool false)] .mU] .ret) .skip)) (.seq (p2 [p' 5 0] (.block 0 Pw)) (p2 [p0 4 [.cv (.bool true)] .mU] .ret)))
theorem acm:qj Try.prog PV 27=some (XY,26,[.tmp 4]):=by kernel_rfl
def NG (a b:qk) (qe:Unit→Option Bool):Nat→Int→Option Bool
 | 0,_=>none
 | m+1,s1 =>
   if (decide (s1<(a.length:Int)))=true then
    qI (0≤s1∧s1<(a.length:Int)) <|
    qI (0≤s1∧s1<(b.length:Int)) <|
    if (decide ((ix a s1)≠(ix b s1)))=true then
     some false
    else
     NG a b qe m (w (s1+(1:Int)))
   else
    qe ()
def Li (a b:qk):Option Bool :=
 if (decide ((a.length:Int)≠(b.length:Int)))=true then
  some false
 else
  NG a b (fun _ =>
    some true) qn (0:Int)
theorem afN {a:qk} {b:qk} {qe:Unit→Option Bool} {s1:Int} {v:Bool} {Q:H6}   (jJ:qC [.tmp 4] Q (fun v=>(B v)) v) (ry:∀ (qh:List I),qe ()=some v→rO 26 [] qh→Q (.exit 0) qh []) {T:List I} (b0:eZ (p_ false [0,2,3,1,20]) T=qb 26 [(0,(q3 a .shared)),(1,(q3 b .shared)),(5,(h0 s1))]) (h:NG a b qe qn s1=some v) :
  dQ Try.prog PV 27 0 none Pw T [] Q:=by
 unfold Pw;refine wp_loop b0 ?_;refine .intro (fun m T H=>∃ (s1:Int),T=qb 26 [(0,(q3 a .shared)),(1,(q3 b .shared)),(5,(h0 s1))]∧H=[]∧NG a b qe m s1=some v) qn ⟨s1,rfl,rfl,h⟩ ?_;clear h b0;rintro m T H ⟨s1,rfl,rfl,h⟩;cases m
 ·exact Hr h
 rename_i m;rw [NG.eq_2] at h;conv=>whnf
 refine bs h (fun gN h=>?_) fun gN h=>?_
 ·rw [gN];conv=>whnf
  refine q8 h id fun qp h=>?_;rw [rD h0 a s1 qp];conv=>whnf
  refine q8 h id fun qE h=>?_;rw [rD h0 b s1 qE];conv=>whnf
  refine bs h (fun qX h=>?_) fun qX h=>?_
  ·rw [qX];(conv=>whnf);exact p9 h jJ rfl rfl
  ·rw [qX];(conv=>whnf);exact ⟨m,sG m,(w (s1+(1:Int))),rfl,rfl,h⟩
 ·rw [gN];conv=>whnf
  exact ry  _ h ⟨rfl,rfl⟩
theorem R0 {a:qk} {b:qk} {v:Bool} (h:Li a b=some v):qt 27 [(.av (a.map h0) a.length .shared),(.av (b.map h0) b.length .shared)] (B v):=by
 refine qD eG acm rfl rfl fun Q bp=>?_;have jJ:qC [.tmp 4] Q (fun v=>(B v)) v:=fun T H bE=>bp _ T H bE;unfold Li at h;unfold XY;obtain ⟨H9,qG⟩:∃ c,Pw=c:=⟨_,rfl⟩;rw [qG];conv=>whnf
 refine bs h (fun gM h=>?_) fun gM h=>?_
 ·rw [gM];conv=>whnf
  exact p9 h jJ rfl rfl
 ·rw [gM];conv=>whnf
  subst qG;refine afN ?_ ?_ (by exact rfl) h
  ·exact fun T H bE=>jJ T H bE
  ·intro  qh h qK;obtain ⟨rT,rfl⟩:=qK.ex;(conv=>whnf);exact p9 h jJ rfl rfl

noncomputable def X2:gE :=
 p2 [p0 2 [.jq 0] .box,p' 4 0,p' 5 0] (p2 [p0 9 [.Bs 2] (.zE (.str 3)),p1 10 1,p0 11 [.cv (.func 22 [] []),.nc 9,.nc 10] (.call 3),p1 8 11,qo 12 8 0,p0 13 [.Bs 8] (.ext 1),p1 6 12,p1 7 13] (p2 [p1 14 6,qW 15 14,p1 16 7,p1 4 15,p1 5 16] .ret))
theorem acq:qj Try.prog SG 21=some (X2,17,[.tmp 4,.tmp 5]):=by kernel_rfl
def Jq (p:(qg×(Int×Int))) (order:qk):Option (Int×Int) :=
 (Lj p order).bind fun aS =>
 some ((aS.1.length:Int),aS.2)
theorem R1 {p:(qg×(Int×Int))} {order:qk} {v:(Int×Int)} (h:Jq p order=some v):qt 21 [(.agg [(.av (p.1.flatMap p7) p.1.length .shared),(h0 p.2.1),(h0 p.2.2)]),(.av (order.map h0) order.length .shared)] (.tuple [(h0 v.1),(h0 v.2)]):=by
 refine qD eG acq rfl (IL (p4 rfl (p4 rfl rfl))) fun Q bp=>?_;have jJ:qC [.tmp 4,.tmp 5] Q (fun v=>(.tuple [(h0 v.1),(h0 v.2)])) v:=fun T H bE=>bp _ T H bE;unfold Jq at h;unfold X2;conv=>whnf
 obtain ⟨aS,gM,h⟩:=p8 h;refine ⟨qd.pl,_,Xr gM,?_⟩;conv=>whnf
 exact p9 h jJ rfl rfl

def I6 (x:(Int×Int)):List I:=[(h0 x.1),(h0 x.2)]
theorem PK (x:(Int×Int)):(I6 x).length=2:=rfl
instance {d:Nat} {x:(Int×Int)}:qd (d+1) (I6 x):=⟨(inferInstance:qd (d+1) [(h0 x.1),(h0 x.2)]).pl⟩
noncomputable def PD:gE :=
 .loop (some (p_ false [2,1,3,3,27])) (.seq (p2 [p3 13 8,qU 14 13 1,p3 15 2,qW 16 15,qs 17 14 16 .lss] (.cond (.nc 17) .skip (.exit 0))) (.seq (.block 1 (qT [p0 20 [.nc 7] (.yM 0),p0 21 [.Bs 20] .take,p3 22 2,p3 23 8,rn 24 22 23 1,qf 25 24,p3 26 2,p3 27 8,qU 28 27 1,rn 29 26 28 1,qf 30 29,p0 31 [.Bs 25,.Bs 30] (.build [.int .i64 0,.int .i64 0] [(0,1),(1,1)]),p0 32 [.Bs 31] (.yB 1 2 [.int .i64 0,.int .i64 0] [0]),p0 33 [.jq 21,.jq 32] (.app 2 16),p0 34 [.nc 7] (.yM 0),⟨none,[.jq 34,.jq 33],none,none,.st 1⟩])) (qM [p1 18 8,qU 19 18 2,p1 8 19])))
noncomputable def Yk:gE :=
 p2 [p0 6 [] (.alloc [.av [] 0 .full,.int .i64 0,.int .i64 0])] (p2 [p1 9 0,p1 10 1,p0 11 [.Bs 9,.Bs 10] (.build [.int .i64 0,.int .i64 0] [(0,1),(1,1)]),p0 12 [.Bs 11] (.build [.av [] 0 .full,.int .i64 0,.int .i64 0] [(1,2)]),p0 7 [] (.alloc [.av [] 0 .full,.int .i64 0,.int .i64 0]),⟨none,[.nc 7,.jq 12],none,none,.st 3⟩] (.seq (p2 [p' 8 0] (.block 0 PD)) (p2 [p0 35 [.Bs 7] (.zE (.str 3)),⟨none,[.nc 6,.jq 35],none,none,.st 3⟩] .ret)))
theorem acL:qj Try.prog P0 54=some (Yk,36,[.cell 6 (.str 3)]):=by kernel_rfl
def NW (x:qk) (qe:qg→Option (qg×(Int×Int))):Nat→Int→qg→Option (qg×(Int×Int))
 | 0,_,_=>none
 | m+1,s1,s2 =>
   if (decide ((w (s1+(1:Int)))<(x.length:Int)))=true then
    qI (0≤s1∧s1<(x.length:Int)) <|
    qI (0≤(w (s1+(1:Int)))∧(w (s1+(1:Int)))<(x.length:Int)) <|
    qI ((s2.length+1)*16≤140737488355328) <|
    NW x qe m (w (s1+(2:Int))) (s2++[((ix x s1),(ix x (w (s1+(1:Int)))))])
   else
    qe s2
def NV (lo hi:Int) (x:qk):Option (qg×(Int×Int)) :=
 NW x (fun yn =>
   some (yn,(lo,hi))) qn (0:Int) ([]:List (Int×Int))
theorem agh {x:qk} {qe:qg→Option (qg×(Int×Int))} {s1:Int} {s2:qg} {lo:Int} {hi:Int} {v:(qg×(Int×Int))} {Q:H6}   {J6:hE} (ry:∀ (yn:qg) (qh:List I),qe yn=some v→rO 36 [(6,(.ptr 0 0)),(7,(.ptr 1 0))] qh→Q (.exit 0) qh [ar.cells [(.av [] 0 .full),(h0 (0:Int)),(h0 (0:Int))],ar.cells [(.av (yn.flatMap I6) yn.length .full),(h0 lo),(h0 hi)]]) (aa0:∀ (yn:qg) (qh:List I),qe yn=some v→rO 36 [(6,(.ptr 0 0)),(7,(.ptr 1 0))] qh→Q (.exit 0) qh [ar.cells [(.av [] 0 .full),(h0 (0:Int)),(h0 (0:Int))],ar.cells [(.av (yn.flatMap I6) yn.length (.own 2)),(h0 lo),(h0 hi)]]) (QG:(J6=hE.full∨J6=(.own 2))) {T:List I} (b0:eZ (p_ false [2,1,3,3,27]) T=qb 36 [(2,(q3 x .shared)),(6,(.ptr 0 0)),(7,(.ptr 1 0)),(8,(h0 s1))]) (h:NW x qe qn s1 s2=some v) :
  dQ Try.prog P0 54 0 none PD T [ar.cells [(.av [] 0 .full),(h0 (0:Int)),(h0 (0:Int))],ar.cells [(.av (s2.flatMap I6) s2.length J6),(h0 lo),(h0 hi)]] Q:=by
 unfold PD;refine wp_loop b0 ?_;refine .intro (fun m T H=>∃ (s1:Int) (s2:qg) (J6:hE),(J6=hE.full∨J6=(.own 2))∧T=qb 36 [(2,(q3 x .shared)),(6,(.ptr 0 0)),(7,(.ptr 1 0)),(8,(h0 s1))]∧H=[ar.cells [(.av [] 0 .full),(h0 (0:Int)),(h0 (0:Int))],ar.cells [(.av (s2.flatMap I6) s2.length J6),(h0 lo),(h0 hi)]]∧NW x qe m s1 s2=some v) qn ⟨s1,s2,_,QG,rfl,rfl,h⟩ ?_;clear h b0;rintro m T H ⟨s1,s2,J6,QG,rfl,rfl,h⟩;cases m
 ·exact Hr h
 rename_i m;rw [NW.eq_2] at h;rcases QG with rfl | rfl
 ·conv=>whnf
  refine bs h (fun gM h=>?_) fun gM h=>?_
  ·rw [gM];(conv=>whnf);refine q8 h id fun gN h=>?_;rw [rD h0 x s1 gN];(conv=>whnf);refine q8 h id fun qp h=>?_;rw [rD h0 x (w (s1+(1:Int))) qp];(conv=>whnf);obtain ⟨qE,h⟩:=Hj h;refine ⟨by first | rfl | (simp;done) | exact Ih I6 _ PK _,by have:=qE;omega,by decide,qE,by first | rfl | (simp;done) | exact Ih I6 _ PK _,?_⟩
   erw [Tn I6 s2 ((ix x s1),(ix x (w (s1+(1:Int)))))];(conv=>whnf);exact ⟨m,sG m,(w (s1+(2:Int))),(s2++[((ix x s1),(ix x (w (s1+(1:Int)))))]),_,(.inr rfl),rfl,rfl,h⟩
  ·rw [gM];(conv=>whnf);exact ry _ _ h ⟨rfl,rfl⟩
 ·conv=>whnf
  refine bs h (fun gM h=>?_) fun gM h=>?_
  ·rw [gM];(conv=>whnf);refine q8 h id fun gN h=>?_;rw [rD h0 x s1 gN];(conv=>whnf);refine q8 h id fun qp h=>?_;rw [rD h0 x (w (s1+(1:Int))) qp];(conv=>whnf);obtain ⟨qE,h⟩:=Hj h;refine ⟨by first | rfl | (simp;done) | exact Ih I6 _ PK _,by have:=qE;omega,rfl,qE,?_⟩
   erw [Tn I6 s2 ((ix x s1),(ix x (w (s1+(1:Int)))))];(conv=>whnf);exact ⟨m,sG m,(w (s1+(2:Int))),(s2++[((ix x s1),(ix x (w (s1+(1:Int)))))]),_,(.inr rfl),rfl,rfl,h⟩
  ·rw [gM];(conv=>whnf);exact aa0 _ _ h ⟨rfl,rfl⟩
theorem R_ {lo:Int} {hi:Int} {x:qk} {v:(qg×(Int×Int))} (h:NV lo hi x=some v):qt 54 [(h0 lo),(h0 hi),(.av (x.map h0) x.length .shared)] (.agg [(.av (v.1.flatMap p7) v.1.length .shared),(h0 v.2.1),(h0 v.2.2)]):=by
 refine qD eG acL rfl (HS (p4 (Hu (fun _=>(p4 rfl (p4 rfl rfl))) _ _ _) (p4 rfl (p4 rfl rfl)))) fun Q bp=>?_;have jJ:qC [.cell 6 (.str 3)] Q (fun v=>(.agg [(q9 v.1 .shared),(h0 v.2.1),(h0 v.2.2)])) v:=fun T H bE=>bp _ T H bE;unfold NV at h;unfold Yk;obtain ⟨H9,qG⟩:∃ c,PD=c:=⟨_,rfl⟩;rw [qG];conv=>whnf
 subst qG;refine agh ?_ ?_ (.inl rfl) (by exact rfl) h
 ·intro yn qh h qK;obtain ⟨rT,rfl⟩:=qK.ex;conv=>whnf
  exact p9 h jJ rfl rfl
 ·intro yn qh h qK;obtain ⟨rT,rfl⟩:=qK.ex;conv=>whnf
  exact p9 h jJ rfl rfl

noncomputable def X7:gE :=
 p2 [p0 0 [] (.alloc [.av [] 0 .full,.int .i64 0,.int .i64 0])] (p2 [p0 1 [.cv (.int .i64 10),.cv (.int .i64 1),.cv (.int .i64 5),.cv (.int .i64 0),.cv (.int .i64 10),.cv (.int .i64 1)] (.yB 6 1 [.int .i64 0] [0,1,2,3,4,5]),p0 2 [.cv (.func 54 [] []),.cv (.int .i64 0),.cv (.int .i64 4),.nc 1] (.call 3),⟨none,[.nc 0,.jq 2],none,none,.st 3⟩] .ret)
theorem acw:qj Try.prog SJ 29=some (X7,3,[.cell 0 (.str 3)]):=by kernel_rfl
def NM  : Option (qg×(Int×Int)) :=
 (NV (0:Int) (4:Int) [(10:Int),(1:Int),(5:Int),(0:Int),(10:Int),(1:Int)]).bind fun aS =>
 some aS
theorem Xt  {v:(qg×(Int×Int))} (h:NM  = some v):qt 29 [] (.agg [(.av (v.1.flatMap p7) v.1.length .shared),(h0 v.2.1),(h0 v.2.2)]):=by
 refine qD eG acw rfl (HS (p4 (Hu (fun _=>(p4 rfl (p4 rfl rfl))) _ _ _) (p4 rfl (p4 rfl rfl)))) fun Q bp=>?_;have jJ:qC [.cell 0 (.str 3)] Q (fun v=>(.agg [(q9 v.1 .shared),(h0 v.2.1),(h0 v.2.2)])) v:=fun T H bE=>bp _ T H bE;unfold NM at h;unfold X7;conv=>whnf
 obtain ⟨aS,gM,h⟩:=p8 h;refine ⟨(p4 rfl (p4 rfl (p4 rfl rfl))),_,R_ gM,?_⟩;conv=>whnf
 exact p9 h jJ rfl rfl

noncomputable def X8:gE :=
 p2 [p0 0 [] (.alloc [.av [] 0 .full,.int .i64 0,.int .i64 0])] (p2 [p0 1 [.cv (.int .i64 3),.cv (.int .i64 0),.cv (.int .i64 5),.cv (.int .i64 0),.cv (.int .i64 8),.cv (.int .i64 0)] (.yB 6 1 [.int .i64 0] [0,1,2,3,4,5]),p0 2 [.cv (.func 54 [] []),.cv (.int .i64 0),.cv (.int .i64 0),.nc 1] (.call 3),⟨none,[.nc 0,.jq 2],none,none,.st 3⟩] .ret)
theorem acx:qj Try.prog SL 30=some (X8,3,[.cell 0 (.str 3)]):=by kernel_rfl
def NN  : Option (qg×(Int×Int)) :=
 (NV (0:Int) (0:Int) [(3:Int),(0:Int),(5:Int),(0:Int),(8:Int),(0:Int)]).bind fun aS =>
 some aS
theorem Xv  {v:(qg×(Int×Int))} (h:NN  = some v):qt 30 [] (.agg [(.av (v.1.flatMap p7) v.1.length .shared),(h0 v.2.1),(h0 v.2.2)]):=by
 refine qD eG acx rfl (HS (p4 (Hu (fun _=>(p4 rfl (p4 rfl rfl))) _ _ _) (p4 rfl (p4 rfl rfl)))) fun Q bp=>?_;have jJ:qC [.cell 0 (.str 3)] Q (fun v=>(.agg [(q9 v.1 .shared),(h0 v.2.1),(h0 v.2.2)])) v:=fun T H bE=>bp _ T H bE;unfold NN at h;unfold X8;conv=>whnf
 obtain ⟨aS,gM,h⟩:=p8 h;refine ⟨(p4 rfl (p4 rfl (p4 rfl rfl))),_,R_ gM,?_⟩;conv=>whnf
 exact p9 h jJ rfl rfl

noncomputable def X9:gE :=
 p2 [p0 0 [] (.alloc [.av [] 0 .full,.int .i64 0,.int .i64 0])] (p2 [p0 1 [.cv (.int .i64 4),.cv (.int .i64 0),.cv (.int .i64 6),.cv (.int .i64 0),.cv (.int .i64 1),.cv (.int .i64 0),.cv (.int .i64 6),.cv (.int .i64 0),.cv (.int .i64 4),.cv (.int .i64 0)] (.yB 10 1 [.int .i64 0] [0,1,2,3,4,5,6,7,8,9]),p0 2 [.cv (.func 54 [] []),.cv (.int .i64 0),.cv (.int .i64 9),.nc 1] (.call 3),⟨none,[.nc 0,.jq 2],none,none,.st 3⟩] .ret)
theorem acy:qj Try.prog SM 31=some (X9,3,[.cell 0 (.str 3)]):=by kernel_rfl
def NP  : Option (qg×(Int×Int)) :=
 (NV (0:Int) (9:Int) [(4:Int),(0:Int),(6:Int),(0:Int),(1:Int),(0:Int),(6:Int),(0:Int),(4:Int),(0:Int)]).bind fun aS =>
 some aS
theorem Xx  {v:(qg×(Int×Int))} (h:NP  = some v):qt 31 [] (.agg [(.av (v.1.flatMap p7) v.1.length .shared),(h0 v.2.1),(h0 v.2.2)]):=by
 refine qD eG acy rfl (HS (p4 (Hu (fun _=>(p4 rfl (p4 rfl rfl))) _ _ _) (p4 rfl (p4 rfl rfl)))) fun Q bp=>?_;have jJ:qC [.cell 0 (.str 3)] Q (fun v=>(.agg [(q9 v.1 .shared),(h0 v.2.1),(h0 v.2.2)])) v:=fun T H bE=>bp _ T H bE;unfold NP at h;unfold X9;conv=>whnf
 obtain ⟨aS,gM,h⟩:=p8 h;refine ⟨(p4 rfl (p4 rfl (p4 rfl rfl))),_,R_ gM,?_⟩;conv=>whnf
 exact p9 h jJ rfl rfl

noncomputable def X_:gE :=
 p2 [p0 2 [.cv (.av [] 0 .full)] (.nil 1)] (p2 [p1 3 0,p1 2 3] .ret)
theorem acz:qj Try.prog SI 28=some (X_,4,[.tmp 2]):=by kernel_rfl
def rR (x:qk):Option qk :=
 some x
theorem Hw {x:qk} {v:qk} (h:rR x=some v):qt 28 [(.av (x.map h0) x.length .shared)] (.av (v.map h0) v.length .shared):=by
 refine qD eG acz rfl (rE (fun _=>rfl) _ _ _) fun Q bp=>?_;have jJ:qC [.tmp 2] Q (fun v=>(q3 v .shared)) v:=fun T H bE=>bp _ T H bE;unfold rR at h;unfold X_;conv=>whnf
 exact p9 h jJ rfl rfl

noncomputable def X':gE :=
 p2 [p0 2 [.cv (.av [] 0 .full)] (.nil 3)] (p2 [p1 3 0,p1 2 3] .ret)
theorem acA:qj Try.prog SQ 34=some (X',4,[.tmp 2]):=by kernel_rfl
def Kn (x:(List (Int×(Int×Int)))):Option (List (Int×(Int×Int))) :=
 some x
theorem Pj {x:(List (Int×(Int×Int)))} {v:(List (Int×(Int×Int)))} (h:Kn x=some v):qt 34 [(.av (x.flatMap ql) x.length .shared)] (.av (v.flatMap ql) v.length .shared):=by
 refine qD eG acA rfl (Hu (fun _=>(p4 rfl (p4 rfl (p4 rfl rfl)))) _ _ _) fun Q bp=>?_;have jJ:qC [.tmp 2] Q (fun v=>(.av (v.flatMap ql) v.length .shared)) v:=fun T H bE=>bp _ T H bE;unfold Kn at h;unfold X';conv=>whnf
 exact p9 h jJ rfl rfl

noncomputable def Ya:gE :=
 p2 [p0 6 [] (.alloc [.int .i64 0,.int .i64 0,.int .i64 0])] (p2 [p1 7 0,p1 8 1,p1 9 2,p0 10 [.Bs 8,.Bs 9] (.build [.int .i64 0,.int .i64 0] [(0,1),(1,1)]),p0 11 [.Bs 7,.Bs 10] (.build [.int .i64 0,.int .i64 0,.int .i64 0] [(0,1),(1,2)]),⟨none,[.nc 6,.jq 11],none,none,.st 3⟩] .ret)
theorem acB:qj Try.prog SR 35=some (Ya,12,[.cell 6 (.str 3)]):=by kernel_rfl
def Ko (O3 pull more:Int):Option (Int×(Int×Int)) :=
 some (O3,(pull,more))
theorem Pk {O3:Int} {pull:Int} {more:Int} {v:(Int×(Int×Int))} (h:Ko O3 pull more=some v):qt 35 [(h0 O3),(h0 pull),(h0 more)] (.agg [(h0 v.1),(h0 v.2.1),(h0 v.2.2)]):=by
 refine qD eG acB rfl (HS (p4 rfl (p4 rfl (p4 rfl rfl)))) fun Q bp=>?_;have jJ:qC [.cell 6 (.str 3)] Q (fun v=>(.agg [(h0 v.1),(h0 v.2.1),(h0 v.2.2)])) v:=fun T H bE=>bp _ T H bE;unfold Ko at h;unfold Ya;conv=>whnf
 exact p9 h jJ rfl rfl
end Go.Proofs.Ytkoioidpbbbaiaa.Ab


namespace Go.Proofs.Ytkoioidpbbbaiaa.Ab
open Go
set_option maxRecDepth 100000
set_option maxHeartbeats 4000000
noncomputable def XW:gE :=
 p2 [p0 0 [.cv (.bool false)] .mU] (p2 [p0 34 [.cv (.func 29 [] [])] (.call 3),p0 35 [.cv (.func 30 [] [])] (.call 3),p0 36 [.cv (.func 31 [] [])] (.call 3),p0 1 [] (.alloc [.av [] 0 .full,.int .i64 0,.int .i64 0]),p0 2 [] (.alloc [.av [] 0 .full,.int .i64 0,.int .i64 0]),p0 3 [] (.alloc [.av [] 0 .full,.int .i64 0,.int .i64 0]),⟨none,[.nc 1,.jq 34],none,none,.st 3⟩,⟨none,[.nc 2,.jq 35],none,none,.st 3⟩,⟨none,[.nc 3,.jq 36],none,none,.st 3⟩] (.seq (qT [p0 38 [.nc 3] (.zE (.str 3)),p0 39 [.cv (.int .i64 1),.cv (.int .i64 0),.cv (.int .i64 2),.cv (.int .i64 3),.cv (.int .i64 4)] (.yB 5 1 [.int .i64 0] [0,1,2,3,4]),p0 40 [.cv (.func 28 [] []),.nc 39] (.call 3),p0 41 [.cv (.func 12 [] []),.nc 38,.nc 40,.cv (.int .i64 0)] (.call 3),p1 37 41,qo 42 37 0,qo 43 37 1,qo 44 37 2,p1 4 42,p1 5 43,p1 6 44]) (.seq (qT [p0 46 [.nc 1] (.zE (.str 3)),p0 47 [.cv (.int .i64 1),.cv (.int .i64 0),.cv (.int .i64 2)] (.yB 3 1 [.int .i64 0] [0,1,2]),p0 48 [.cv (.func 28 [] []),.nc 47] (.call 3),p0 49 [.cv (.func 12 [] []),.nc 46,.nc 48,.cv (.int .i64 5)] (.call 3),p1 45 49,qo 50 45 0,qo 51 45 1,qo 52 45 2,p1 7 50,p1 8 51,p1 9 52]) (.seq (qT [p0 54 [.nc 1] (.zE (.str 3)),p0 55 [.cv (.int .i64 1),.cv (.int .i64 0),.cv (.int .i64 2)] (.yB 3 1 [.int .i64 0] [0,1,2]),p0 56 [.cv (.func 28 [] []),.nc 55] (.call 3),p0 57 [.cv (.func 14 [] []),.nc 54,.nc 56] (.call 3),p1 53 57,qo 58 53 0,qo 59 53 1,p1 10 58,p1 11 59]) (.seq (qT [p0 61 [.Bs 1] (.zE (.str 3)),p0 62 [.cv (.int .i64 0),.cv (.int .i64 1),.cv (.int .i64 1)] (.yB 3 1 [.int .i64 0] [0,1,2]),p0 63 [.cv (.func 28 [] []),.nc 62] (.call 3),p0 64 [.cv (.func 14 [] []),.nc 61,.nc 63] (.call 3),p1 60 64,qo 65 60 0,qo 66 60 1,p1 12 65,p1 13 66]) (p2 [p0 68 [.nc 2] (.zE (.str 3)),p0 69 [.cv (.func 32 [] []),.nc 68] (.call 3),p1 67 69,qo 70 67 0,p0 71 [.Bs 67] (.ext 1),p1 14 70,p1 15 71] (p2 [p0 73 [.nc 2] (.zE (.str 3)),p0 74 [.cv (.func 33 [] []),.nc 73] (.call 3),p1 72 74,qo 75 72 0,p0 76 [.Bs 72] (.ext 1),p1 16 75,p1 17 76] (p2 [p0 78 [.nc 3] (.zE (.str 3)),p0 79 [.cv (.func 20 [] []),.nc 78] (.call 3),p1 77 79,qo 80 77 0,p0 81 [.Bs 77] (.ext 1),p1 18 80,p1 19 81] (.seq (qT [p0 83 [.nc 2] (.zE (.str 3)),p0 84 [.cv (.int .i64 0),.cv (.int .i64 2),.cv (.int .i64 1)] (.yB 3 1 [.int .i64 0] [0,1,2]),p0 85 [.cv (.func 28 [] []),.nc 84] (.call 3),p0 86 [.cv (.func 35 [] []),.cv (.int .i64 0),.cv (.int .i64 5),.cv (.int .i64 0)] (.call 3),p0 87 [.Bs 86] (.yB 1 3 [.int .i64 0,.int .i64 0,.int .i64 0] [0]),p0 88 [.cv (.func 34 [] []),.nc 87] (.call 3),p0 89 [.cv (.func 23 [] []),.nc 83,.nc 85,.nc 88] (.call 3),p1 82 89,qo 90 82 0,qo 91 82 1,p1 20 90,p1 21 91]) (.seq (qT [p0 93 [.nc 2] (.zE (.str 3)),p0 94 [.cv (.int .i64 0),.cv (.int .i64 2),.cv (.int .i64 1)] (.yB 3 1 [.int .i64 0] [0,1,2]),p0 95 [.cv (.func 28 [] []),.nc 94] (.call 3),p0 96 [.cv (.func 35 [] []),.cv (.int .i64 2),.cv (.int .i64 1),.cv (.int .i64 0)] (.call 3),p0 97 [.Bs 96] (.yB 1 3 [.int .i64 0,.int .i64 0,.int .i64 0] [0]),p0 98 [.cv (.func 34 [] []),.nc 97] (.call 3),p0 99 [.cv (.func 23 [] []),.nc 93,.nc 95,.nc 98] (.call 3),p1 92 99,qo 100 92 0,qo 101 92 1,p1 22 100,p1 23 101]) (.seq (qT [p0 103 [.nc 2] (.zE (.str 3)),p0 104 [.cv (.int .i64 0),.cv (.int .i64 2),.cv (.int .i64 1)] (.yB 3 1 [.int .i64 0] [0,1,2]),p0 105 [.cv (.func 28 [] []),.nc 104] (.call 3),p0 106 [.cv (.func 35 [] []),.cv (.int .i64 0),.cv (.int .i64 101),.cv (.int .i64 0)] (.call 3),p0 107 [.Bs 106] (.yB 1 3 [.int .i64 0,.int .i64 0,.int .i64 0] [0]),p0 108 [.cv (.func 34 [] []),.nc 107] (.call 3),p0 109 [.cv (.func 23 [] []),.nc 103,.nc 105,.nc 108] (.call 3),p1 102 109,qo 110 102 0,qo 111 102 1,p1 24 110,p1 25 111]) (.seq (qT [p0 113 [.Bs 3] (.zE (.str 3)),p0 114 [.cv (.int .i64 1),.cv (.int .i64 0),.cv (.int .i64 2),.cv (.int .i64 3),.cv (.int .i64 4)] (.yB 5 1 [.int .i64 0] [0,1,2,3,4]),p0 115 [.cv (.func 28 [] []),.nc 114] (.call 3),p0 116 [.cv (.func 21 [] []),.nc 113,.nc 115] (.call 3),p1 112 116,qo 117 112 0,qo 118 112 1,p1 26 117,p1 27 118]) (.seq (qT [p0 120 [.nc 2] (.zE (.str 3)),p0 121 [.cv (.int .i64 0),.cv (.int .i64 2),.cv (.int .i64 1)] (.yB 3 1 [.int .i64 0] [0,1,2]),p0 122 [.cv (.func 28 [] []),.nc 121] (.call 3),p0 123 [.cv (.func 22 [] []),.nc 120,.nc 122] (.call 3),p1 119 123,qo 124 119 0,qo 125 119 1,p1 28 124,p1 29 125]) (p2 [p0 127 [.nc 2] (.zE (.str 3)),p0 128 [.cv (.func 25 [] []),.nc 127] (.call 3),p1 126 128,qo 129 126 0,p0 130 [.Bs 126] (.ext 1),p1 30 129,p1 31 130] (.seq (p2 [p1 131 6,qu 132 131 0 .neq,p1 133 132,cl 134 [.jq 9] 133 false .mU,cl 135 [.Bs 134,.cv (.int .i64 3)] 133 false (.bin .neq),p0 136 [.Bs 133,.cv (.bool true),.Bs 135] .pick,p1 137 136,cl 138 [.jq 11] 137 false .mU,cl 139 [.Bs 138,.cv (.int .i64 0)] 137 false (.bin .neq),p0 140 [.Bs 137,.cv (.bool true),.Bs 139] .pick,p1 141 140,cl 142 [.jq 13] 141 false .mU,cl 143 [.Bs 142,.cv (.int .i64 16)] 141 false (.bin .neq),p0 144 [.Bs 141,.cv (.bool true),.Bs 143] .pick,p1 145 144,cl 146 [.jq 15] 145 false .mU,cl 147 [.Bs 146,.cv (.int .i64 0)] 145 false (.bin .neq),p0 148 [.Bs 145,.cv (.bool true),.Bs 147] .pick,p1 149 148,cl 150 [.jq 17] 149 false .mU,cl 151 [.Bs 150,.cv (.int .i64 0)] 149 false (.bin .neq),p0 152 [.Bs 149,.cv (.bool true),.Bs 151] .pick,p1 153 152,cl 154 [.jq 19] 153 false .mU,cl 155 [.Bs 154,.cv (.int .i64 0)] 153 false (.bin .neq),p0 156 [.Bs 153,.cv (.bool true),.Bs 155] .pick,p1 157 156,cl 158 [.jq 21] 157 false .mU,cl 159 [.Bs 158,.cv (.int .i64 0)] 157 false (.bin .neq),p0 160 [.Bs 157,.cv (.bool true),.Bs 159] .pick,p1 161 160,cl 162 [.jq 23] 161 false .mU,cl 163 [.Bs 162,.cv (.int .i64 23)] 161 false (.bin .neq),p0 164 [.Bs 161,.cv (.bool true),.Bs 163] .pick,p1 165 164,cl 166 [.jq 25] 165 false .mU,cl 167 [.Bs 166,.cv (.int .i64 3)] 165 false (.bin .neq),p0 168 [.Bs 165,.cv (.bool true),.Bs 167] .pick,p1 169 168,cl 170 [.jq 27] 169 false .mU,cl 171 [.Bs 170,.cv (.int .i64 0)] 169 false (.bin .neq),p0 172 [.Bs 169,.cv (.bool true),.Bs 171] .pick,p1 173 172,cl 174 [.jq 29] 173 false .mU,cl 175 [.Bs 174,.cv (.int .i64 0)] 173 false (.bin .neq),p0 176 [.Bs 173,.cv (.bool true),.Bs 175] .pick,p1 177 176,cl 178 [.jq 31] 177 false .mU,cl 179 [.Bs 178,.cv (.int .i64 0)] 177 false (.bin .neq),p0 180 [.Bs 177,.cv (.bool true),.Bs 179] .pick] (.cond (.nc 180) (p2 [p0 0 [.cv (.bool false)] .mU] .ret) .skip)) (.seq (qT [p0 182 [.Bs 2] (.zE (.str 3)),p0 183 [.cv (.int .i64 0),.cv (.int .i64 2),.cv (.int .i64 1)] (.yB 3 1 [.int .i64 0] [0,1,2]),p0 184 [.cv (.func 28 [] []),.nc 183] (.call 3),p1 185 28,p0 186 [.cv (.func 24 [] []),.nc 182,.nc 184,.nc 185] (.call 3),p1 181 186,qo 187 181 0,qo 188 181 1,p1 32 187,p1 33 188]) (p2 [p1 189 4,qu 190 189 (-4) .eql,p1 191 190,cl 192 [.jq 5] 191 true .mU,cl 193 [.Bs 192,.cv (.int .i64 2)] 191 true (.bin .eql),p0 194 [.Bs 191,.Bs 193,.cv (.bool false)] .pick,p1 195 194,cl 196 [.jq 10] 195 true .mU,cl 197 [.Bs 196,.cv (.int .i64 9)] 195 true (.bin .eql),p0 198 [.Bs 195,.Bs 197,.cv (.bool false)] .pick,p1 199 198,cl 200 [.jq 14] 199 true .mU,cl 201 [.Bs 200,.cv (.int .i64 2)] 199 true (.bin .eql),p0 202 [.Bs 199,.Bs 201,.cv (.bool false)] .pick,p1 203 202,cl 204 [.jq 16] 203 true .mU,⟨some 205,[.cv (.int .i64 0),.cv (.int .i64 2),.cv (.int .i64 1)],some (203,true),none,.yB 3 1 [.int .i64 0] [0,1,2]⟩,⟨some 206,[.cv (.func 28 [] []),.nc 205],some (203,true),none,.call 3⟩,⟨some 207,[.cv (.func 27 [] []),.nc 204,.nc 206],some (203,true),none,.call 3⟩,p0 208 [.Bs 203,.Bs 207,.cv (.bool false)] .pick,p1 209 208,cl 210 [.jq 18] 209 true .mU,cl 211 [.Bs 210,.cv (.int .i64 8)] 209 true (.bin .eql),p0 212 [.Bs 209,.Bs 211,.cv (.bool false)] .pick,p1 213 212,cl 214 [.jq 20] 213 true .mU,cl 215 [.Bs 214,.cv (.int .i64 1)] 213 true (.bin .eql),p0 216 [.Bs 213,.Bs 215,.cv (.bool false)] .pick,p1 217 216,cl 218 [.jq 26] 217 true .mU,cl 219 [.Bs 218,.cv (.int .i64 2)] 217 true (.bin .eql),p0 220 [.Bs 217,.Bs 219,.cv (.bool false)] .pick,p1 221 220,cl 222 [.jq 33] 221 true .mU,cl 223 [.Bs 222,.cv (.int .i64 0)] 221 true (.bin .eql),p0 224 [.Bs 221,.Bs 223,.cv (.bool false)] .pick,p1 225 224,cl 226 [.jq 32] 225 true .mU,cl 227 [.Bs 226,.cv (.int .i64 1)] 225 true (.bin .eql),p0 228 [.Bs 225,.Bs 227,.cv (.bool false)] .pick,p1 229 228,cl 230 [.jq 30] 229 true .mU,⟨some 231,[.cv (.int .i64 0),.cv (.int .i64 1),.cv (.int .i64 2)],some (229,true),none,.yB 3 1 [.int .i64 0] [0,1,2]⟩,⟨some 232,[.cv (.func 28 [] []),.nc 231],some (229,true),none,.call 3⟩,⟨some 233,[.cv (.func 27 [] []),.nc 230,.nc 232],some (229,true),none,.call 3⟩,p0 234 [.Bs 229,.Bs 233,.cv (.bool false)] .pick,p1 0 234] .ret)))))))))))))))))
theorem acj:qj Try.prog SB 11=some (XW,235,[.tmp 0]):=by kernel_rfl
def Kl  : Option Bool :=
 (NM).bind fun aS =>
 (NN).bind fun bj =>
 (NP).bind fun eK =>
 (rR [(1:Int),(0:Int),(2:Int),(3:Int),(4:Int)]).bind fun Hv =>
 (IA eK Hv (0:Int)).bind fun HN =>
 (rR [(1:Int),(0:Int),(2:Int)]).bind fun Iy =>
 (IA aS Iy (5:Int)).bind fun Jh =>
 (rR [(1:Int),(0:Int),(2:Int)]).bind fun Kg =>
 (Im aS Kg).bind fun JA =>
 (rR [(0:Int),(1:Int),(1:Int)]).bind fun Kf =>
 (Im aS Kf).bind fun L_ =>
 (Km bj).bind fun K6 =>
 (JW bj).bind fun K7 =>
 (JB eK).bind fun K8 =>
 (rR [(0:Int),(2:Int),(1:Int)]).bind fun L' =>
 (Ko (0:Int) (5:Int) (0:Int)).bind fun Na =>
 (Kn [Na]).bind fun Nb =>
 (Iz bj L' Nb).bind fun Ma =>
 (rR [(0:Int),(2:Int),(1:Int)]).bind fun Mb =>
 (Ko (2:Int) (1:Int) (0:Int)).bind fun Nc =>
 (Kn [Nc]).bind fun Nd =>
 (Iz bj Mb Nd).bind fun Nf =>
 (rR [(0:Int),(2:Int),(1:Int)]).bind fun Mc =>
 (Ko (0:Int) (101:Int) (0:Int)).bind fun Ng =>
 (Kn [Ng]).bind fun Md =>
 (Iz bj Mc Md).bind fun Nh =>
 (rR [(1:Int),(0:Int),(2:Int),(3:Int),(4:Int)]).bind fun Me =>
 (Jq eK Me).bind fun Mf =>
 (rR [(0:Int),(2:Int),(1:Int)]).bind fun Ni =>
 (Lj bj Ni).bind fun Q3 =>
 (Mu bj).bind fun Q4 =>
 if (decide (HN.2.2≠(0:Int)))=true then
  some false
 else
  if (decide (Jh.2.2≠(3:Int)))=true then
   some false
  else
   if (decide (JA.2≠(0:Int)))=true then
    some false
   else
    if (decide (L_.2≠(16:Int)))=true then
     some false
    else
     if (decide (K6.2≠(0:Int)))=true then
      some false
     else
      if (decide (K7.2≠(0:Int)))=true then
       some false
      else
       if (decide (K8.2≠(0:Int)))=true then
        some false
       else
        if (decide (Ma.2≠(0:Int)))=true then
         some false
        else
         if (decide (Nf.2≠(23:Int)))=true then
          some false
         else
          if (decide (Nh.2≠(3:Int)))=true then
           some false
          else
           if (decide (Mf.2≠(0:Int)))=true then
            some false
           else
            if (decide (Q3.2≠(0:Int)))=true then
             some false
            else
             if (decide (Q4.2≠(0:Int)))=true then
              some false
             else
              (rR [(0:Int),(2:Int),(1:Int)]).bind fun Vy =>
              (Mt bj Vy Q3.1).bind fun Q5 =>
              if (decide (HN.1=(-4:Int)))=true then
               if (decide (HN.2.1=(2:Int)))=true then
                if (decide (JA.1=(9:Int)))=true then
                 if (decide (K6.1=(2:Int)))=true then
                  (rR [(0:Int),(2:Int),(1:Int)]).bind fun Vz =>
                  (Li K7.1 Vz).bind fun Q6 =>
                  if Q6=true then
                   if (decide (K8.1=(8:Int)))=true then
                    if (decide (Ma.1=(1:Int)))=true then
                     if (decide (Mf.1=(2:Int)))=true then
                      if (decide (Q5.2=(0:Int)))=true then
                       if (decide (Q5.1=(1:Int)))=true then
                        (rR [(0:Int),(1:Int),(2:Int)]).bind fun VA =>
                        (Li Q4.1 VA).bind fun VB =>
                        some VB
                       else
                        some false
                      else
                       some false
                     else
                      some false
                    else
                     some false
                   else
                    some false
                  else
                   some false
                 else
                  some false
                else
                 some false
               else
                some false
              else
               some false
theorem Pe  {v:Bool} (h:Kl  = some v):qt 11 [] (B v):=by
 refine qD eG acj rfl rfl fun Q bp=>?_;have jJ:qC [.tmp 0] Q (fun v=>(B v)) v:=fun T H bE=>bp _ T H bE;unfold Kl at h;unfold XW;conv=>whnf
 obtain ⟨aS,gM,h⟩:=p8 h;refine ⟨rfl,_,Xt gM,?_⟩;conv=>whnf
 obtain ⟨bj,gN,h⟩:=p8 h;refine ⟨rfl,_,Xv gN,?_⟩;conv=>whnf
 obtain ⟨eK,qp,h⟩:=p8 h;refine ⟨rfl,_,Xx qp,?_⟩;conv=>whnf
 obtain ⟨Hv,qE,h⟩:=p8 h;refine ⟨(p4 rfl rfl),_,Hw qE,q',?_⟩;conv=>whnf
 obtain ⟨HN,qX,h⟩:=p8 h;refine ⟨qd.pl,_,NL qX,rC rfl,?_⟩;conv=>whnf
 obtain ⟨Iy,rG,h⟩:=p8 h;refine ⟨(p4 rfl rfl),_,Hw rG,q',?_⟩;conv=>whnf
 obtain ⟨Jh,qR,h⟩:=p8 h;refine ⟨qd.pl,_,NL qR,rC rfl,?_⟩;conv=>whnf
 obtain ⟨Kg,rU,h⟩:=p8 h;refine ⟨(p4 rfl rfl),_,Hw rU,q',?_⟩;conv=>whnf
 obtain ⟨JA,rJ,h⟩:=p8 h;refine ⟨qd.pl,_,Mv rJ,rC rfl,?_⟩;conv=>whnf
 obtain ⟨Kf,rW,h⟩:=p8 h;refine ⟨(p4 rfl rfl),_,Hw rW,q',?_⟩;conv=>whnf
 obtain ⟨L_,Ja,h⟩:=p8 h;refine ⟨qd.pl,_,Mv Ja,rC rfl,?_⟩;conv=>whnf
 obtain ⟨K6,Jb,h⟩:=p8 h;refine ⟨qd.pl,_,Xq Jb,?_⟩;conv=>whnf
 obtain ⟨K7,JK,h⟩:=p8 h;refine ⟨qd.pl,_,RX JK,?_⟩;conv=>whnf
 obtain ⟨K8,JL,h⟩:=p8 h;refine ⟨qd.pl,_,RZ JL,?_⟩;conv=>whnf
 obtain ⟨L',Jc,h⟩:=p8 h;refine ⟨(p4 rfl rfl),_,Hw Jc,q',?_⟩;conv=>whnf
 obtain ⟨Na,KI,h⟩:=p8 h;refine ⟨(p4 rfl (p4 rfl (p4 rfl rfl))),_,Pk KI,rC rfl,?_⟩;conv=>whnf
 obtain ⟨Nb,MQ,h⟩:=p8 h;refine ⟨(p4 rfl rfl),_,Pj MQ,rC rfl,?_⟩;conv=>whnf
 obtain ⟨Ma,Qt,h⟩:=p8 h;refine ⟨qd.pl,_,NI Qt,rC rfl,?_⟩;conv=>whnf
 obtain ⟨Mb,Qu,h⟩:=p8 h;refine ⟨(p4 rfl rfl),_,Hw Qu,q',?_⟩;conv=>whnf
 obtain ⟨Nc,Qv,h⟩:=p8 h;refine ⟨(p4 rfl (p4 rfl (p4 rfl rfl))),_,Pk Qv,rC rfl,?_⟩;conv=>whnf
 obtain ⟨Nd,Qw,h⟩:=p8 h;refine ⟨(p4 rfl rfl),_,Pj Qw,rC rfl,?_⟩;conv=>whnf
 obtain ⟨Nf,Qx,h⟩:=p8 h;refine ⟨qd.pl,_,NI Qx,rC rfl,?_⟩;conv=>whnf
 obtain ⟨Mc,Qy,h⟩:=p8 h;refine ⟨(p4 rfl rfl),_,Hw Qy,q',?_⟩;conv=>whnf
 obtain ⟨Ng,Qz,h⟩:=p8 h;refine ⟨(p4 rfl (p4 rfl (p4 rfl rfl))),_,Pk Qz,rC rfl,?_⟩;conv=>whnf
 obtain ⟨Md,QA,h⟩:=p8 h;refine ⟨(p4 rfl rfl),_,Pj QA,rC rfl,?_⟩;conv=>whnf
 obtain ⟨Nh,MR,h⟩:=p8 h;refine ⟨qd.pl,_,NI MR,rC rfl,?_⟩;conv=>whnf
 obtain ⟨Me,MS,h⟩:=p8 h;refine ⟨(p4 rfl rfl),_,Hw MS,q',?_⟩;conv=>whnf
 obtain ⟨Mf,MT,h⟩:=p8 h;refine ⟨qd.pl,_,R1 MT,rC rfl,?_⟩;conv=>whnf
 obtain ⟨Ni,MU,h⟩:=p8 h;refine ⟨(p4 rfl rfl),_,Hw MU,q',?_⟩;conv=>whnf
 obtain ⟨Q3,MV,h⟩:=p8 h;refine ⟨qd.pl,_,Xr MV,rC rfl,?_⟩;conv=>whnf
 obtain ⟨Q4,MW,h⟩:=p8 h;refine ⟨qd.pl,_,af0 MW,?_⟩;conv=>whnf
 refine bs h (fun KJ h=>?_) fun KJ h=>?_
 ·rw [KJ];conv=>whnf
  exact p9 h jJ rfl rfl
 ·rw [KJ];conv=>whnf
  refine bs h (fun KK h=>?_) fun KK h=>?_
  ·rw [KK];(conv=>whnf);exact p9 h jJ rfl rfl
  ·rw [KK];(conv=>whnf);refine bs h (fun KL h=>?_) fun KL h=>?_
   ·rw [KL];(conv=>whnf);exact p9 h jJ rfl rfl
   ·rw [KL];(conv=>whnf);refine bs h (fun KM h=>?_) fun KM h=>?_
    ·rw [KM];(conv=>whnf);exact p9 h jJ rfl rfl
    ·rw [KM];(conv=>whnf);refine bs h (fun KN h=>?_) fun KN h=>?_
     ·rw [KN];(conv=>whnf);exact p9 h jJ rfl rfl
     ·rw [KN];(conv=>whnf);refine bs h (fun KO h=>?_) fun KO h=>?_
      ·rw [KO];(conv=>whnf);exact p9 h jJ rfl rfl
      ·rw [KO];(conv=>whnf);refine bs h (fun KP h=>?_) fun KP h=>?_
       ·rw [KP];(conv=>whnf);exact p9 h jJ rfl rfl
       ·rw [KP];(conv=>whnf);refine bs h (fun MX h=>?_) fun MX h=>?_
        ·rw [MX];(conv=>whnf);exact p9 h jJ rfl rfl
        ·rw [MX];(conv=>whnf);refine bs h (fun MY h=>?_) fun MY h=>?_
         ·rw [MY];(conv=>whnf);exact p9 h jJ rfl rfl
         ·rw [MY];(conv=>whnf);refine bs h (fun KQ h=>?_) fun KQ h=>?_
          ·rw [KQ];(conv=>whnf);exact p9 h jJ rfl rfl
          ·rw [KQ];(conv=>whnf);refine bs h (fun KR h=>?_) fun KR h=>?_
           ·rw [KR];(conv=>whnf);exact p9 h jJ rfl rfl
           ·rw [KR];(conv=>whnf);refine bs h (fun KS h=>?_) fun KS h=>?_
            ·rw [KS];(conv=>whnf);exact p9 h jJ rfl rfl
            ·rw [KS];(conv=>whnf);refine bs h (fun KT h=>?_) fun KT h=>?_
             ·rw [KT];(conv=>whnf);exact p9 h jJ rfl rfl
             ·rw [KT];(conv=>whnf);obtain ⟨Vy,MZ,h⟩:=p8 h;refine ⟨(p4 rfl rfl),_,Hw MZ,q',?_⟩;(conv=>whnf);obtain ⟨Q5,M0,h⟩:=p8 h;refine ⟨qd.pl,_,afU M0,rC rfl,?_⟩;(conv=>whnf);refine bs h (fun KU h=>?_) fun KU h=>?_
              ·rw [KU];(conv=>whnf);refine bs h (fun KV h=>?_) fun KV h=>?_
               ·rw [KV];(conv=>whnf);refine bs h (fun KW h=>?_) fun KW h=>?_
                ·rw [KW];(conv=>whnf);refine bs h (fun KX h=>?_) fun KX h=>?_
                 ·rw [KX];(conv=>whnf);obtain ⟨Vz,M1,h⟩:=p8 h;refine ⟨(p4 rfl rfl),_,Hw M1,?_⟩;(conv=>whnf);obtain ⟨Q6,QB,h⟩:=p8 h;refine ⟨qd.pl,_,R0 QB,?_⟩;(conv=>whnf);cases Q6
                  ·(conv=>whnf);replace h:=Ho rfl h;exact p9 h jJ rfl rfl
                  ·(conv=>whnf);replace h:=Hp rfl h;refine bs h (fun KY h=>?_) fun KY h=>?_
                   ·rw [KY];(conv=>whnf);refine bs h (fun M3 h=>?_) fun M3 h=>?_
                    ·rw [M3];(conv=>whnf);refine bs h (fun QC h=>?_) fun QC h=>?_
                     ·rw [QC];(conv=>whnf);refine bs h (fun QD h=>?_) fun QD h=>?_
                      ·rw [QD];(conv=>whnf);refine bs h (fun QE h=>?_) fun QE h=>?_
                       ·rw [QE];(conv=>whnf);obtain ⟨VA,aaK,h⟩:=p8 h;refine ⟨(p4 rfl rfl),_,Hw aaK,?_⟩;(conv=>whnf);obtain ⟨VB,aaL,h⟩:=p8 h;refine ⟨qd.pl,_,R0 aaL,?_⟩;(conv=>whnf);exact p9 h jJ rfl rfl
                       ·rw [QE];(conv=>whnf);exact p9 h jJ rfl rfl
                      ·rw [QD];(conv=>whnf);exact p9 h jJ rfl rfl
                     ·rw [QC];(conv=>whnf);exact p9 h jJ rfl rfl
                    ·rw [M3];(conv=>whnf);exact p9 h jJ rfl rfl
                   ·rw [KY];(conv=>whnf);exact p9 h jJ rfl rfl
                 ·rw [KX];(conv=>whnf);exact p9 h jJ rfl rfl
                ·rw [KW];(conv=>whnf);exact p9 h jJ rfl rfl
               ·rw [KV];(conv=>whnf);exact p9 h jJ rfl rfl
              ·rw [KU];(conv=>whnf);exact p9 h jJ rfl rfl
end Go.Proofs.Ytkoioidpbbbaiaa.Ab


namespace Go.Proofs.Ytkoioidpbbbaiaa.Ab
open Go
set_option maxRecDepth 20000
set_option maxHeartbeats 1000000
def I3:qc:=([(10,1),(5,0),(10,1)],(0,4))
def rN:qc:=([(3,0),(5,0),(8,0)],(0,0))
def Ke:qc:=([(4,0),(6,0),(1,0),(6,0),(4,0)],(0,9))
theorem Xs:NM=some I3:=by decide +kernel
theorem Xu:NN=some rN:=by decide +kernel
theorem Xw:NP=some Ke:=by decide +kernel
theorem afD:IA Ke [1,0,2,3,4] 0=some (-4,2,0):=by
 rw [Mw (by decide) (by decide)];decide +kernel
theorem afE:IA I3 [1,0,2] 5=some (0,0,3):=by
 rw [Mw (by decide) (by decide)];decide +kernel
theorem afB:Im I3 [1,0,2]=some (9,0):=by
 rw [Lk (by decide) (by decide)];decide +kernel
theorem afC:Im I3 [0,1,1]=some (0,16):=by
 rw [Lk (by decide) (by decide)];decide +kernel
theorem afr:Km rN=some (2,0):=by
 rw [Xp (by decide)];decide +kernel
theorem afs:JW rN=some ([0,2,1],0):=by
 rw [RW (by decide)];decide +kernel
theorem aft:JB Ke=some (8,0):=by
 rw [RY (by decide)];decide +kernel
theorem afv:Iz rN [0,2,1] [(0,(5,0))]=some (1,0):=by
 rw [NH (by decide) (by decide) (by decide)];decide +kernel
theorem afw:Iz rN [0,2,1] [(2,(1,0))]=some (0,23):=by
 rw [NH (by decide) (by decide) (by decide)];decide +kernel
theorem afx:Iz rN [0,2,1] [(0,(101,0))]=some (0,3):=by
 rw [NH (by decide) (by decide) (by decide)];decide +kernel
theorem Of {p:qc} {o:List Int} {a i t:Nat} (ab:¬ Ig p o a) (ae:i<o.length) (aF:i % 2=a) (ba:t<2121) (bP:I0 p o a i (I4 t)):IZ p o a=1:=by
 unfold IZ;rw [if_neg ab,if_pos ⟨i,ae,aF,t,ba,bP⟩]
theorem Og {p:qc} {o:List Int} {a:Nat} (ab:Ig p o a):IZ p o a=0:=by
 unfold IZ;rw [if_pos ab]
theorem afy:Jq Ke [1,0,2,3,4]=some (2,0):=by
 unfold Jq;obtain ⟨l,ab,ae⟩:=Ph (p:=Ke) (o:=[1,0,2,3,4]) (by decide) (by decide);have rL:ru Ke [1,0,2,3,4]=0:=by decide +kernel
 rw [if_pos rL] at ab;rw [ab,sa,(ae rL).1];rw [Of (i:=0) (t:=1014) (by decide +kernel) (by decide) (by decide) (by decide) (by decide +kernel),Of (i:=1) (t:=1016) (by decide +kernel) (by decide) (by decide) (by decide) (by decide +kernel)];rfl
theorem afz:∃ l,Lj rN [0,2,1]=some (l,0)∧Mt rN [0,2,1] l=some (1,0):=by
 obtain ⟨l,ab,ae⟩:=Ph (p:=rN) (o:=[0,2,1]) (by decide) (by decide);have rL:ru rN [0,2,1]=0:=by decide +kernel
 rw [if_pos rL] at ab;obtain ⟨aF,ba,bP⟩:=ae rL;have ao:l.length=1:=by
  rw [aF,Of (i:=0) (t:=1015) (by decide +kernel) (by decide) (by decide) (by decide) (by decide +kernel),Og (by decide +kernel)]
 refine ⟨l,ab,?_⟩;rw [afS (by decide) (by decide) (by omega),if_pos rL,if_pos ba,if_neg (by omega),ao];rfl
theorem afA:Mu rN=some ([0,1,2],0):=by
 have af:∀ (s t:Nat) (o:List Int),qx 3 o→s=(ix o 0).toNat→t<2121→I0 rN o 0 0 (I4 t)→Ig rN o 1→o.length=3→HW rN s=true:=fun s t o ab ae aF ba bP bQ =>
  Tr.2 ⟨o,ab,0,by omega,ae,by
   unfold C9;rw [sn,decide_eq_true_eq,decide_eq_true_eq]
   exact ⟨bP,t,aF,ba⟩⟩
 have de:HW rN 0=true:=af 0 1018 [0,1,2] (by decide) (by decide) (by decide) (by decide +kernel) (by decide +kernel) rfl;have bm:HW rN 1=true:=af 1 1018 [1,0,2] (by decide) (by decide) (by decide) (by decide +kernel) (by decide +kernel) rfl;have cw:HW rN 2=true:=af 2 1015 [2,0,1] (by decide) (by decide) (by decide) (by decide +kernel) (by decide +kernel) rfl;have e:LD rN=[0,1,2]:=by
  unfold LD;show List.filter (fun s:Int=>HW rN s.toNat) [0,1,2]=[0,1,2];refine List.filter_eq_self.2 fun s ah=>?_;simp only [sx,List.not_mem_nil,or_false] at ah;rcases ah with rfl | rfl | rfl
  ·exact de
  ·exact bm
  ·exact cw
 rw [afZ (by decide),e,if_pos (by decide +kernel)]
theorem afu:Li [0,2,1] [0,2,1]=some true:=by decide +kernel
theorem Xm:Li [0,1,2] [0,1,2]=some true:=by decide +kernel
theorem works:Kl=some true:=by
 obtain ⟨l,ab,ae⟩:=afz;unfold Kl;simp only [Xs,Xu,Xw,rR,Kn,Ko,sa,afD,afE,afB,afC,afr,afs,aft,afv,afw,afx,afy,afA,ab,ae,afu,Xm];simp only [decide_eq_true_eq,ne_eq,not_true_eq_false,if_false,if_true]
end Go.Proofs.Ytkoioidpbbbaiaa.Ab


namespace Go.Proofs.Ytkoioidpbbbaiaa.Ab
open Go
set_option maxRecDepth 20000
set_option maxHeartbeats 1000000
abbrev adj (p:qc):I:=.agg [.av (p.1.flatMap p7) p.1.length .shared,h0 p.2.1,h0 p.2.2]
end Go.Proofs.Ytkoioidpbbbaiaa.Ab


namespace Go.Proofs.Ytkoioidpbbbaiaa.Ab
open Go
set_option maxRecDepth 20000
set_option maxHeartbeats 4000000
noncomputable def XS:gE :=
 p2 [p0 1 [.jq 0] .box,p0 2 [.cv (.bool false)] .mU] (p2 [qv 3 1 0,qf 4 3,qW 5 4,qu 6 5 10 .gtr,p1 2 6] .ret)
theorem acf:qj Try.prog Sy 10=some (XS,7,[.tmp 2]):=by kernel_rfl
def Pb (p:(qg×(Int×Int))):Option Bool :=
 some (decide ((10:Int)<(p.1.length:Int)))
theorem afM {p:(qg×(Int×Int))} {v:Bool} (h:Pb p=some v):qt 10 [(.agg [(.av (p.1.flatMap p7) p.1.length .shared),(h0 p.2.1),(h0 p.2.2)])] (B v):=by
 refine qD eG acf rfl rfl fun Q bp=>?_;have jJ:qC [.tmp 2] Q (fun v=>(B v)) v:=fun T H bE=>bp _ T H bE;unfold Pb at h;unfold XS;conv=>whnf
 exact p9 h jJ rfl rfl

end Go.Proofs.Ytkoioidpbbbaiaa.Ab


namespace Go.Proofs.Ytkoioidpbbbaiaa.Ab
open Go
set_option maxRecDepth 20000
set_option maxHeartbeats 4000000

end Go.Proofs.Ytkoioidpbbbaiaa.Ab


namespace Go.Proofs.Ytkoioidpbbbaiaa.Ab
open Go
set_option maxRecDepth 20000
set_option maxHeartbeats 4000000

end Go.Proofs.Ytkoioidpbbbaiaa.Ab


namespace Go.Proofs.Ytkoioidpbbbaiaa.Ab
open Go
set_option maxRecDepth 20000
set_option maxHeartbeats 1000000
end Go.Proofs.Ytkoioidpbbbaiaa.Ab


namespace Go.Proofs.Ytkoioidpbbbaiaa.Ab
open Go
set_option maxRecDepth 20000
set_option maxHeartbeats 4000000
noncomputable def X3:gE :=
 p2 [p0 3 [.jq 0] .box,p' 6 0,p' 7 0,p' 8 0] (.seq (p2 [p0 9 [.nc 3] (.zE (.str 3)),p3 10 1,p0 11 [.cv (.func 39 [] []),.nc 9,.nc 10] (.call 3),qu 12 11 0 .neq] (.cond (.nc 12) (p2 [p0 13 [.Bs 3] (.zE (.str 3)),p1 14 1,p0 15 [.cv (.func 39 [] []),.nc 13,.nc 14] (.call 3),p' 6 0,p' 7 0,p1 8 15] .ret) .skip)) (.seq (p2 [p3 16 2,p0 17 [.nc 3] (.yM 1),qv 18 17 0,qf 19 18,qs 20 16 19 .lss,p1 21 20,cl 22 [.nc 2] 21 false .mU,cl 23 [.nc 3] 21 false (.yM 1),cl 24 [.Bs 23] 21 false (.yM 1),cl 25 [.Bs 24] 21 false (.zE .one),cl 26 [.Bs 22,.Bs 25] 21 false (.bin .gtr),p0 27 [.Bs 21,.cv (.bool true),.Bs 26] .pick] (.cond (.nc 27) (p2 [p' 6 0,p' 7 0,p' 8 3] .ret) .skip)) (.seq (qT [p0 28 [.nc 3] (.zE (.str 3)),p3 29 1,p3 30 2,p0 31 [.cv (.func 40 [] []),.nc 28,.nc 29,.nc 30,.cv (.int .i64 0)] (.call 3),p0 32 [.nc 3] (.zE (.str 3)),p3 33 1,p3 34 2,p0 35 [.cv (.func 40 [] []),.nc 32,.nc 33,.nc 34,.cv (.int .i64 1)] (.call 3),p1 6 31,p1 7 35,p' 8 0]) .ret)))
theorem acr:qj Try.prog SD 13=some (X3,36,[.tmp 6,.tmp 7,.tmp 8]):=by kernel_rfl
def NJ (p:(qg×(Int×Int))) (order:qk) (qL:Int):Option (Int×Int×Int) :=
 (JC p order).bind fun aS =>
 if (decide (aS≠(0:Int)))=true then
  (JC p order).bind fun bj =>
  some ((0:Int),(0:Int),bj)
 else
  if (decide (qL<p.2.1))=true then
   some ((0:Int),(0:Int),(3:Int))
  else
   if (decide (p.2.2<qL))=true then
    some ((0:Int),(0:Int),(3:Int))
   else
    (Jr p order qL (0:Int)).bind fun eK =>
    (Jr p order qL (1:Int)).bind fun Hv =>
    some (eK,Hv,(0:Int))
theorem afW {p:(qg×(Int×Int))} {order:qk} {qL:Int} {v:(Int×Int×Int)} (h:NJ p order qL=some v):qt 13 [(.agg [(.av (p.1.flatMap p7) p.1.length .shared),(h0 p.2.1),(h0 p.2.2)]),(.av (order.map h0) order.length .shared),(h0 qL)] (.tuple [(h0 v.1),(h0 v.2.1),(h0 v.2.2)]):=by
 refine qD eG acr rfl (IL (p4 rfl (p4 rfl (p4 rfl rfl)))) fun Q bp=>?_;have jJ:qC [.tmp 6,.tmp 7,.tmp 8] Q (fun v=>(.tuple [(h0 v.1),(h0 v.2.1),(h0 v.2.2)])) v:=fun T H bE=>bp _ T H bE;unfold NJ at h;unfold X3;conv=>whnf
 obtain ⟨aS,gM,h⟩:=p8 h;refine ⟨qd.pl,_,Mz gM,?_⟩;conv=>whnf
 refine bs h (fun gN h=>?_) fun gN h=>?_
 ·rw [gN];conv=>whnf
  obtain ⟨bj,qp,h⟩:=p8 h;refine ⟨qd.pl,_,Mz qp,?_⟩;conv=>whnf
  exact p9 h jJ rfl rfl
 ·rw [gN];conv=>whnf
  refine bs h (fun qE h=>?_) fun qE h=>?_
  ·rw [qE];(conv=>whnf);exact p9 h jJ rfl rfl
  ·rw [qE];(conv=>whnf);refine bs h (fun qX h=>?_) fun qX h=>?_
   ·rw [qX];(conv=>whnf);exact p9 h jJ rfl rfl
   ·rw [qX];(conv=>whnf);obtain ⟨eK,rG,h⟩:=p8 h;refine ⟨qd.pl,_,Pm rG,q',?_⟩;(conv=>whnf);obtain ⟨Hv,qR,h⟩:=p8 h;refine ⟨qd.pl,_,Pm qR,(PQ (fun _ e=>by simp at e) q'),?_⟩;(conv=>whnf);exact p9 h jJ rfl rfl

noncomputable def X4:gE :=
 p2 [p0 2 [.jq 0] .box,p' 4 0,p' 5 0] (.seq (p2 [p0 6 [.nc 2] (.zE (.str 3)),p3 7 1,p0 8 [.cv (.func 39 [] []),.nc 6,.nc 7] (.call 3),qu 9 8 0 .neq] (.cond (.nc 9) (p2 [p0 10 [.Bs 2] (.zE (.str 3)),p1 11 1,p0 12 [.cv (.func 39 [] []),.nc 10,.nc 11] (.call 3),p' 4 0,p1 5 12] .ret) .skip)) (p2 [p0 13 [.Bs 2] (.zE (.str 3)),p1 14 1,p0 15 [.cv (.func 42 [] []),.nc 13,.nc 14] (.call 3),p1 4 15,p' 5 0] .ret))
theorem acs:qj Try.prog SF 15=some (X4,16,[.tmp 4,.tmp 5]):=by kernel_rfl
def NK (p:(qg×(Int×Int))) (order:qk):Option (Int×Int) :=
 (JC p order).bind fun aS =>
 if (decide (aS≠(0:Int)))=true then
  (JC p order).bind fun bj =>
  some ((0:Int),bj)
 else
  (Ll p order).bind fun eK =>
  some (eK,(0:Int))
theorem afY {p:(qg×(Int×Int))} {order:qk} {v:(Int×Int)} (h:NK p order=some v):qt 15 [(.agg [(.av (p.1.flatMap p7) p.1.length .shared),(h0 p.2.1),(h0 p.2.2)]),(.av (order.map h0) order.length .shared)] (.tuple [(h0 v.1),(h0 v.2)]):=by
 refine qD eG acs rfl (IL (p4 rfl (p4 rfl rfl))) fun Q bp=>?_;have jJ:qC [.tmp 4,.tmp 5] Q (fun v=>(.tuple [(h0 v.1),(h0 v.2)])) v:=fun T H bE=>bp _ T H bE;unfold NK at h;unfold X4;conv=>whnf
 obtain ⟨aS,gM,h⟩:=p8 h;refine ⟨qd.pl,_,Mz gM,?_⟩;conv=>whnf
 refine bs h (fun gN h=>?_) fun gN h=>?_
 ·rw [gN];conv=>whnf
  obtain ⟨bj,qp,h⟩:=p8 h;refine ⟨qd.pl,_,Mz qp,?_⟩;conv=>whnf
  exact p9 h jJ rfl rfl
 ·rw [gN];conv=>whnf
  obtain ⟨eK,qE,h⟩:=p8 h;refine ⟨qd.pl,_,Xz qE,?_⟩;conv=>whnf
  exact p9 h jJ rfl rfl

noncomputable def X0:gE :=
 p2 [p0 3 [.jq 0] .box,p0 6 [.cv (.bool false)] .mU] (.seq (p2 [p0 17 [.nc 3] (.zE (.str 3)),p0 18 [.cv (.func 10 [] []),.nc 17] (.call 3),p1 19 18,cl 20 [.nc 1] 19 false .mU,cl 21 [.jq 20] 19 false .zJ,cl 22 [.Bs 21,.cv (.int .i64 10)] 19 false (.bin .gtr),p0 23 [.Bs 19,.cv (.bool true),.Bs 22] .pick] (.cond (.nc 23) (p2 [p0 24 [.cv (.func 11 [] [])] (.call 3),p1 6 24] .ret) .skip)) (p2 [p0 26 [.nc 3] (.zE (.str 3)),p3 27 1,p3 28 2,p0 29 [.cv (.func 12 [] []),.nc 26,.nc 27,.nc 28] (.call 3),p1 25 29,qo 30 25 0,qo 31 25 1,p0 32 [.Bs 25] (.ext 2),p1 7 30,p1 8 31,p1 9 32] (p2 [p0 34 [.nc 3] (.zE (.str 3)),p3 35 1,p1 36 2,p0 37 [.cv (.func 13 [] []),.nc 34,.nc 35,.nc 36] (.call 3),p1 33 37,qo 38 33 0,qo 39 33 1,p0 40 [.Bs 33] (.ext 2),p1 10 38,p1 11 39,p1 12 40] (p2 [p0 42 [.nc 3] (.zE (.str 3)),p3 43 1,p0 44 [.cv (.func 14 [] []),.nc 42,.nc 43] (.call 3),p1 41 44,qo 45 41 0,p0 46 [.Bs 41] (.ext 1),p1 13 45,p1 14 46] (p2 [p0 48 [.nc 3] (.zE (.str 3)),p1 49 1,p0 50 [.cv (.func 15 [] []),.nc 48,.nc 49] (.call 3),p1 47 50,qo 51 47 0,p0 52 [.Bs 47] (.ext 1),p1 15 51,p1 16 52] (.seq (qT [p0 53 [.nc 3] (.zE (.str 3)),p0 54 [.cv (.func 16 [] []),.nc 53] (.call 3),p0 55 [.nc 3] (.zE (.str 3)),p0 56 [.cv (.func 17 [] []),.nc 55] (.call 3),qs 57 54 56 .eql,p1 58 57,cl 59 [.jq 7] 58 true .mU,cl 60 [.jq 10] 58 true .mU,cl 61 [.Bs 59,.Bs 60] 58 true (.bin .eql),p0 62 [.nc 58,.Bs 61,.cv (.bool false)] .pick,p1 63 62,cl 64 [.jq 8] 63 true .mU,cl 65 [.jq 11] 63 true .mU,cl 66 [.Bs 64,.Bs 65] 63 true (.bin .eql),p0 67 [.nc 63,.Bs 66,.cv (.bool false)] .pick,p1 68 67,cl 69 [.jq 9] 68 true .mU,cl 70 [.jq 12] 68 true .mU,cl 71 [.Bs 69,.Bs 70] 68 true (.bin .eql),p0 72 [.nc 68,.Bs 71,.cv (.bool false)] .pick,p1 73 72,cl 74 [.jq 13] 73 true .mU,cl 75 [.jq 15] 73 true .mU,cl 76 [.Bs 74,.Bs 75] 73 true (.bin .eql),p0 77 [.nc 73,.Bs 76,.cv (.bool false)] .pick,p1 78 77,cl 79 [.jq 14] 78 true .mU,cl 80 [.jq 16] 78 true .mU,cl 81 [.Bs 79,.Bs 80] 78 true (.bin .eql),p0 82 [.nc 78,.Bs 81,.cv (.bool false)] .pick,p1 83 82,⟨some 84,[.cv (.func 11 [] [])],some (83,true),none,.call 3⟩,p0 85 [.nc 83,.Bs 84,.cv (.bool false)] .pick,p1 6 85]) .ret))))))
theorem aco:qj Try.prog SK 3=some (X0,86,[.tmp 6]):=by kernel_rfl
def Pf (p:(qg×(Int×Int))) (order:qk) (qL:Int):Option Bool :=
 (Pb p).bind fun aS =>
 if aS=true then
  (Kl).bind fun bj =>
  some bj
 else
  if (decide ((10:Int)<(order.length:Int)))=true then
   (Kl).bind fun eK =>
   some eK
  else
   (IA p order qL).bind fun Hv =>
   (NJ p order qL).bind fun HN =>
   (Im p order).bind fun Iy =>
   (NK p order).bind fun Jh =>
   (Kv p).bind fun Kg =>
   (Ln p).bind fun JA =>
   if (decide (Kg=JA))=true then
    if (decide (Hv.1=HN.1))=true then
     if (decide (Hv.2.1=HN.2.1))=true then
      if (decide (Hv.2.2=HN.2.2))=true then
       if (decide (Iy.1=Jh.1))=true then
        if (decide (Iy.2=Jh.2))=true then
         (Kl).bind fun Kf =>
         some Kf
        else
         some false
       else
        some false
      else
       some false
     else
      some false
    else
     some false
   else
    some false
theorem afO {p:(qg×(Int×Int))} {order:qk} {qL:Int} {v:Bool} (h:Pf p order qL=some v):qt 3 [(.agg [(.av (p.1.flatMap p7) p.1.length .shared),(h0 p.2.1),(h0 p.2.2)]),(.av (order.map h0) order.length .shared),(h0 qL)] (B v):=by
 refine qD eG aco rfl rfl fun Q bp=>?_;have jJ:qC [.tmp 6] Q (fun v=>(B v)) v:=fun T H bE=>bp _ T H bE;unfold Pf at h;unfold X0;conv=>whnf
 obtain ⟨aS,gM,h⟩:=p8 h;refine ⟨qd.pl,_,afM gM,?_⟩;conv=>whnf
 cases aS
 ·conv=>whnf
  replace h:=Ho rfl h;refine bs h (fun qp h=>?_) fun qp h=>?_
  ·rw [qp];(conv=>whnf);obtain ⟨eK,qE,h⟩:=p8 h;refine ⟨rfl,_,Pe qE,?_⟩;(conv=>whnf);exact p9 h jJ rfl rfl
  ·rw [qp];(conv=>whnf);obtain ⟨Hv,qX,h⟩:=p8 h;refine ⟨qd.pl,_,NL qX,?_⟩;(conv=>whnf);obtain ⟨HN,rG,h⟩:=p8 h;refine ⟨qd.pl,_,afW rG,?_⟩;(conv=>whnf);obtain ⟨Iy,qR,h⟩:=p8 h;refine ⟨qd.pl,_,Mv qR,?_⟩;(conv=>whnf);obtain ⟨Jh,rU,h⟩:=p8 h;refine ⟨qd.pl,_,afY rU,?_⟩;(conv=>whnf);obtain ⟨Kg,rJ,h⟩:=p8 h;refine ⟨qd.pl,_,Lt rJ,q',?_⟩;(conv=>whnf);obtain ⟨JA,rW,h⟩:=p8 h;refine ⟨qd.pl,_,R5 rW,rC rfl,?_⟩;(conv=>whnf);refine bs h (fun Ja h=>?_) fun Ja h=>?_
   ·rw [Ja];(conv=>whnf);refine bs h (fun Jb h=>?_) fun Jb h=>?_
    ·rw [Jb];(conv=>whnf);refine bs h (fun JK h=>?_) fun JK h=>?_
     ·rw [JK];(conv=>whnf);refine bs h (fun JL h=>?_) fun JL h=>?_
      ·rw [JL];(conv=>whnf);refine bs h (fun Jc h=>?_) fun Jc h=>?_
       ·rw [Jc];(conv=>whnf);refine bs h (fun KI h=>?_) fun KI h=>?_
        ·rw [KI];(conv=>whnf);obtain ⟨Kf,MQ,h⟩:=p8 h;refine ⟨rfl,_,Pe MQ,rC rfl,?_⟩;(conv=>whnf);exact p9 h jJ rfl rfl
        ·rw [KI];(conv=>whnf);exact p9 h jJ rfl rfl
       ·rw [Jc];(conv=>whnf);exact p9 h jJ rfl rfl
      ·rw [JL];(conv=>whnf);exact p9 h jJ rfl rfl
     ·rw [JK];(conv=>whnf);exact p9 h jJ rfl rfl
    ·rw [Jb];(conv=>whnf);exact p9 h jJ rfl rfl
   ·rw [Ja];(conv=>whnf);exact p9 h jJ rfl rfl
 ·conv=>whnf
  replace h:=Hp rfl h;obtain ⟨bj,gN,h⟩:=p8 h;refine ⟨rfl,_,Pe gN,?_⟩;conv=>whnf
  exact p9 h jJ rfl rfl
end Go.Proofs.Ytkoioidpbbbaiaa.Ab


namespace Go.Proofs.Ytkoioidpbbbaiaa.Ab
open Go
set_option maxRecDepth 100000
set_option maxHeartbeats 4000000
noncomputable def X1:gE :=
 p2 [p0 0 [.cv (.bool false)] .mU] (p2 [p0 30 [.cv (.func 29 [] [])] (.call 3),p0 31 [.cv (.func 30 [] [])] (.call 3),p0 32 [.cv (.func 31 [] [])] (.call 3),p0 1 [] (.alloc [.av [] 0 .full,.int .i64 0,.int .i64 0]),p0 2 [] (.alloc [.av [] 0 .full,.int .i64 0,.int .i64 0]),p0 3 [] (.alloc [.av [] 0 .full,.int .i64 0,.int .i64 0]),⟨none,[.nc 1,.jq 30],none,none,.st 3⟩,⟨none,[.nc 2,.jq 31],none,none,.st 3⟩,⟨none,[.nc 3,.jq 32],none,none,.st 3⟩] (.seq (qT [p0 34 [.nc 1] (.zE (.str 3)),p0 35 [.cv (.int .i64 1),.cv (.int .i64 0),.cv (.int .i64 2)] (.yB 3 1 [.int .i64 0] [0,1,2]),p0 36 [.cv (.func 28 [] []),.nc 35] (.call 3),p0 37 [.cv (.func 12 [] []),.nc 34,.nc 36,.cv (.int .i64 4)] (.call 3),p1 33 37,qo 38 33 0,qo 39 33 1,qo 40 33 2,p1 4 38,p1 5 39,p1 6 40]) (.seq (qT [p0 42 [.nc 1] (.zE (.str 3)),p0 43 [.cv (.int .i64 0),.cv (.int .i64 1),.cv (.int .i64 2)] (.yB 3 1 [.int .i64 0] [0,1,2]),p0 44 [.cv (.func 28 [] []),.nc 43] (.call 3),p0 45 [.cv (.func 12 [] []),.nc 42,.nc 44,.cv (.int .i64 4)] (.call 3),p1 41 45,qo 46 41 0,qo 47 41 1,qo 48 41 2,p1 7 46,p1 8 47,p1 9 48]) (.seq (qT [p0 50 [.nc 2] (.zE (.str 3)),p0 51 [.cv (.int .i64 0),.cv (.int .i64 2),.cv (.int .i64 1)] (.yB 3 1 [.int .i64 0] [0,1,2]),p0 52 [.cv (.func 28 [] []),.nc 51] (.call 3),p0 53 [.cv (.func 14 [] []),.nc 50,.nc 52] (.call 3),p1 49 53,qo 54 49 0,qo 55 49 1,p1 10 54,p1 11 55]) (.seq (qT [p0 57 [.nc 3] (.zE (.str 3)),p0 58 [.cv (.int .i64 1),.cv (.int .i64 0),.cv (.int .i64 2),.cv (.int .i64 3),.cv (.int .i64 4)] (.yB 5 1 [.int .i64 0] [0,1,2,3,4]),p0 59 [.cv (.func 28 [] []),.nc 58] (.call 3),p0 60 [.cv (.func 14 [] []),.nc 57,.nc 59] (.call 3),p1 56 60,qo 61 56 0,qo 62 56 1,p1 12 61,p1 13 62]) (p2 [p0 64 [.nc 1] (.zE (.str 3)),p0 65 [.cv (.func 32 [] []),.nc 64] (.call 3),p1 63 65,qo 66 63 0,p0 67 [.Bs 63] (.ext 1),p1 14 66,p1 15 67] (p2 [p0 69 [.nc 1] (.zE (.str 3)),p0 70 [.cv (.func 33 [] []),.nc 69] (.call 3),p1 68 70,qo 71 68 0,p0 72 [.Bs 68] (.ext 1),p1 16 71,p1 17 72] (p2 [p0 74 [.nc 1] (.zE (.str 3)),p0 75 [.cv (.func 20 [] []),.nc 74] (.call 3),p1 73 75,qo 76 73 0,p0 77 [.Bs 73] (.ext 1),p1 18 76,p1 19 77] (p2 [p0 79 [.nc 2] (.zE (.str 3)),p0 80 [.cv (.func 20 [] []),.nc 79] (.call 3),p1 78 80,qo 81 78 0,p0 82 [.Bs 78] (.ext 1),p1 20 81,p1 21 82] (.seq (qT [p0 84 [.nc 2] (.zE (.str 3)),p0 85 [.cv (.int .i64 0),.cv (.int .i64 2),.cv (.int .i64 1)] (.yB 3 1 [.int .i64 0] [0,1,2]),p0 86 [.cv (.func 28 [] []),.nc 85] (.call 3),p0 87 [.cv (.func 35 [] []),.cv (.int .i64 1),.cv (.int .i64 3),.cv (.int .i64 0)] (.call 3),p0 88 [.Bs 87] (.yB 1 3 [.int .i64 0,.int .i64 0,.int .i64 0] [0]),p0 89 [.cv (.func 34 [] []),.nc 88] (.call 3),p0 90 [.cv (.func 23 [] []),.nc 84,.nc 86,.nc 89] (.call 3),p1 83 90,qo 91 83 0,qo 92 83 1,p1 22 91,p1 23 92]) (.seq (qT [p0 94 [.nc 2] (.zE (.str 3)),p0 95 [.cv (.int .i64 0),.cv (.int .i64 2),.cv (.int .i64 1)] (.yB 3 1 [.int .i64 0] [0,1,2]),p0 96 [.cv (.func 28 [] []),.nc 95] (.call 3),p0 97 [.cv (.func 23 [] []),.nc 94,.nc 96,.cv (.av [] 0 .full)] (.call 3),p1 93 97,qo 98 93 0,qo 99 93 1,p1 24 98,p1 25 99]) (.seq (qT [p0 101 [.Bs 2] (.zE (.str 3)),p0 102 [.cv (.int .i64 0),.cv (.int .i64 2),.cv (.int .i64 1)] (.yB 3 1 [.int .i64 0] [0,1,2]),p0 103 [.cv (.func 28 [] []),.nc 102] (.call 3),p0 104 [.cv (.func 21 [] []),.nc 101,.nc 103] (.call 3),p1 100 104,qo 105 100 0,qo 106 100 1,p1 26 105,p1 27 106]) (.seq (qT [p0 108 [.Bs 1] (.zE (.str 3)),p0 109 [.cv (.int .i64 0),.cv (.int .i64 1),.cv (.int .i64 2)] (.yB 3 1 [.int .i64 0] [0,1,2]),p0 110 [.cv (.func 28 [] []),.nc 109] (.call 3),p0 111 [.cv (.func 21 [] []),.nc 108,.nc 110] (.call 3),p1 107 111,qo 112 107 0,qo 113 107 1,p1 28 112,p1 29 113]) (p2 [p1 114 6,qu 115 114 0 .eql,p1 116 115,cl 117 [.jq 4] 116 true .mU,cl 118 [.Bs 117,.cv (.int .i64 9)] 116 true (.bin .eql),p0 119 [.Bs 116,.Bs 118,.cv (.bool false)] .pick,p1 120 119,cl 121 [.jq 5] 120 true .mU,cl 122 [.Bs 121,.cv (.int .i64 0)] 120 true (.bin .eql),p0 123 [.Bs 120,.Bs 122,.cv (.bool false)] .pick,p1 124 123,cl 125 [.jq 9] 124 true .mU,cl 126 [.Bs 125,.cv (.int .i64 0)] 124 true (.bin .eql),p0 127 [.Bs 124,.Bs 126,.cv (.bool false)] .pick,p1 128 127,cl 129 [.jq 7] 128 true .mU,cl 130 [.Bs 129,.cv (.int .i64 0)] 128 true (.bin .eql),p0 131 [.Bs 128,.Bs 130,.cv (.bool false)] .pick,p1 132 131,cl 133 [.jq 8] 132 true .mU,cl 134 [.Bs 133,.cv (.int .i64 0)] 132 true (.bin .eql),p0 135 [.Bs 132,.Bs 134,.cv (.bool false)] .pick,p1 136 135,cl 137 [.jq 11] 136 true .mU,cl 138 [.Bs 137,.cv (.int .i64 0)] 136 true (.bin .eql),p0 139 [.Bs 136,.Bs 138,.cv (.bool false)] .pick,p1 140 139,cl 141 [.jq 10] 140 true .mU,cl 142 [.Bs 141,.cv (.int .i64 2)] 140 true (.bin .eql),p0 143 [.Bs 140,.Bs 142,.cv (.bool false)] .pick,p1 144 143,cl 145 [.jq 13] 144 true .mU,cl 146 [.Bs 145,.cv (.int .i64 0)] 144 true (.bin .eql),p0 147 [.Bs 144,.Bs 146,.cv (.bool false)] .pick,p1 148 147,cl 149 [.jq 12] 148 true .mU,cl 150 [.Bs 149,.cv (.int .i64 4)] 148 true (.bin .eql),p0 151 [.Bs 148,.Bs 150,.cv (.bool false)] .pick,p1 152 151,cl 153 [.jq 15] 152 true .mU,cl 154 [.Bs 153,.cv (.int .i64 0)] 152 true (.bin .eql),p0 155 [.Bs 152,.Bs 154,.cv (.bool false)] .pick,p1 156 155,cl 157 [.jq 14] 156 true .mU,cl 158 [.Bs 157,.cv (.int .i64 0)] 156 true (.bin .eql),p0 159 [.Bs 156,.Bs 158,.cv (.bool false)] .pick,p1 160 159,cl 161 [.jq 17] 160 true .mU,cl 162 [.Bs 161,.cv (.int .i64 0)] 160 true (.bin .eql),p0 163 [.Bs 160,.Bs 162,.cv (.bool false)] .pick,p1 164 163,cl 165 [.jq 16] 164 true .mU,⟨some 166,[.cv (.int .i64 0),.cv (.int .i64 1),.cv (.int .i64 2)],some (164,true),none,.yB 3 1 [.int .i64 0] [0,1,2]⟩,⟨some 167,[.cv (.func 28 [] []),.nc 166],some (164,true),none,.call 3⟩,⟨some 168,[.cv (.func 27 [] []),.nc 165,.nc 167],some (164,true),none,.call 3⟩,p0 169 [.Bs 164,.Bs 168,.cv (.bool false)] .pick,p1 170 169,cl 171 [.jq 19] 170 true .mU,cl 172 [.Bs 171,.cv (.int .i64 0)] 170 true (.bin .eql),p0 173 [.Bs 170,.Bs 172,.cv (.bool false)] .pick,p1 174 173,cl 175 [.jq 18] 174 true .mU,cl 176 [.Bs 175,.cv (.int .i64 2)] 174 true (.bin .eql),p0 177 [.Bs 174,.Bs 176,.cv (.bool false)] .pick,p1 178 177,cl 179 [.jq 21] 178 true .mU,cl 180 [.Bs 179,.cv (.int .i64 0)] 178 true (.bin .eql),p0 181 [.Bs 178,.Bs 180,.cv (.bool false)] .pick,p1 182 181,cl 183 [.jq 20] 182 true .mU,cl 184 [.Bs 183,.cv (.int .i64 0)] 182 true (.bin .eql),p0 185 [.Bs 182,.Bs 184,.cv (.bool false)] .pick,p1 186 185,cl 187 [.jq 23] 186 true .mU,cl 188 [.Bs 187,.cv (.int .i64 0)] 186 true (.bin .eql),p0 189 [.Bs 186,.Bs 188,.cv (.bool false)] .pick,p1 190 189,cl 191 [.jq 22] 190 true .mU,cl 192 [.Bs 191,.cv (.int .i64 1)] 190 true (.bin .eql),p0 193 [.Bs 190,.Bs 192,.cv (.bool false)] .pick,p1 194 193,cl 195 [.jq 25] 194 true .mU,cl 196 [.Bs 195,.cv (.int .i64 23)] 194 true (.bin .eql),p0 197 [.Bs 194,.Bs 196,.cv (.bool false)] .pick,p1 198 197,cl 199 [.jq 27] 198 true .mU,cl 200 [.Bs 199,.cv (.int .i64 0)] 198 true (.bin .eql),p0 201 [.Bs 198,.Bs 200,.cv (.bool false)] .pick,p1 202 201,cl 203 [.jq 26] 202 true .mU,cl 204 [.Bs 203,.cv (.int .i64 1)] 202 true (.bin .eql),p0 205 [.Bs 202,.Bs 204,.cv (.bool false)] .pick,p1 206 205,cl 207 [.jq 29] 206 true .mU,cl 208 [.Bs 207,.cv (.int .i64 0)] 206 true (.bin .eql),p0 209 [.Bs 206,.Bs 208,.cv (.bool false)] .pick,p1 210 209,cl 211 [.jq 28] 210 true .mU,cl 212 [.Bs 211,.cv (.int .i64 0)] 210 true (.bin .eql),p0 213 [.Bs 210,.Bs 212,.cv (.bool false)] .pick,p1 214 213,cl 215 [.Bs 3] 214 true (.zE (.str 3)),⟨some 216,[.cv (.func 16 [] []),.nc 215],some (214,true),none,.call 3⟩,cl 217 [.Bs 216,.cv (.int .i64 0)] 214 true (.bin .eql),p0 218 [.Bs 214,.Bs 217,.cv (.bool false)] .pick,p1 219 218,⟨some 220,[.cv (.func 11 [] [])],some (219,true),none,.call 3⟩,p0 221 [.Bs 219,.Bs 220,.cv (.bool false)] .pick,p1 0 221] .ret))))))))))))))
theorem acp:qj Try.prog Tk 9=some (X1,222,[.tmp 0]):=by kernel_rfl
def Pg  : Option Bool :=
 (NM).bind fun aS =>
 (NN).bind fun bj =>
 (NP).bind fun eK =>
 (rR [(1:Int),(0:Int),(2:Int)]).bind fun Hv =>
 (IA aS Hv (4:Int)).bind fun HN =>
 (rR [(0:Int),(1:Int),(2:Int)]).bind fun Iy =>
 (IA aS Iy (4:Int)).bind fun Jh =>
 (rR [(0:Int),(2:Int),(1:Int)]).bind fun Kg =>
 (Im bj Kg).bind fun JA =>
 (rR [(1:Int),(0:Int),(2:Int),(3:Int),(4:Int)]).bind fun Kf =>
 (Im eK Kf).bind fun L_ =>
 (Km aS).bind fun K6 =>
 (JW aS).bind fun K7 =>
 (JB aS).bind fun K8 =>
 (JB bj).bind fun L' =>
 (rR [(0:Int),(2:Int),(1:Int)]).bind fun Na =>
 (Ko (1:Int) (3:Int) (0:Int)).bind fun Nb =>
 (Kn [Nb]).bind fun Ma =>
 (Iz bj Na Ma).bind fun Mb =>
 (rR [(0:Int),(2:Int),(1:Int)]).bind fun Nc =>
 (Iz bj Nc []).bind fun Nd =>
 (rR [(0:Int),(2:Int),(1:Int)]).bind fun Nf =>
 (Jq bj Nf).bind fun Mc =>
 (rR [(0:Int),(1:Int),(2:Int)]).bind fun Ng =>
 (Jq aS Ng).bind fun Md =>
 if (decide (HN.2.2=(0:Int)))=true then
  if (decide (HN.1=(9:Int)))=true then
   if (decide (HN.2.1=(0:Int)))=true then
    if (decide (Jh.2.2=(0:Int)))=true then
     if (decide (Jh.1=(0:Int)))=true then
      if (decide (Jh.2.1=(0:Int)))=true then
       if (decide (JA.2=(0:Int)))=true then
        if (decide (JA.1=(2:Int)))=true then
         if (decide (L_.2=(0:Int)))=true then
          if (decide (L_.1=(4:Int)))=true then
           if (decide (K6.2=(0:Int)))=true then
            if (decide (K6.1=(0:Int)))=true then
             if (decide (K7.2=(0:Int)))=true then
              (rR [(0:Int),(1:Int),(2:Int)]).bind fun Nh =>
              (Li K7.1 Nh).bind fun Me =>
              if Me=true then
               if (decide (K8.2=(0:Int)))=true then
                if (decide (K8.1=(2:Int)))=true then
                 if (decide (L'.2=(0:Int)))=true then
                  if (decide (L'.1=(0:Int)))=true then
                   if (decide (Mb.2=(0:Int)))=true then
                    if (decide (Mb.1=(1:Int)))=true then
                     if (decide (Nd.2=(23:Int)))=true then
                      if (decide (Mc.2=(0:Int)))=true then
                       if (decide (Mc.1=(1:Int)))=true then
                        if (decide (Md.2=(0:Int)))=true then
                         if (decide (Md.1=(0:Int)))=true then
                          (Kv eK).bind fun Mf =>
                          if (decide (Mf=(0:Int)))=true then
                           (Kl).bind fun Ni =>
                           some Ni
                          else
                           some false
                         else
                          some false
                        else
                         some false
                       else
                        some false
                      else
                       some false
                     else
                      some false
                    else
                     some false
                   else
                    some false
                  else
                   some false
                 else
                  some false
                else
                 some false
               else
                some false
              else
               some false
             else
              some false
            else
             some false
           else
            some false
          else
           some false
         else
          some false
        else
         some false
       else
        some false
      else
       some false
     else
      some false
    else
     some false
   else
    some false
  else
   some false
 else
  some false
theorem afQ  {v:Bool} (h:Pg  = some v):qt 9 [] (B v):=by
 refine qD eG acp rfl rfl fun Q bp=>?_;have jJ:qC [.tmp 0] Q (fun v=>(B v)) v:=fun T H bE=>bp _ T H bE;unfold Pg at h;unfold X1;conv=>whnf
 obtain ⟨aS,gM,h⟩:=p8 h;refine ⟨rfl,_,Xt gM,?_⟩;conv=>whnf
 obtain ⟨bj,gN,h⟩:=p8 h;refine ⟨rfl,_,Xv gN,?_⟩;conv=>whnf
 obtain ⟨eK,qp,h⟩:=p8 h;refine ⟨rfl,_,Xx qp,?_⟩;conv=>whnf
 obtain ⟨Hv,qE,h⟩:=p8 h;refine ⟨(p4 rfl rfl),_,Hw qE,q',?_⟩;conv=>whnf
 obtain ⟨HN,qX,h⟩:=p8 h;refine ⟨qd.pl,_,NL qX,rC rfl,?_⟩;conv=>whnf
 obtain ⟨Iy,rG,h⟩:=p8 h;refine ⟨(p4 rfl rfl),_,Hw rG,q',?_⟩;conv=>whnf
 obtain ⟨Jh,qR,h⟩:=p8 h;refine ⟨qd.pl,_,NL qR,rC rfl,?_⟩;conv=>whnf
 obtain ⟨Kg,rU,h⟩:=p8 h;refine ⟨(p4 rfl rfl),_,Hw rU,q',?_⟩;conv=>whnf
 obtain ⟨JA,rJ,h⟩:=p8 h;refine ⟨qd.pl,_,Mv rJ,rC rfl,?_⟩;conv=>whnf
 obtain ⟨Kf,rW,h⟩:=p8 h;refine ⟨(p4 rfl rfl),_,Hw rW,q',?_⟩;conv=>whnf
 obtain ⟨L_,Ja,h⟩:=p8 h;refine ⟨qd.pl,_,Mv Ja,rC rfl,?_⟩;conv=>whnf
 obtain ⟨K6,Jb,h⟩:=p8 h;refine ⟨qd.pl,_,Xq Jb,?_⟩;conv=>whnf
 obtain ⟨K7,JK,h⟩:=p8 h;refine ⟨qd.pl,_,RX JK,?_⟩;conv=>whnf
 obtain ⟨K8,JL,h⟩:=p8 h;refine ⟨qd.pl,_,RZ JL,?_⟩;conv=>whnf
 obtain ⟨L',Jc,h⟩:=p8 h;refine ⟨qd.pl,_,RZ Jc,?_⟩;conv=>whnf
 obtain ⟨Na,KI,h⟩:=p8 h;refine ⟨(p4 rfl rfl),_,Hw KI,q',?_⟩;conv=>whnf
 obtain ⟨Nb,MQ,h⟩:=p8 h;refine ⟨(p4 rfl (p4 rfl (p4 rfl rfl))),_,Pk MQ,rC rfl,?_⟩;conv=>whnf
 obtain ⟨Ma,Qt,h⟩:=p8 h;refine ⟨(p4 rfl rfl),_,Pj Qt,rC rfl,?_⟩;conv=>whnf
 obtain ⟨Mb,Qu,h⟩:=p8 h;refine ⟨qd.pl,_,NI Qu,rC rfl,?_⟩;conv=>whnf
 obtain ⟨Nc,Qv,h⟩:=p8 h;refine ⟨(p4 rfl rfl),_,Hw Qv,q',?_⟩;conv=>whnf
 obtain ⟨Nd,Qw,h⟩:=p8 h;refine ⟨qd.pl,_,NI Qw,rC rfl,?_⟩;conv=>whnf
 obtain ⟨Nf,Qx,h⟩:=p8 h;refine ⟨(p4 rfl rfl),_,Hw Qx,q',?_⟩;conv=>whnf
 obtain ⟨Mc,Qy,h⟩:=p8 h;refine ⟨qd.pl,_,R1 Qy,rC rfl,?_⟩;conv=>whnf
 obtain ⟨Ng,Qz,h⟩:=p8 h;refine ⟨(p4 rfl rfl),_,Hw Qz,q',?_⟩;conv=>whnf
 obtain ⟨Md,QA,h⟩:=p8 h;refine ⟨qd.pl,_,R1 QA,rC rfl,?_⟩;conv=>whnf
 refine bs h (fun MR h=>?_) fun MR h=>?_
 ·rw [MR];conv=>whnf
  refine bs h (fun MS h=>?_) fun MS h=>?_
  ·rw [MS];(conv=>whnf);refine bs h (fun MT h=>?_) fun MT h=>?_
   ·rw [MT];(conv=>whnf);refine bs h (fun MU h=>?_) fun MU h=>?_
    ·rw [MU];(conv=>whnf);refine bs h (fun MV h=>?_) fun MV h=>?_
     ·rw [MV];(conv=>whnf);refine bs h (fun MW h=>?_) fun MW h=>?_
      ·rw [MW];(conv=>whnf);refine bs h (fun KJ h=>?_) fun KJ h=>?_
       ·rw [KJ];(conv=>whnf);refine bs h (fun KK h=>?_) fun KK h=>?_
        ·rw [KK];(conv=>whnf);refine bs h (fun KL h=>?_) fun KL h=>?_
         ·rw [KL];(conv=>whnf);refine bs h (fun KM h=>?_) fun KM h=>?_
          ·rw [KM];(conv=>whnf);refine bs h (fun KN h=>?_) fun KN h=>?_
           ·rw [KN];(conv=>whnf);refine bs h (fun KO h=>?_) fun KO h=>?_
            ·rw [KO];(conv=>whnf);refine bs h (fun KP h=>?_) fun KP h=>?_
             ·rw [KP];(conv=>whnf);obtain ⟨Nh,MX,h⟩:=p8 h;refine ⟨(p4 rfl rfl),_,Hw MX,?_⟩;(conv=>whnf);obtain ⟨Me,MY,h⟩:=p8 h;refine ⟨qd.pl,_,R0 MY,?_⟩;(conv=>whnf);cases Me
              ·(conv=>whnf);replace h:=Ho rfl h;exact p9 h jJ rfl rfl
              ·(conv=>whnf);replace h:=Hp rfl h;refine bs h (fun KQ h=>?_) fun KQ h=>?_
               ·rw [KQ];(conv=>whnf);refine bs h (fun KR h=>?_) fun KR h=>?_
                ·rw [KR];(conv=>whnf);refine bs h (fun KS h=>?_) fun KS h=>?_
                 ·rw [KS];(conv=>whnf);refine bs h (fun KT h=>?_) fun KT h=>?_
                  ·rw [KT];(conv=>whnf);refine bs h (fun MZ h=>?_) fun MZ h=>?_
                   ·rw [MZ];(conv=>whnf);refine bs h (fun M0 h=>?_) fun M0 h=>?_
                    ·rw [M0];(conv=>whnf);refine bs h (fun KU h=>?_) fun KU h=>?_
                     ·rw [KU];(conv=>whnf);refine bs h (fun KV h=>?_) fun KV h=>?_
                      ·rw [KV];(conv=>whnf);refine bs h (fun KW h=>?_) fun KW h=>?_
                       ·rw [KW];(conv=>whnf);refine bs h (fun KX h=>?_) fun KX h=>?_
                        ·rw [KX];(conv=>whnf);refine bs h (fun M1 h=>?_) fun M1 h=>?_
                         ·rw [M1];(conv=>whnf);obtain ⟨Mf,QB,h⟩:=p8 h;refine ⟨qd.pl,_,Lt QB,?_⟩;(conv=>whnf);refine bs h (fun KY h=>?_) fun KY h=>?_
                          ·rw [KY];(conv=>whnf);obtain ⟨Ni,M3,h⟩:=p8 h;refine ⟨rfl,_,Pe M3,?_⟩;(conv=>whnf);exact p9 h jJ rfl rfl
                          ·rw [KY];(conv=>whnf);exact p9 h jJ rfl rfl
                         ·rw [M1];(conv=>whnf);exact p9 h jJ rfl rfl
                        ·rw [KX];(conv=>whnf);exact p9 h jJ rfl rfl
                       ·rw [KW];(conv=>whnf);exact p9 h jJ rfl rfl
                      ·rw [KV];(conv=>whnf);exact p9 h jJ rfl rfl
                     ·rw [KU];(conv=>whnf);exact p9 h jJ rfl rfl
                    ·rw [M0];(conv=>whnf);exact p9 h jJ rfl rfl
                   ·rw [MZ];(conv=>whnf);exact p9 h jJ rfl rfl
                  ·rw [KT];(conv=>whnf);exact p9 h jJ rfl rfl
                 ·rw [KS];(conv=>whnf);exact p9 h jJ rfl rfl
                ·rw [KR];(conv=>whnf);exact p9 h jJ rfl rfl
               ·rw [KQ];(conv=>whnf);exact p9 h jJ rfl rfl
             ·rw [KP];(conv=>whnf);exact p9 h jJ rfl rfl
            ·rw [KO];(conv=>whnf);exact p9 h jJ rfl rfl
           ·rw [KN];(conv=>whnf);exact p9 h jJ rfl rfl
          ·rw [KM];(conv=>whnf);exact p9 h jJ rfl rfl
         ·rw [KL];(conv=>whnf);exact p9 h jJ rfl rfl
        ·rw [KK];(conv=>whnf);exact p9 h jJ rfl rfl
       ·rw [KJ];(conv=>whnf);exact p9 h jJ rfl rfl
      ·rw [MW];(conv=>whnf);exact p9 h jJ rfl rfl
     ·rw [MV];(conv=>whnf);exact p9 h jJ rfl rfl
    ·rw [MU];(conv=>whnf);exact p9 h jJ rfl rfl
   ·rw [MT];(conv=>whnf);exact p9 h jJ rfl rfl
  ·rw [MS];(conv=>whnf);exact p9 h jJ rfl rfl
 ·rw [MR];conv=>whnf
  exact p9 h jJ rfl rfl
end Go.Proofs.Ytkoioidpbbbaiaa.Ab


namespace Go.Proofs.Ytkoioidpbbbaiaa.Ab
open Go
set_option maxRecDepth 20000
set_option maxHeartbeats 1000000
section
variable {p:qc} {o:List Int}
theorem afV (aB:p.1.length≤1000) (ao:o.length≤12) (d:Int):NJ p o d=IA p o d:=by
 rw [Mw aB ao];unfold NJ;rw [R6 aB (by omega),sa,sa];by_cases h:ru p o=0
 ·obtain ⟨ab,ae⟩:=Kd.1 h;have hle:=ab.le;have bD:=ab.lo;have GO:=ab.hi;rw [if_neg (by simpa using h),if_pos h];by_cases Oo:d<p.2.1
  ·rw [if_pos (decide_eq_true Oo),if_neg (by omega)]
  ·rw [if_neg (by simpa using Oo)];by_cases Oq:p.2.2<d
   ·rw [if_pos (decide_eq_true Oq),if_neg (by omega)]
   ·rw [if_neg (by simpa using Oq),if_pos (by omega)];have gb:=Pn ab ae (d:=d) (by omega) (a:=0);have e1:=Pn ab ae (d:=d) (by omega) (a:=1);have P':Jr p o d 0=_:=gb;have Qa:Jr p o d 1=_:=e1;rw [P',sa,Qa,sa]
 ·rw [if_pos (by simpa using h),if_neg h]
theorem afX (aB:p.1.length≤1000) (ao:o.length≤12):NK p o=Im p o:=by
 rw [Lk aB ao];unfold NK;rw [R6 aB (by omega),sa,sa];by_cases h:ru p o=0
 ·obtain ⟨ab,ae⟩:=Kd.1 h;rw [if_neg (by simpa using h),if_pos h,Xy ab ae,sa]
 ·rw [if_pos (by simpa using h),if_neg h]
theorem afP (p:qc) (o:List Int) (d:Int):Pf p o d=some true:=by
 unfold Pf Pb;rw [sa];by_cases dp:(10:Int)<(p.1.length:Int)
 ·rw [if_pos (decide_eq_true dp),works];rfl
 rw [if_neg (by simpa using dp)];by_cases fp:(10:Int)<(o.length:Int)
 ·rw [if_pos (decide_eq_true fp),works];rfl
 rw [if_neg (by simpa using fp),afV (by omega) (by omega),afX (by omega) (by omega),Mw (by omega) (by omega),sa,sa,Lk (by omega) (by omega),sa,sa,Po (by omega),sa,XE (by omega),sa];rw [if_pos (decide_eq_true rfl),if_pos (decide_eq_true rfl),if_pos (decide_eq_true rfl),if_pos (decide_eq_true rfl),if_pos (decide_eq_true rfl),if_pos (decide_eq_true rfl),works];rfl
end
theorem abr:IA I3 [1,0,2] 4=some (9,0,0):=by
 rw [Mw (by decide) (by decide)];decide +kernel
theorem abt:IA I3 [0,1,2] 4=some (0,0,0):=by
 rw [Mw (by decide) (by decide)];decide +kernel
theorem abp:Im rN [0,2,1]=some (2,0):=by
 rw [Lk (by decide) (by decide)];decide +kernel
theorem abq:Im Ke [1,0,2,3,4]=some (4,0):=by
 rw [Lk (by decide) (by decide)];decide +kernel
theorem abh:Km I3=some (0,0):=by
 rw [Xp (by decide)];decide +kernel
theorem abi:JW I3=some ([0,1,2],0):=by
 rw [RW (by decide)];decide +kernel
theorem abj:JB I3=some (2,0):=by
 rw [RY (by decide)];decide +kernel
theorem abk:JB rN=some (0,0):=by
 rw [RY (by decide)];decide +kernel
theorem abl:Iz rN [0,2,1] [(1,(3,0))]=some (1,0):=by
 rw [NH (by decide) (by decide) (by decide)];decide +kernel
theorem abm:Iz rN [0,2,1] []=some (0,23):=by
 rw [NH (by decide) (by decide) (by decide)];decide +kernel
theorem abn:Jq rN [0,2,1]=some (1,0):=by
 unfold Jq;obtain ⟨l,ab,ae⟩:=Ph (p:=rN) (o:=[0,2,1]) (by decide) (by decide);have rL:ru rN [0,2,1]=0:=by decide +kernel
 rw [if_pos rL] at ab;rw [ab,sa,(ae rL).1,Of (i:=0) (t:=1015) (by decide +kernel) (by decide) (by decide) (by decide) (by decide +kernel),Og (by decide +kernel)];rfl
theorem abo:Jq I3 [0,1,2]=some (0,0):=by
 unfold Jq;obtain ⟨l,ab,ae⟩:=Ph (p:=I3) (o:=[0,1,2]) (by decide) (by decide);have rL:ru I3 [0,1,2]=0:=by decide +kernel
 rw [if_pos rL] at ab;rw [ab,sa,(ae rL).1,Og (by decide +kernel),Og (by decide +kernel)];rfl
theorem abu:Kv Ke=some 0:=by
 rw [Po (by decide)];decide +kernel
theorem afR:Pg=some true:=by
 unfold Pg;simp only [Xs,Xu,Xw,rR,Kn,Ko,sa,abr,abt,abp,abq,abh,abi,abj,abk,abl,abm,abn,abo,Xm,abu,works];simp only [decide_eq_true_eq,if_true]
theorem Z' (p:qc) (o:List Int) (d:Int):qt 3 [adj p,.av (o.map h0) o.length .shared,h0 d] (B true):=afO (afP p o d)
theorem Z9:qt 9 [] (B true):=afQ afR
end Go.Proofs.Ytkoioidpbbbaiaa.Ab
