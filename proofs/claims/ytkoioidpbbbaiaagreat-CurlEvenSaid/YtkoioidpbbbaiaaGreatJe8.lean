
import Derived.Test.YtkoioidpbbbaiaaGreatJe7
import Derived.KernelRfl
import Derived.Test.YtkoioidpbbbaiaaGreatJe5
import Derived.Test.YtkoioidpbbbaiaaGreatProg
import Derived.Test.YtkoioidpbbbaiaaGreatJe6
set_option linter.unusedSimpArgs false
set_option linter.unusedVariables false
set_option linter.unusedSectionVars false

open Bool renaming and_eq_true→sn,and_true→tt,or_false→vF
open Int renaming le_refl→sU,tmod_eq_emod_of_nonneg→vw,toNat_natCast→tp
open List renaming append_assoc→sx,append_nil→sM,drop_eq_getElem_cons→s0,exists_cons_of_ne_nil→tK,filter_append→t_,filter_eq_self→tC,getD_eq_getElem?_getD→sw,getElem?_append_left→sg,getElem?_eq_getElem→si,getElem?_eq_some_iff→sa,getElem?_map→sk,getElem?_set_ne→sd,getElem?_set_self→sj,getElem_inj→vE,getElem_map→tZ,getElem_mem→tN,getElem_of_mem→uh,length_append→sA,length_map→sY,length_set→sV,map_append→sP,map_set→tH,mem_cons→sB,mem_filter→ta,nil_append→tM,range_succ→uW,take_of_length_le→te
open Nat renaming le_refl→sc,lt_succ_self→sE,mod_lt→uE,mul_one→tn,zero_add→sy,zero_le→sC
open Option renaming bind_some→sb
namespace Go.Proofs.YtkoioidpbbbaiaaGreat.Ab
open Go
set_option maxRecDepth 20000
set_option maxHeartbeats 4000000
def Hl (N:Nat) (H H':List ar):Prop:=H.length≤H'.length∧∀ (j:Nat) (c:List I),N≤j→H[j]?=some (.cells c)→H'[j]?=some (.cells c)
theorem Hl.refl (N:Nat) (H:List ar):Hl N H H:=⟨sc _,fun _ _ _ h=>h⟩
theorem Hl.trans {N:Nat} {H H1 H2:List ar} (h:Hl N H H1) (k:Hl N H1 H2):Hl N H H2:=⟨Nat.le_trans h.1 k.1,fun j c aw ak=>k.2 j c aw (h.2 j c aw ak)⟩
structure Pg (l N:Nat) (Inv:Nat→List ar→Prop):Prop where
 len:∀ i H,Inv i H→l<N∧N≤H.length
 more:∀ i H Z,Inv i H→Inv i (H++Z)
 set:∀ i H j c dU,Inv i H→N≤j→H[j]?=some (.cells c)→Inv i (H.set j (.cells dU))
def SB (P:Program) (k:FuncId) (cap:List I) (E:List I):Prop :=
 ∀ (l N:Nat) (Inv:Nat→List ar→Prop),Pg l N Inv →
   (∀ (i:Nat) (h:i<E.length) (H:List ar),Inv i H→∃ H',Inv (i+1) H'∧Hl N H H'∧Sem P (.yield l) [E[i]] H 0 (.bool true) H') →
   ∀ H,Inv 0 H→∃ H',Inv E.length H'∧Sem P (.fn k) (.yield l::cap) H 0 (.tuple []) H'
structure H9 (L:Nat) (b:I) (p:Nat) (U:List Int) (H:List ar):Prop where
 y:H[p]?=some (.cells [.yield L])
 u:H[p+1]?=some (.cells (U.map h0))
 g:H[p+2]?=some (.cells [IJ b p])
theorem H9.set {L p:Nat} {b:I} {U:List Int} {H:List ar} (h:H9 L b p U H) (Ml:List Int):H9 L b p Ml (H.set (p+1) (.cells (Ml.map h0))) :=
 ⟨by rw [sd (by omega)];exact h.y,sj (sa.1 h.u).1,by rw [sd (by omega)];exact h.g⟩
theorem H9.cE {L p N:Nat} {b:I} {U:List Int} {H H':List ar} (h:H9 L b p U H) (aB:N≤p) (k:Hl N H H'):H9 L b p U H':=⟨k.2 _ _ aB h.y,k.2 _ _ (by omega) h.u,k.2 _ _ (by omega) h.g⟩
theorem agm {K2 K3:I} {Q:cQ→List I→List ar→Prop} {begun:List Int} {i n:Nat} {H:List ar} {L p:Nat} {b:I} {U:List Int} (l_:H9 L b p U H) (Hu:U.length=7) (hi:i<7) (af:begun.length≤7)
  (dW:∃ H',H9 L b p U H'∧Sem Tryz.prog (.fn 71) [.av ((begun++[(i:Int)]).map h0) (begun++[(i:Int)]).length (.uniq 1),b,.ptr p 0,.ptr (p+1) 0,.ptr (p+2) 0] H 0 (.bool true) H' ∧
   Q .normal (qa 52 [(0,Hg begun),(3,.ptr (p+1) 0),(4,.ptr (p+2) 0),(26,h0 n),(27,h0 i),(28,K2),(33,K3),(50,.bool false)]) (H'.set (p+1) (.cells ((U.set i 0).map h0)))) :
  dQ Tryz.prog J_ 71 0 none KX (qa 52 [(0,Hg begun),(3,.ptr (p+1) 0),(4,.ptr (p+2) 0),(7,h0 i),(26,h0 n),(27,h0 i),(28,K2),(33,K3)]) H Q:=by
 obtain ⟨H',abu,cp,bp⟩:=dW;have fin:∀ dH,dH=qa 52 [(0,Hg begun),(3,.ptr (p+1) 0),(4,.ptr (p+2) 0),(7,h0 i),(8,.bool true),(26,h0 n),(27,h0 i),(28,K2),(33,K3)]→dQ Tryz.prog J_ 71 0 none MQ dH H' Q:=by
  rintro _ rfl;unfold MQ;conv=>whnf
  refine ⟨by omega,?_⟩;conv=>whnf
  refine Ew abu.u ?_;conv=>whnf
  rw [show 0+(i:Int).toNat*1=i by omega];refine Gn (by simp;omega) ?_;conv=>whnf
  rw [show (List.map h0 U).set i (I.int IntKind.i64 0)=(U.set i 0).map h0 by rw [tH]];exact bp
 unfold KX;cases begun with
 | nil =>
   (conv=>whnf);refine Ew l_.g ?_;(conv=>whnf);refine ⟨⟨by decide,by decide,by decide⟩,?_⟩;(conv=>whnf);refine ⟨rfl,by decide,?_⟩;(conv=>whnf);refine ⟨by decide,by decide,rfl,?_⟩;(conv=>whnf);refine ⟨_,_,rj cp,?_⟩;(conv=>whnf);exact fin _ rfl
 | cons a l =>
   (conv=>whnf);refine Ew l_.g ?_;(conv=>whnf);refine ⟨⟨rfl,by omega,sU _⟩,?_⟩;(conv=>whnf);rw [tp,tn,te (by simp)];refine ⟨rfl,by decide,?_⟩;(conv=>whnf);refine ⟨by decide,by omega,by simp,?_⟩;(conv=>whnf);(have e1:List.map h0 (a::l)++[h0 (i:Int)]=((a::l)++[(i:Int)]).map h0:=by simp);(have b':(a::l).length+1=((a::l)++[(i:Int)]).length:=by simp);refine ⟨_,_,rj (by erw [e1,b'];exact cp),?_⟩;(conv=>whnf);exact fin _ rfl
def Zj (L N:Nat) (Inv:Nat→List ar→Prop) (c:Nat) (begun:List Int) (E:List (List Int)):Prop :=
 ∀ (j:Nat) (l:List Int),E[j]?=some l→∀ H:List ar,Inv (c+j) H→∃ H',Inv (c+j+1) H'∧Hl N H H'∧Sem Tryz.prog (.yield L) [Hg (begun++l)] H 0 (.bool true) H'
theorem Uh {b:((List (Int×Int))×(Int×Int))×Unit} (qU:b.1.1.length≤7) (iS:0<b.1.1.length) {L N:Nat} {Inv:Nat→List ar→Prop} (kE:Pg L N Inv) {p:Nat} (aB:N≤p) :
  ∀ (k:Nat) (begun:List Int) (IG:hE) (U:List Int) (c:Nat),U.length=7→(∀ i,0≤U.getD i 0)→begun.length+k=b.1.1.length→(rk U b.1.1.length).length=k→((IG=.full∧begun=[])∨IG=.uniq 1∧begun≠[])→Zj L N Inv c begun (qX k (rk U b.1.1.length)) →
  ∀ H,Inv c H→H9 L (.bS [lp b]) p U H→∃ H',Inv (c+(qX k (rk U b.1.1.length)).length) H'∧Hl N H H'∧Sem Tryz.prog (.fn 71) [.av (begun.map h0) begun.length IG,.bS [lp b],.ptr p 0,.ptr (p+1) 0,.ptr (p+2) 0] H 0 (.bool true) H'
 | 0,begun,IG,U,c,Hu,_,al,ao,CM,ai,H,ag,l_=>by
   obtain ⟨H',abr,abt,cp⟩:=ai 0 [] rfl H ag;(have bJ:begun≠[]:=fun e=>by subst e;simp at al;omega);have CM:IG=.uniq 1:=by
    rcases CM with ⟨_,h⟩ | ⟨h,_⟩
    ·exact absurd h bJ
    ·exact h
   subst CM;obtain ⟨a,l,rfl⟩:=tK bJ;rw [sM] at cp;refine ⟨H',abr,abt,?_⟩;refine rn eG NT rfl cp.1 fun Q bp=>?_;unfold KW KY;obtain ⟨f',rU⟩:∃ c,Ji=c:=⟨_,rfl⟩;rw [rU];(conv=>whnf);rw [decide_eq_true (show (((a::l).length:Nat):Int)=(b.1.1.length:Int) by omega)];(conv=>whnf);refine Ew l_.y ?_;(conv=>whnf);refine ⟨_,_,rj cp,?_⟩;(conv=>whnf);exact bp _ _ _ ⟨.inr rfl,lI.refl _,rfl⟩
 | k+1,begun,IG,U,c,Hu,My,al,ao,CM,ai,H,ag,l_=>by
   obtain ⟨n,aI⟩:∃ n,n=b.1.1.length:=⟨_,rfl⟩;have Mj:=Uh (L:=L) qU iS kE aB k;rw [←aI] at qU iS al ao ai Mj ⊢
   obtain ⟨JJ,KL,Kc⟩:=Nx (fun i rA HW=>i<n→Inv (c+rZ k U n i) rA∧H9 L (.bS [lp b]) p U rA →
    (Inv (c+rZ k U n (i+1)) HW∧H9 L (.bS [lp b]) p U HW∧Hl N rA HW) ∧
    (U.getD i 0=0→∃ H2,H9 L (.bS [lp b]) p (U.set i 1) H2∧HW=H2.set (p+1) (.cells (U.map h0))∧Sem Tryz.prog (.fn 71) [.av ((begun++[(i:Int)]).map h0) (begun++[(i:Int)]).length (.uniq 1),.bS [lp b],.ptr p 0,.ptr (p+1) 0,.ptr (p+2) 0] (rA.set (p+1) (.cells ((U.set i 1).map h0))) 0 (.bool true) H2)∧(U.getD i 0≠0→HW=rA)) H (fun i rA=>by
    by_cases aP:i<n∧Inv (c+rZ k U n i) rA∧H9 L (.bS [lp b]) p U rA
    ·obtain ⟨hi,aP⟩:=aP;by_cases aQ:U.getD i 0=0
     ·have hm:(i:Int)∈rk U n:=Vn.2 ⟨i,hi,aQ,rfl⟩
      obtain ⟨H2,aA,aG,aT⟩:=Mj (begun++[(i:Int)]) (.uniq 1) (U.set i 1) (c+rZ k U n i) (by simpa using Hu) (Xf My) (by simp;omega) (by rw [LD (by omega) aQ,List.length_erase_of_mem hm];omega) (.inr ⟨rfl,by simp⟩) (fun j l aw H' b9=>by
       rw [LD (by omega) aQ] at aw;rw [show c+rZ k U n i+j=c+(rZ k U n i+j) by omega] at b9 ⊢;obtain ⟨hF,bm,cw,e2⟩:=ai _ _ (U5 hi aQ aw) H' b9;refine ⟨hF,bm,cw,?_⟩
       rw [sx];exact e2) (rA.set (p+1) (.cells ((U.set i 1).map h0))) (kE.set _ _ _ _ _ aP.1 (by omega) aP.2.u) (aP.2.set _)
      rw [LD (by omega) aQ] at aA;have Ly:H9 L (.bS [lp b]) p (U.set i 1) H2:=(aP.2.set (U.set i 1)).cE aB aG;refine ⟨H2.set (p+1) (.cells (U.map h0)),fun _ _=>⟨⟨?_,Ly.set U,?_⟩,fun _=>⟨H2,Ly,rfl,aT⟩,fun h=>absurd aQ h⟩⟩
      ·rw [Nz,if_pos aQ,←Nat.add_assoc];exact kE.set _ _ _ _ _ aA (by omega) Ly.u
      ·refine ⟨by have:=aG.1;simp at this ⊢;omega,fun j cs aw ak=>?_⟩;by_cases e:j=p+1
       ·subst e;rw [aP.2.u] at ak;rw [←Option.some.inj ak];exact (Ly.set U).u
       ·rw [sd (by omega)];exact aG.2 j cs aw (by rw [sd (by omega)];exact ak)
     ·refine ⟨rA,fun _ _=>⟨⟨?_,aP.2,Hl.refl _ _⟩,fun ab=>absurd ab aQ,fun _=>rfl⟩⟩;rw [Nz,if_neg aQ];exact aP.1
    ·exact ⟨rA,fun ab h=>absurd ⟨ab,h⟩ aP⟩)
   have c1:∀ i,i≤n→Inv (c+rZ k U n i) (JJ i)∧H9 L (.bS [lp b]) p U (JJ i)∧Hl N H (JJ i):=fun i=>by
    induction i with
    | zero=>intro _;rw [KL];exact ⟨ag,l_,Hl.refl _ _⟩
    | succ i a8 =>
      intro hi;obtain ⟨aA,aG,aT⟩:=a8 (by omega);obtain ⟨⟨bm,cw,e2⟩,_,_⟩:=Kc i (by omega) ⟨aA,aG⟩;exact ⟨bm,cw,aT.trans e2⟩
   have Qu:rZ k U n n=(qX (k+1) (rk U n)).length:=rfl;refine ⟨JJ n,by rw [←Qu];exact (c1 n (sc _)).1,(c1 n (sc _)).2.2,?_⟩;refine rn eG NT rfl (IA (c1 n (sc _)).2.2.1) fun Q bp=>?_;have main:∀ T,T=qa 52 [(0,Hg begun),(1,.bS [lp b]),(2,.ptr p 0),(3,.ptr (p+1) 0),(4,.ptr (p+2) 0),(6,.bool false),(17,.bool false)]→dQ Tryz.prog J_ 71 0 none Ji T H Q:=by
    rintro _ rfl;unfold Ji Rq Rp;obtain ⟨bt,eS⟩:∃ c,KX=c:=⟨_,rfl⟩;rw [eS];(conv=>whnf);rw [←aI];refine .intro (fun m T H'=>∃ i:Nat,i≤n∧m=n-i∧T=qa 52 [(0,Hg begun),(3,.ptr (p+1) 0),(4,.ptr (p+2) 0),(26,h0 n),(27,h0 i)]∧H'=JJ i) n ⟨0,sC _,rfl,rfl,KL.symm⟩ ?_;rintro m T H' ⟨i,hi,rfl,rfl,rfl⟩;(conv=>whnf);refine Hm (fun aR=>?_) (fun aR=>?_)
    ·(have hg:i<n:=by omega);obtain ⟨aA,aG,_⟩:=c1 i hi;obtain ⟨_,a7,a9⟩:=Kc i hg ⟨aA,aG⟩;(conv=>whnf);refine ⟨by omega,?_⟩;(conv=>whnf);refine Ew aG.u ?_;(conv=>whnf);rw [show 0+(i:Int).toNat*1=i by omega];refine Ew (x:=h0 (U.getD i 0)) (by rw [sk,sw,si (show i<U.length by omega)];rfl) ?_;(conv=>whnf);(have rq:IntKind.i64.wrap ((i:Int)+1)=((i+1:Nat):Int):=by rw [rY _ (by omega) (by omega)];omega);refine Hm (fun aQ=>?_) (fun aQ=>?_)
     ·(conv=>whnf);refine ⟨n-(i+1),by omega,i+1,by omega,rfl,by rw [rq];rfl,?_⟩;rw [a9 (by omega)]
     ·(have Mw:U.getD i 0=0:=by have:=My i;omega);obtain ⟨H2,Ly,acb,cp⟩:=a7 Mw;(conv=>whnf);refine ⟨by omega,?_⟩;(conv=>whnf);refine Ew aG.u ?_;(conv=>whnf);rw [show 0+(i:Int).toNat*1=i by omega];refine Gn (by simp;omega) ?_;(conv=>whnf);rw [show (List.map h0 U).set i (I.int IntKind.i64 1)=(U.set i 1).map h0 by rw [tH]];subst eS;refine agm (aG.set (U.set i 1)) (by simpa using Hu) (by omega) (by omega) ⟨H2,Ly,cp,?_⟩;(conv=>whnf);refine ⟨n-(i+1),by omega,i+1,by omega,rfl,by rw [rq];rfl,?_⟩;rw [List.set_set,Xd (by omega) Mw,acb]
    ·(obtain rfl:i=n:=by omega);(conv=>whnf);exact bp _ _ _ ⟨.inr rfl,lI.refl _,rfl⟩
   rcases CM with ⟨rfl,rfl⟩ | ⟨rfl,bJ⟩
   ·unfold KW KY;obtain ⟨f',rU⟩:∃ c,Ji=c:=⟨_,rfl⟩;rw [rU];(conv=>whnf);rw [decide_eq_false (show ¬ (((([]:List Int).length:Nat):Int)=(b.1.1.length:Int)) by simp only [List.length_nil];omega)];(conv=>whnf);subst rU;exact main _ rfl
   ·obtain ⟨a,l,rfl⟩:=tK bJ;unfold KW KY;obtain ⟨f',rU⟩:∃ c,Ji=c:=⟨_,rfl⟩;rw [rU];(conv=>whnf);rw [decide_eq_false (show ¬ ((((a::l).length:Nat):Int)=(b.1.1.length:Int)) by omega)];(conv=>whnf);subst rU;exact main _ rfl
theorem af6 {b:((List (Int×Int))×(Int×Int))×Unit} (qU:b.1.1.length≤7) (iS:0<b.1.1.length):SB Tryz.prog 70 [.bS [lp b]] ((qX b.1.1.length (qh b.1.1.length)).map Hg):=by
 intro L N Inv kE ai H ag;have jT:=U3 qU;obtain ⟨H1,bW⟩:∃ H1,H1=((H++[.cells [.yield L]])++[.cells [h0 0,h0 0,h0 0,h0 0,h0 0,h0 0,h0 0]])++[.cells [IJ (.bS [lp b]) H.length]]:=⟨_,rfl⟩;have l1:(H++[ar.cells [I.yield L]]).length=H.length+1:=by simp
 have l2:((H++[ar.cells [I.yield L]])++[ar.cells [I.int IntKind.i64 0,I.int IntKind.i64 0,I.int IntKind.i64 0,I.int IntKind.i64 0,I.int IntKind.i64 0,I.int IntKind.i64 0,I.int IntKind.i64 0]]).length=H.length+2:=by simp
 have l_:H9 L (.bS [lp b]) H.length [0,0,0,0,0,0,0] H1:=by
  subst bW;refine ⟨?_,?_,?_⟩
  ·rw [sx,sg (by rw [l1];omega)];exact IK _ _
  ·rw [sg (by rw [l2];omega),←l1];exact IK _ _
  ·rw [←l2];exact IK _ _
 obtain ⟨H',aA,aG,aT⟩:=Uh (b:=b) (L:=L) qU iS kE (kE.len _ _ ag).2 b.1.1.length [] .full [0,0,0,0,0,0,0] 0 rfl (fun i=>by
  rw [sw]
  match i with
  | 0 | 1 | 2 | 3 | 4 | 5 | 6 | i+7=>simp) (by simp) (by rw [jT];simp [qh]) (.inl ⟨rfl,rfl⟩) (fun j l aw H' b9=>by
    rw [jT] at aw;obtain ⟨ab,ae⟩:=sa.1 aw;rw [sy] at b9 ⊢;obtain ⟨H2,bm,cw,e2⟩:=ai j (by simpa using ab) H' b9;rw [tZ,ae] at e2
    exact ⟨H2,bm,cw,e2⟩) H1 (by rw [bW,sx,sx];exact kE.more _ _ _ ag) l_
 rw [jT,sy] at aA;refine ⟨H',by rw [sY];exact aA,?_⟩;refine rn eG Vc rfl (IA (by have:=aG.1;rw [bW] at this;simp at this;omega)) fun Q bp=>?_;rw [bW] at aT;unfold Rn Ro;conv=>whnf
 refine Ew (x:=.cells [.a0]) (by simp) ?_;conv=>whnf
 rw [HR];refine Ew (x:=.cells [IJ (.bS [lp b]) H.length]) (by rw [List.getElem?_append_right (sc _),l1,l2,Nat.sub_self];rfl) ?_;conv=>whnf
 refine ⟨_,_,rj (by rw [l1,l2];exact aT),?_⟩;conv=>whnf
 exact bp _ _ _ ⟨.inl rfl,lI.refl _,rfl⟩
theorem afZ {α:Type} {P:Program} {A:dw} {fn:FuncId} {rl:Option Nat} {k:FuncId} {cap:List I} {t:Nat} {bq:List Nat} {gH ct:Code} {T:List I} {H:List ar} {Q:cQ→List I→List ar→Prop} {f:α→I} {L:List α} (Im:SB P k cap (L.map f))
  (ax:df T t=.func k [] cap) {Inv:Nat→List ar→Prop} (kE:Pg H.length (H.length+1) Inv) (aQ:Inv 0 (H++[.loop .ready none fn (T.map I.view) bq gH ct A]))
  (KP:∀ (i:Nat) (h:i<L.length) (H1:List ar),Inv i H1→∃ H',Inv (i+1) H'∧Hl (H.length+1) H1 H'∧Sem P (.yield H.length) [f L[i]] H1 0 (.bool true) H')
  (hg:inLoop H rl=true) (acp:∀ H',Inv L.length H'→H'[H.length]?=some (.loop .ready none fn (T.map I.view) bq gH ct A)) (bp:∀ H',Inv L.length H'→Q .normal (T.map I.settle) (H'.set H.length .dead)):dQ P A fn 0 rl (.AM (.nc t) bq gH ct) T H Q:=by
 show hI T t _;rw [iQ,ax]
 obtain ⟨H',b9,cp⟩:=Im H.length (H.length+1) Inv kE (fun i h H1 bW=>by
  have aX:i<L.length:=by simpa using h
  obtain ⟨H2,bm,cw,e2⟩:=KP i aX H1 bW
  exact ⟨H2,bm,cw,by rw [tZ];exact e2⟩) _ aQ
 rw [sY] at b9;refine ⟨hg,.tuple [],H',.ready,none,fn,T.map I.view,bq,gH,ct,A,cp,acp _ b9,by decide,bp _ b9⟩
end Go.Proofs.YtkoioidpbbbaiaaGreat.Ab


namespace Go.Proofs.YtkoioidpbbbaiaaGreat.Ab
open Go
noncomputable def WZ:gE :=
 .ov false [p1 7 27]
noncomputable def MT:gE :=
 p2 [p1 58 11,p1 59 58,cl 60 [.jq 13] 59 true .mU,p0 61 [.Bs 59,.Bs 60,.cv (.bool false)] .pick] (.cond (.nc 61) (qF [p1 62 9,p0 63 [.nc 6,.Bs 62] (.zu 7 1),⟨none,[.jq 63,.cv (.int .i64 1)],none,none,.st 1⟩]) .skip)
noncomputable def MU:gE :=
 p2 [p0 49 [.nc 4] (.zE .one),p3 50 7,p3 51 8,qw 52 51 2 .rem,p1 53 8,p0 54 [.Bs 53] (.yB 1 1 [.int .i64 0] [0]),p0 55 [.cv (.func 60 [] []),.jq 49,.jq 50,.jq 52,.jq 54] (.call 1),p1 48 55,qJ 56 48 0,p0 57 [.Bs 48] (.ext 1),p1 12 56,p1 13 57] MT
noncomputable def Oj:gE :=
 p2 [p0 40 [.nc 4] (.zE .one),p3 41 7,p3 42 8,qw 43 42 2 .rem,p0 44 [.cv (.int .i64 1),.Bs 43] (.bin .sub),p0 45 [.cv (.func 60 [] []),.jq 40,.jq 41,.jq 44,.cv (.av [] 0 .full)] (.call 1),p1 39 45,qJ 46 39 0,p0 47 [.Bs 39] (.ext 1),p1 10 46,p1 11 47] MU
noncomputable def W4:gE :=
 .seq (p2 [p3 35 9,p0 36 [.nc 6,.Bs 35] (.zu 7 1),qg 37 36,qw 38 37 0 .gtr] (.cond (.nc 38) (.exit 3) .skip)) Oj
noncomputable def RO:gE :=
 .block 3 (p2 [p3 32 30,p0 33 [.nc 28,.nc 30] (.kY 1),qg 34 33,p1 8 32,p1 9 34] W4)
noncomputable def W3:gE :=
 .block 1 (p2 [p3 28 7,p0 29 [.nc 28] .zJ,qd 30 0] (.block 2 (.loop (some (p8 false [4,1,1,2,20,3,55])) (p2 [p0 31 [.nc 30,.nc 29] (.bin .lss)] (.seq (.cond (.nc 31) .skip (.exit 2)) (.seq RO (qF [qP 64 30 1,p1 30 64])))))))
theorem adm:ey Go.Proofs.Tryz.prog Jv (q' Go.Proofs.Tryz.prog 24 0) 0=some WZ:=by kernel_rfl
theorem adq:ey Go.Proofs.Tryz.prog Jv (ra Go.Proofs.Tryz.prog 24 0) 0=some W3:=by kernel_rfl
end Go.Proofs.YtkoioidpbbbaiaaGreat.Ab


namespace Go.Proofs.YtkoioidpbbbaiaaGreat.Ab
open Go
set_option maxRecDepth 20000
set_option maxHeartbeats 4000000
def Jx (b:rV) (o:List Int) (F:List Int) (i:Int):Option (List Int) :=
 qs (0≤ix o i∧ix o i<7) <|
 if 0<ix F (ix o i) then some F else
 (Ij b o (w (1-i.tmod 2)) []).bind fun x=>(Ij b o (i.tmod 2) [i]).bind fun y =>
 some (if (x.2 && y.2)=true then F.set (ix o i).toNat 1 else F)
theorem HS.rS {b:rV} {m j:Nat} {H:List ar} {o cz:ar} (h:HS b m H) (aw:H[j]?=some o) (hm:∀ es c,o≠.map es c):HS b m (H.set j cz):=by
 obtain ⟨es,IH,ab,ae⟩:=h;have acr:j≠m:=fun e=>by subst e;rw [ab] at aw;exact hm _ _ (Option.some.inj aw).symm
 refine ⟨es,IH,by rw [sd acr];exact ab,fun e he=>?_⟩;obtain ⟨x,id,c,A,aA,aG,aT,br,bg⟩:=ae e he;have h_:j≠id:=fun e=>by subst e;rw [br] at aw;exact hm _ _ (Option.some.inj aw).symm
 exact ⟨x,id,c,A,aA,aG,aT,by rw [sd h_];exact br,bg⟩
structure Good (b:rV) (rJ:ar) (F:List Int) (H:List ar):Prop where
 f:HS b 0 H
 p:H[1]?=some (.cells [rL b 0])
 m:H[2]?=some (.cells (F.map h0))
 l:H[3]?=some rJ
 n:F.length=7
theorem Good.ext {b:rV} {rJ:ar} {F:List Int} {H H':List ar} (h:Good b rJ F H) (aP:HS b 0 H') (he:H8 0 H H'):Good b rJ F H':=by
 have aF:=(sa.1 h.l).1;exact ⟨aP,by rw [he.2 1 (by omega) (by omega)];exact h.p,by rw [he.2 2 (by omega) (by omega)];exact h.m,by rw [he.2 3 (by omega) aF];exact h.l,h.n⟩
theorem Good.mark {b:rV} {rJ:ar} {F IX:List Int} {H:List ar} (h:Good b rJ F H) (aI:IX.length=7):Good b rJ IX (H.set 2 (.cells (IX.map h0))) :=
 ⟨h.f.rS h.m (fun _ _ e=>by cases e),by rw [sd (by omega)];exact h.p,sj (sa.1 h.m).1,by rw [sd (by omega)];exact h.l,aI⟩
theorem H8.cE {H H':List ar} (h:H8 0 H H'):Hl 4 H H':=⟨h.1,fun j c aw ak=>by rw [h.2 j (by omega) (sa.1 ak).1];exact ak⟩
theorem acK {b:rV} {o F IX:List Int} {i:Int} (h:Jx b o F i=some IX) {rJ:ar} {H:List ar} (rB:Good b rJ F H) :
  ∃ H',Good b rJ IX H'∧Hl 4 H H'∧(0≤ix o i∧ix o i<7)∧(0<ix F (ix o i)→H'=H) ∧
    (¬ 0<ix F (ix o i)→∃ x y H1 H2,(x.2 && y.2)=true∧IX=F.set (ix o i).toNat 1∧H'=H2.set 2 (.cells (IX.map h0))∧Good b rJ F H2∧Good b rJ F H1 ∧
      Sem Tryz.prog (.fn 60) [rL b 0,.av (o.map h0) o.length .shared,h0 (w (1-i.tmod 2)),.av [] 0 .full] H 0 (.tuple [.av [] 0 .shared,B x.2]) H1 ∧
      Sem Tryz.prog (.fn 60) [rL b 0,.av (o.map h0) o.length .shared,h0 (i.tmod 2),.av [h0 i] 1 (.uniq 1)] H1 0 (.tuple [.av ((y:List qq×Bool).1.flatMap qn) y.1.length .shared,B y.2]) H2 ∨
     (x.2 && y.2)=false∧IX=F∧H'=H2∧Good b rJ F H2∧Good b rJ F H1 ∧
      Sem Tryz.prog (.fn 60) [rL b 0,.av (o.map h0) o.length .shared,h0 (w (1-i.tmod 2)),.av [] 0 .full] H 0 (.tuple [.av [] 0 .shared,B (x:List qq×Bool).2]) H1 ∧
      Sem Tryz.prog (.fn 60) [rL b 0,.av (o.map h0) o.length .shared,h0 (i.tmod 2),.av [h0 i] 1 (.uniq 1)] H1 0 (.tuple [.av (y.1.flatMap qn) y.1.length .shared,B y.2]) H2):=by
 unfold Jx at h;obtain ⟨ah,h⟩:=rM h;by_cases aB:0<ix F (ix o i)
 ·rw [if_pos aB] at h;obtain rfl:=Option.some.inj h;exact ⟨H,rB,Hl.refl _ _,ah,fun _=>rfl,fun aI=>absurd aB aI⟩
 ·rw [if_neg aB] at h;obtain ⟨x,aj,h⟩:=p' h;obtain ⟨y,aY,h⟩:=p' h;obtain rfl:=Option.some.inj h;obtain ⟨xf,Vx,s1⟩:=Ym aj (m:=0) (lo:=0) (H:=H) (sC _);have e1:H8 0 H (H++[Vx]):=⟨by simp,fun j _ aw=>by rw [sg aw]⟩;have cf:Good b rJ F (H++[Vx]):=rB.ext (rB.f.more _) e1;obtain ⟨H2,f2,b',s2⟩:=Yn aY (lo:=0) (sc 0) cf.f;have ca:Good b rJ F H2:=cf.ext f2 b';cases af:(x.2 && y.2) with
  | true =>
    rw [if_pos rfl];refine ⟨H2.set 2 (.cells ((F.set (ix o i).toNat 1).map h0)),ca.mark (by rw [sV];exact ca.n),?_,ah,fun h=>absurd h aB,fun _=>⟨x,y,_,H2,.inl ⟨af,rfl,rfl,ca,cf,s1,s2⟩⟩⟩;have k:=(e1.cE).trans b'.cE;refine ⟨by have:=k.1;simpa using this,fun j c aw ak=>by rw [sd (by omega)];exact k.2 j c aw ak⟩
  | false =>
    rw [if_neg (by decide)];exact ⟨H2,ca,(e1.cE).trans b'.cE,ah,fun h=>absurd h aB,fun _=>⟨x,y,_,H2,.inr ⟨af,rfl,rfl,ca,cf,s1,s2⟩⟩⟩
theorem aaH {F:List Int} {k:Int} (al:0≤k∧k<7) (bG:F.length=7):(F.map h0)[0+k.toNat*1]?=some (h0 (ix F k)):=by
 have h:k.toNat<F.length:=by omega
 rw [sy,tn,sk,si h];simp [ix,sw,si h]
theorem afX {b:rV} {o F IX:List Int} (aq:o≠[]) (fL:o.length≤1000) (h:Ik (Jx b o) (qh o.length) F=some IX) {gv Gi rO IU L8:I} {H:List ar} (rB:Good b (.loop .ready none 24 (qa 86 [(2,gv),(3,Gi),(4,.ptr 1 0),(5,rO),(6,.ptr 2 0),(23,IU),(26,L8)]) [27] (q' Tryz.prog 24 0) (ra Tryz.prog 24 0) Jv) F H) :
  ∃ H',Good b (.loop .ready none 24 (qa 86 [(2,gv),(3,Gi),(4,.ptr 1 0),(5,rO),(6,.ptr 2 0),(23,IU),(26,L8)]) [27] (q' Tryz.prog 24 0) (ra Tryz.prog 24 0) Jv) IX H'∧Hl 4 H H'∧Sem Tryz.prog (.yield 3) [Hg o] H 0 (.bool true) H':=by
 obtain ⟨Hq,Mx,KK,P2⟩:=ND h;rw [K1] at KK;obtain ⟨n,aI⟩:∃ n,n=o.length:=⟨_,rfl⟩;rw [←aI] at KK fL;obtain ⟨Io,Uu⟩:∃ Io:ar,Io=(.loop .busy none 24 (qa 86 [(2,gv),(3,Gi),(4,.ptr 1 0),(5,rO),(6,.ptr 2 0),(23,IU),(26,L8)]) [27] (q' Tryz.prog 24 0) (ra Tryz.prog 24 0) Jv):=⟨_,rfl⟩;obtain ⟨NU,Qx⟩:∃ NU:ar,NU=(.loop .ready none 24 (qa 86 [(2,gv),(3,Gi),(4,.ptr 1 0),(5,rO),(6,.ptr 2 0),(23,IU),(26,L8)]) [27] (q' Tryz.prog 24 0) (ra Tryz.prog 24 0) Jv):=⟨_,rfl⟩;rw [←Qx] at rB ⊢;have Dl:∀ es c,NU≠.map es c:=fun _ _ e=>by rw [Qx] at e;cases e
 have kM:∀ es c,Io≠.map es c:=fun _ _ e=>by rw [Uu] at e;cases e
 have abq:Good b Io F (H.set 3 Io):=⟨rB.f.rS rB.l Dl,by rw [sd (by omega)];exact rB.p,by rw [sd (by omega)];exact rB.m,sj (sa.1 rB.l).1,rB.n⟩;have abp:∀ i (hi:i<n),Jx b o (Hq i) (i:Int)=some (Hq (i+1)):=fun i hi=>by
  have:=P2 i (by rw [K1];omega);simpa [qh] using this
 classical
 obtain ⟨Hs,gL,Lx⟩:=Nx (fun i rA HW=>i<n→Good b Io (Hq i) rA→Good b Io (Hq (i+1)) HW∧Hl 4 rA HW∧(0≤ix o i∧ix o i<7)∧(0<ix (Hq i) (ix o i)→HW=rA) ∧
   (¬ 0<ix (Hq i) (ix o i)→∃ x y H1 H2,(x.2 && y.2)=true∧Hq (i+1)=(Hq i).set (ix o i).toNat 1∧HW=H2.set 2 (.cells ((Hq (i+1)).map h0))∧Good b Io (Hq i) H2∧Good b Io (Hq i) H1 ∧
     Sem Tryz.prog (.fn 60) [rL b 0,.av (o.map h0) o.length .shared,h0 (w (1-(i:Int).tmod 2)),.av [] 0 .full] rA 0 (.tuple [.av [] 0 .shared,B x.2]) H1 ∧
     Sem Tryz.prog (.fn 60) [rL b 0,.av (o.map h0) o.length .shared,h0 ((i:Int).tmod 2),.av [h0 (i:Int)] 1 (.uniq 1)] H1 0 (.tuple [.av ((y:List qq×Bool).1.flatMap qn) y.1.length .shared,B y.2]) H2 ∨
    (x.2 && y.2)=false∧Hq (i+1)=Hq i∧HW=H2∧Good b Io (Hq i) H2∧Good b Io (Hq i) H1 ∧
     Sem Tryz.prog (.fn 60) [rL b 0,.av (o.map h0) o.length .shared,h0 (w (1-(i:Int).tmod 2)),.av [] 0 .full] rA 0 (.tuple [.av [] 0 .shared,B (x:List qq×Bool).2]) H1 ∧
     Sem Tryz.prog (.fn 60) [rL b 0,.av (o.map h0) o.length .shared,h0 ((i:Int).tmod 2),.av [h0 (i:Int)] 1 (.uniq 1)] H1 0 (.tuple [.av (y.1.flatMap qn) y.1.length .shared,B y.2]) H2)) (H.set 3 Io) (fun i rA=>by
  by_cases aO:i<n∧Good b Io (Hq i) rA
  ·obtain ⟨H',aA⟩:=acK (abp i aO.1) aO.2;exact ⟨H',fun _ _=>aA⟩
  ·exact ⟨rA,fun ab ae=>absurd ⟨ab,ae⟩ aO⟩)
 have c1:∀ i,i≤n→Good b Io (Hq i) (Hs i)∧Hl 4 (H.set 3 Io) (Hs i):=fun i=>by
  induction i with
  | zero=>intro _;rw [gL,Mx];exact ⟨abq,Hl.refl _ _⟩
  | succ i a8 =>
    intro hi;obtain ⟨aA,aG⟩:=a8 (by omega);obtain ⟨bm,cw,_⟩:=Lx i (by omega) aA;exact ⟨bm,aG.trans cw⟩
 obtain ⟨Kb,UE⟩:=c1 n (sc _);rw [KK] at Kb;have hlen:H.length≤(Hs n).length:=by have:=UE.1;simpa using this
 refine ⟨(Hs n).set 3 NU,⟨Kb.f.rS Kb.l kM,by rw [sd (by omega)];exact Kb.p,by rw [sd (by omega)];exact Kb.m,sj (sa.1 Kb.l).1,Kb.n⟩,⟨by simpa using hlen,fun j c aw ak=>by rw [sd (by omega)];exact UE.2 j c aw (by rw [sd (by omega)];exact ak)⟩,?_⟩;subst Qx;refine On eG adm adq rB.l rfl (IA (by simpa using hlen)) ?_;obtain ⟨gb,e,mx⟩:=tK aq;have ab4:Hg o=.av (o.map h0) o.length (.own 1):=by rw [mx];rfl
 rw [ab4];unfold WZ;conv=>whnf
 refine ⟨rfl,rB.l,?_⟩;rw [←Uu];unfold W3;obtain ⟨dV,Cr⟩:∃ c,RO=c:=⟨_,rfl⟩;rw [Cr];conv=>whnf
 rw [←aI];refine .intro (fun m T H'=>∃ i:Nat,i≤n∧m=n-i∧T=qa 86 [(4,.ptr 1 0),(6,.ptr 2 0),(7,.av (o.map h0) n (.own 1)),(28,.av (o.map h0) n .shared),(29,h0 n),(30,h0 i)]∧H'=Hs i) n ⟨0,sC _,rfl,rfl,gL.symm⟩ ?_;rintro m T H' ⟨i,hi,rfl,rfl,rfl⟩;conv=>whnf
 refine Hm (fun aR=>?_) (fun aR=>?_)
 ·have hg:i<n:=by omega
  have Il:0≤(i:Int)∧(i:Int)<(o.length:Int):=by omega
  have a:=c1 i hi;obtain ⟨_,_,ah,a7,a9⟩:=Lx i hg a.1;have rq:IntKind.i64.wrap ((i:Int)+1)=((i+1:Nat):Int):=by rw [rY _ (by omega) (by omega)];omega
  subst Cr;unfold RO W4;obtain ⟨bt,eS⟩:∃ c,Oj=c:=⟨_,rfl⟩;rw [eS];conv=>whnf
  refine ⟨by omega,?_⟩;rw [rb h0 o (i:Int) Il];conv=>whnf
  refine ⟨ah,?_⟩;conv=>whnf
  refine Ew a.1.m ?_;conv=>whnf
  refine Ew (x:=h0 (ix (Hq i) (ix o i))) (aaH ah a.1.n) ?_;conv=>whnf
  refine Hm (fun aB=>?_) (fun aB=>?_)
  ·(conv=>whnf);refine ⟨n-(i+1),by omega,i+1,by omega,rfl,by rw [rq];rfl,?_⟩;rw [a7 aB]
  ·obtain ⟨x,y,H1,H2,a1⟩:=a9 aB;subst eS;rcases a1 with ⟨af,NH,b9,ca,cf,s1,s2⟩ | ⟨af,NH,b9,ca,cf,s1,s2⟩
   ·unfold Oj;obtain ⟨aap,Mu⟩:∃ c,MU=c:=⟨_,rfl⟩;rw [Mu];(conv=>whnf);refine Ew a.1.p ?_;(conv=>whnf);refine ⟨by decide,?_⟩;(conv=>whnf);rw [←aI] at s1 s2;refine ⟨_,_,rj s1,?_⟩;(conv=>whnf);subst Mu;unfold MU;obtain ⟨B8,Mr⟩:∃ c,MT=c:=⟨_,rfl⟩;rw [Mr];(conv=>whnf);refine Ew cf.p ?_;(conv=>whnf);refine ⟨by decide,?_⟩;(conv=>whnf);refine ⟨_,_,rj s2,?_⟩;(conv=>whnf);subst Mr;unfold MT;cases aj:x.2 <;> cases aY:y.2 <;> rw [aj,aY] at af
    ·cases af
    ·cases af
    ·cases af
    ·(conv=>whnf);refine ⟨ah,?_⟩;(conv=>whnf);refine Ew ca.m ?_;(conv=>whnf);refine Gn (by rw [sY,ca.n];omega) ?_;(conv=>whnf);refine ⟨n-(i+1),by omega,i+1,by omega,rfl,by rw [rq];rfl,?_⟩;rw [b9,NH,tH,sy,tn]
   ·unfold Oj;obtain ⟨aap,Mu⟩:∃ c,MU=c:=⟨_,rfl⟩;rw [Mu];(conv=>whnf);refine Ew a.1.p ?_;(conv=>whnf);refine ⟨by decide,?_⟩;(conv=>whnf);rw [←aI] at s1 s2;refine ⟨_,_,rj s1,?_⟩;(conv=>whnf);subst Mu;unfold MU;obtain ⟨B8,Mr⟩:∃ c,MT=c:=⟨_,rfl⟩;rw [Mr];(conv=>whnf);refine Ew cf.p ?_;(conv=>whnf);refine ⟨by decide,?_⟩;(conv=>whnf);refine ⟨_,_,rj s2,?_⟩;(conv=>whnf);subst Mr;unfold MT;cases aj:x.2 <;> cases aY:y.2 <;> rw [aj,aY] at af
    ·(conv=>whnf);refine ⟨n-(i+1),by omega,i+1,by omega,rfl,by rw [rq];rfl,?_⟩;rw [b9]
    ·(conv=>whnf);refine ⟨n-(i+1),by omega,i+1,by omega,rfl,by rw [rq];rfl,?_⟩;rw [b9]
    ·(conv=>whnf);refine ⟨n-(i+1),by omega,i+1,by omega,rfl,by rw [rq];rfl,?_⟩;rw [b9]
    ·cases af
 ·obtain rfl:i=n:=by omega
  conv=>whnf
  exact ⟨rfl,Kb.l,lI.refl _⟩
end Go.Proofs.YtkoioidpbbbaiaaGreat.Ab


namespace Go.Proofs.YtkoioidpbbbaiaaGreat.Ab
open Go
noncomputable def Q':gE :=
 .ov false [p3 75 14,p3 76 14,qT 77 76,p1 78 14,qT 79 78,p0 80 [.jq 75,.jq 77,.jq 79] (.Bh 1 false true true),p1 81 15,p0 82 [.Bs 81] (.yB 1 1 [.int .i64 0] [0]),p0 83 [.jq 80,.jq 82] (.app 1 8),p1 14 83]
noncomputable def Ra:gE :=
 .block 5 (p2 [p3 71 69, p0 72 [.nc 68, .nc 69] (.other (Oper.mk (some 72) (Op.index 91 (Operand.tmp 68) (Operand.tmp 69)) 3 "curl.go:170" (Array.mk []) none) 0), p1 15 71, p1 16 72] (p2 [p1 73 16, qw 74 73 0 .gtr] (.cond (.nc 74) Q' .skip)))
noncomputable def Rb:gE :=
 .seq (p2 [p0 68 [.Bs 6] (.zE (.arr 7)),qd 69 0] (.block 4 (.loop (some (p8 false [14,1,53,2,16])) (p2 [p0 70 [.nc 69,.cv (.int .i64 7)] (.bin .lss)] (.seq (.cond (.nc 70) .skip (.exit 4)) (.seq Ra (qF [qP 84 69 1,p1 69 84]))))))) (p2 [p1 85 14,p1 2 85,qd 3 0] .ret)
noncomputable def MN:gE :=
 .seq (p2 [p0 65 [.nc 6] (.zE (.arr 7)), p0 66 [] (.build [.int .i64 0, .int .i64 0, .int .i64 0, .int .i64 0, .int .i64 0, .int .i64 0, .int .i64 0] []), p0 67 [.Bs 65, .Bs 66] (.other (Oper.mk (some 67) (Op.binOp .eql 91 (Operand.tmp 65) (Operand.tmp 66) 91) 4 "curl.go:166" (Array.mk [Edge.mk 0 Ground.data, Edge.mk 1 Ground.data]) none) 0)] (.cond (.nc 67) (p2 [p0 2 [.cv (.av [] 0 .full)] (.nil 1), qd 3 0] .ret) .skip)) (p2 [p0 14 [.cv (.av [] 0 .full)] (.nil 1)] Rb)
noncomputable def N3:gE :=
 .seq (p2 [p3 22 5,qw 23 22 0 .neq] (.cond (.nc 23) (p2 [p1 24 5,p0 2 [.cv (.av [] 0 .full)] (.nil 1),p1 3 24] .ret) .skip)) (p2 [p0 6 [] (.alloc [.int .i64 0,.int .i64 0,.int .i64 0,.int .i64 0,.int .i64 0,.int .i64 0,.int .i64 0])] (.seq (p2 [p0 25 [.nc 4] (.zE .one),p0 26 [.cv (.func 43 [] []),.jq 25] (.call 9)] (.block 0 (.AM (.nc 26) [27] (q' Go.Proofs.Tryz.prog 24 0) (ra Go.Proofs.Tryz.prog 24 0)))) MN))
noncomputable def Wt:gE :=
 p2 [p0 18 [.Bs 1] (.zE (.str 3)),p0 19 [.cv (.func 40 [] []),.jq 18,.cv (.av [] 0 .full)] (.call 8),p1 17 19,qJ 20 17 0,p0 21 [.Bs 17] (.ext 1),p0 4 [] (.alloc [.eI]),⟨none,[.nc 4,.jq 20],none,none,.st 1⟩,p1 5 21] N3
noncomputable def Ws:gE :=
 p2 [p0 1 [.jq 0] .yy,p0 2 [.cv (.av [] 0 .full)] (.nil 1),qd 3 0] Wt
theorem ac6:ql Go.Proofs.Tryz.prog Jv 24=some (Ws,86,[.tmp 2,.tmp 3]):=by kernel_rfl
end Go.Proofs.YtkoioidpbbbaiaaGreat.Ab


namespace Go.Proofs.YtkoioidpbbbaiaaGreat.Ab
open Go
set_option maxRecDepth 20000
set_option maxHeartbeats 4000000
theorem Xa {P:Program} {k:FuncId} {args:List I} {H H':List ar} {lo:Nat} {r:I} (h:Sem P (.fn k) (args.map I.cc) H lo r H'):Sem P (.fn k) args H lo r H':=by
 obtain ⟨aQ,ab,ae⟩:=h;exact ⟨aQ,ab,fun B aa J S w vs ag aI ad=>ae B aa J S w vs ag aI ad.cc⟩
abbrev Lo (p:qb):List I:=[(.agg [(.av (p.1.flatMap p7) p.1.length .shared),(h0 p.2.1),(h0 p.2.2)]),(.av [] 0 .full)]
section
variable {p:qb}
theorem aaw {e:Int} {lo:Nat} (h:rI p []=some (none,e)):oV Tryz.prog 8 lo (.fn 40) (Lo p) [] (.tuple [.eI,h0 e]) [] :=
 ⟨_,EB (r:=.tuple [.eI,h0 e]) (H':=[rF p]) (Xa (args:=Lo p) (by exact X9 h)),by
  show (k9 _ _ _ _ _ _ (.fn 40) (Lo p) [] 0).bind _=_
  rw [EA];rfl⟩
theorem aay {t:qb×Unit} {e:Int} {lo:Nat} (h:rI p []=some (some t,e)):oV Tryz.prog 8 lo (.fn 40) (Lo p) [] (.tuple [.bS [(.av (p.1.flatMap p7) p.1.length .shared),(h0 p.2.1),(h0 p.2.2),.map 0],h0 0]) [.map [] 0] :=
 ⟨_,EB (r:=.tuple [.ptr 2 0,h0 0]) (H':=[rF p,.map [] 0,.cells [(.av (p.1.flatMap p7) p.1.length .shared),(h0 p.2.1),(h0 p.2.2),.map 1]]) (Xa (args:=Lo p) (by exact (M9 h).2.2)),by
  show (k9 _ _ _ _ _ _ (.fn 40) (Lo p) [] 0).bind _=_;rw [EA];have e1:ea (bM [rF p,.map [] 0,.cells [(.av (p.1.flatMap p7) p.1.length .shared),(h0 p.2.1),(h0 p.2.2),.map 1]] 0 1 0 6) [(.av (p.1.flatMap p7) p.1.length .shared),(h0 p.2.1),(h0 p.2.2),.map 1]=some [(.av (p.1.flatMap p7) p.1.length .shared),(h0 p.2.1),(h0 p.2.2),.map 0] :=
   rv (yW (Hy (fun _=>p6 rfl (p6 rfl rfl)) _ _ _)) (rv (yW rfl) (rv (yW rfl) (rv rfl IB)))
  have b':bM [rF p,.map [] 0,.cells [(.av (p.1.flatMap p7) p.1.length .shared),(h0 p.2.1),(h0 p.2.2),.map 1]] 0 1 0 8 (.tuple [.ptr 2 0,h0 0])=some (.tuple [.bS [(.av (p.1.flatMap p7) p.1.length .shared),(h0 p.2.1),(h0 p.2.2),.map 0],h0 0]) :=
   Mq (rv (show (ea (bM [rF p,.map [] 0,.cells [(.av (p.1.flatMap p7) p.1.length .shared),(h0 p.2.1),(h0 p.2.2),.map 1]] 0 1 0 6) [(.av (p.1.flatMap p7) p.1.length .shared),(h0 p.2.1),(h0 p.2.2),.map 1]).map I.bS=_ by rw [e1];rfl) (rv rfl IB))
  show (match mapM (bM [rF p,.map [] 0,.cells [(.av (p.1.flatMap p7) p.1.length .shared),(h0 p.2.1),(h0 p.2.2),.map 1]] 0 1 0 8) [],bM [rF p,.map [] 0,.cells [(.av (p.1.flatMap p7) p.1.length .shared),(h0 p.2.1),(h0 p.2.2),.map 1]] 0 1 0 8 (.tuple [.ptr 2 0,h0 0]) with | some es',some v=>some (v,[]++[ar.map es' 0]) | _,_=>none)=_
  rw [b'];rfl⟩
end
def Ls (b:rV) (F:List Int) (o:List Int):Option (List Int):=Ik (Jx b o) (qh o.length) F
def KF (F:List Int):List Int×Int:=if decide (F=[0,0,0,0,0,0,0])=true then ([],0) else ((qh 7).filter (fun s=>decide (0<ix F s)),0)
def K8 (p:qb):Option (List Int×Int) :=
 (rI p []).bind fun r=>match r with
 | (none,q)=>if decide (q≠0)=true then some ([],q) else none
 | (some b,_) =>
   qs (0<b.1.1.length∧b.1.1.length≤7) <|
   (Ik (Ls b) (qX b.1.1.length (qh b.1.1.length)) [0,0,0,0,0,0,0]).bind fun F =>
   some (KF F)
theorem acY {n:Nat} {left:List Int}:∀ e∈qX n left,e.length=n:=fun e he=>by
 induction n generalizing left e with
 | zero=>simp [qX] at he;simp [he]
 | succ n a8 =>
   simp only [qX,List.mem_flatMap,List.mem_map] at he;obtain ⟨x,_,l,ao,rfl⟩:=he;simp [a8 l ao]
theorem Good.more {b:rV} {rJ:ar} {F:List Int} {H:List ar} (h:Good b rJ F H) (Z:List ar):Good b rJ F (H++Z) :=
 h.ext (h.f.more Z) ⟨by simp,fun j _ aw=>by rw [sg aw]⟩
theorem Good.aga {b:rV} {rJ:ar} {F:List Int} {H:List ar} {j:Nat} {c:List I} (dU:List I) (h:Good b rJ F H) (aw:4≤j) (ak:H[j]?=some (.cells c)):Good b rJ F (H.set j (.cells dU)) :=
 ⟨h.f.rS ak (fun _ _ e=>by cases e),by rw [sd (by omega)];exact h.p,by rw [sd (by omega)];exact h.m,by rw [sd (by omega)];exact h.l,h.n⟩
theorem XA (n:Nat):qh (n+1)=qh n++[(n:Int)]:=by simp [qh,uW]
theorem agw {b:rV} {rJ:ar} {F:List Int} {H':List ar} (rB:Good b rJ F H') {gv Gi rO IU L8:I} {Q:cQ→List I→List ar→Prop}
  (jJ:∀ T H,HC [.tmp 2,.tmp 3] (.tuple [.av ((KF F).1.map h0) (KF F).1.length .shared,h0 (KF F).2]) .ret T H→Q .ret T H) :
  dQ Tryz.prog Jv 24 0 none MN (qa 86 [(2,gv),(3,Gi),(4,.ptr 1 0),(5,rO),(6,.ptr 2 0),(23,IU),(26,L8)]) (H'.set 3 .dead) Q:=by
 unfold MN;obtain ⟨bt,eS⟩:∃ c,Rb=c:=⟨_,rfl⟩;rw [eS];have hm:(H'.set 3 .dead)[2]?=some (.cells (F.map h0)):=by rw [sd (by omega)];exact rB.m
 have aI:=rB.n;conv=>whnf
 refine Ew hm ?_;conv=>whnf
 refine ⟨by simp [aI],?_⟩;rw [U2 h0 F (fun _=>rfl) aI];conv=>whnf
 refine ⟨_,_,fun C=>VC rfl rfl (Zl .i64 (e:=3) (len:=7) (kd:=.i64) (xs:=F) (ys:=[(0:Int),0,0,0,0,0,0]) (by kernel_rfl) (by kernel_rfl) (by kernel_rfl) (by kernel_rfl) aI rfl),?_⟩;conv=>whnf
 unfold KF at jJ;refine Hm (fun bk=>?_) (fun bk=>?_)
 ·rw [decide_eq_true bk] at jJ;conv=>whnf
  exact jJ _ _ (Ih rfl rfl)
 ·rw [decide_eq_false bk] at jJ;conv=>whnf
  subst eS;unfold Rb;obtain ⟨a9,ca⟩:∃ c,Ra=c:=⟨_,rfl⟩;rw [ca];conv=>whnf
  refine Ew hm ?_;conv=>whnf
  refine ⟨by simp [aI],?_⟩;rw [U2 h0 F (fun _=>rfl) aI];conv=>whnf
  refine .intro (fun m T H=>∃ (i:Nat) (L:List Int) (c:hE),i≤7∧m=7-i∧L=(qh i).filter (fun s=>decide (0<ix F s))∧c=.uniq 1∧T=qa 86 [(14,.av (L.map h0) L.length c),(68,.agg (F.map h0)),(69,h0 i)]∧H=H'.set 3 .dead) 7 ⟨0,[],_,by omega,rfl,rfl,rfl,rfl,rfl⟩ ?_;rintro m T H ⟨i,L,c,hi,rfl,fq,rfl,rfl,rfl⟩;conv=>whnf
  refine Hm (fun aR=>?_) (fun aR=>?_)
  ·(have rq:IntKind.i64.wrap ((i:Int)+1)=((i+1:Nat):Int):=by rw [rY _ (by omega) (by omega)];omega);subst ca;unfold Ra;obtain ⟨a7,cf⟩:∃ c,Q'=c:=⟨_,rfl⟩;rw [cf];(conv=>whnf);refine ⟨_,_,fun C=>aeu rfl (Zn (e:=3) (len:=7) (kd:=.i64) (by kernel_rfl) (by kernel_rfl) (by kernel_rfl) (by kernel_rfl) aI ⟨by omega,aR⟩),?_⟩;(conv=>whnf);refine Hm (fun aB=>?_) (fun aB=>?_)
   ·subst cf;unfold Q';have aiA:L.length≤7:=by
     have:=List.length_filter_le (fun s=>decide (0<ix F s)) (qh i);rw [K1] at this;rw [fq];omega
    (conv=>whnf);refine ⟨⟨rfl,by omega,sU _⟩,?_⟩;(conv=>whnf);rw [tp,tn,te (by simp)];refine ⟨rfl,by decide,?_⟩;(conv=>whnf);refine ⟨by decide,by omega,by simp,?_⟩;(conv=>whnf);refine ⟨7-(i+1),by omega,i+1,_,.uniq 1,by omega,rfl,rfl,rfl,?_,rfl⟩;rw [XA,t_,←fq,show [(i:Int)].filter (fun s=>decide (0<ix F s))=[(i:Int)] by simp [aB],sP,sA,rq];rfl
   ·(conv=>whnf);refine ⟨7-(i+1),by omega,i+1,L,.uniq 1,by omega,rfl,?_,rfl,by rw [rq];rfl,rfl⟩;rw [XA,t_,←fq,show [(i:Int)].filter (fun s=>decide (0<ix F s))=[] by simp [aB],sM]
  ·(obtain rfl:i=7:=by omega);(conv=>whnf);rw [fq];exact jJ _ _ (Ih rfl rfl)
theorem X2 {p:qb} {v:List Int×Int} (h:K8 p=some v):qx 24 [.agg [.av (p.1.flatMap p7) p.1.length .shared,h0 p.2.1,h0 p.2.2]] (.tuple [.av (v.1.map h0) v.1.length .shared,h0 v.2]):=by
 unfold K8 at h;obtain ⟨⟨aS,bj⟩,ai,h⟩:=p' h;refine qK eG ac6 rfl (I4 (p6 (rC (fun _=>rfl) _ _ _) (p6 rfl rfl))) fun Q bp=>?_;have jJ:∀ T H,HC [.tmp 2,.tmp 3] (.tuple [.av (v.1.map h0) v.1.length .shared,h0 v.2]) .ret T H→Q .ret T H:=fun T H bE=>bp _ T H bE;unfold Ws Wt;obtain ⟨dV,Cr⟩:∃ c,N3=c:=⟨_,rfl⟩;rw [Cr];conv=>whnf
 refine ⟨rfl,?_⟩;conv=>whnf
 rcases aS with _ | b
 ·refine ⟨_,_,aaw ai,?_⟩;conv=>whnf
  subst Cr;unfold N3;refine bs h (fun af h=>?_) fun af h=>?_
  ·obtain ⟨b6,iP⟩:∃ c,MN=c:=⟨_,rfl⟩;rw [iP];rw [show I.int IntKind.i64 bj=h0 bj from rfl];(conv=>whnf);rw [af];(conv=>whnf);obtain rfl:=Option.some.inj h;exact jJ _ _ (Ih rfl rfl)
  ·cases h
 ·obtain ⟨rfl,rfl,_⟩:=M9 ai;refine ⟨_,_,aay ai,?_⟩;conv=>whnf
  obtain ⟨⟨Di,LB⟩,h⟩:=rM h;obtain ⟨F,ao,h⟩:=p' h;obtain rfl:=Option.some.inj h;subst Cr;unfold N3;obtain ⟨b6,iP⟩:∃ c,MN=c:=⟨_,rfl⟩;rw [iP];conv=>whnf
  refine ⟨_,_,call9 (bs:=[lp (p,())]) rfl (p6 (H5 (p,())) rfl) (Sc (b:=(p,())) (v:=()) rfl),?_⟩;obtain ⟨bt,eS⟩:∃ c,gE.AM (.nc 26) [27] (q' Tryz.prog 24 0) (ra Tryz.prog 24 0)=c:=⟨_,rfl⟩;rw [eS];conv=>whnf
  subst eS;obtain ⟨Hq,Mx,KK,P2⟩:=ND ao;obtain ⟨rJ,NK⟩:∃ rJ:ar,rJ=.loop .ready none 24 (qa 86 [(2,I.view (.av [] 0 (.uniq 1))),(3,h0 0),(4,.ptr 1 0),(5,h0 0),(6,.ptr 2 0),(23,B (decide ((0:Int)≠0))),(26,I.view (.func 70 [] [.bS [lp (p,())]]))]) [27] (q' Tryz.prog 24 0) (ra Tryz.prog 24 0) Jv:=⟨_,rfl⟩;have kM:∀ c,rJ≠.cells c:=fun c e=>by rw [NK] at e;cases e
  refine afZ (f:=Hg) (af6 (b:=(p,())) LB Di) (Inv:=fun i H=>Good (p,()) rJ (Hq i) H) (by exact rfl) ⟨fun i H rB=>⟨sE _,(sa.1 rB.l).1⟩,fun i H Z rB=>rB.more Z,fun i H j c dU rB aw ak=>rB.aga dU aw ak⟩ ?_ ?_ (rl:=none) (by exact rfl) ?_ ?_
  ·show Good _ _ (Hq 0) _;rw [Mx,NK];exact ⟨⟨[],0,rfl,fun e he=>absurd he (by simp)⟩,rfl,rfl,rfl,rfl⟩
  ·intro i hi H1 rB;rw [NK] at rB ⊢;exact afX (QI Di _ (tN hi)) (by rw [acY _ (tN hi)];omega) (P2 i hi) rB
  ·intro H' rB;rw [NK] at rB;exact rB.l
  ·intro H' rB;rw [KK] at rB;subst iP;exact agw rB jJ

end Go.Proofs.YtkoioidpbbbaiaaGreat.Ab


namespace Go.Proofs.YtkoioidpbbbaiaaGreat.Ab
open Go
set_option maxRecDepth 20000
set_option maxHeartbeats 1000000
def C9 (p:qb) (o:List Int) (i:Nat):Bool:=decide (HE p o (1-i % 2)) && decide (Jz p o (i % 2) i)
abbrev HX:=Nat→Bool
def M1 (p:qb) (o:List Int) (i:Nat) (M:HX):HX:=fun s=>M s || (decide (s=(ix o (i:Int)).toNat) && C9 p o i)
def JV (p:qb) (o:List Int) (M:HX):Nat→HX
 | 0=>M
 | k+1=>M1 p o k (JV p o M k)
def allM (p:qb):List (List Int)→HX→HX
 | [],M=>M
 | o::r,M=>allM p r (JV p o M o.length)
def HY (p:qb):HX:=allM p (rr p) fun _=>false
theorem VF {p:qb} {o:List Int} {M:HX} {s:Nat}:∀ {k:Nat},JV p o M k s=true↔M s=true∨∃ i,i<k∧s=(ix o (i:Int)).toNat∧C9 p o i=true
 | 0=>by simp [JV]
 | k+1=>by
   unfold JV M1;rw [Bool.or_eq_true,VF,sn,decide_eq_true_eq];constructor
   ·rintro ((h | ⟨i,ab,ae⟩) | h)
    ·exact .inl h
    ·exact .inr ⟨i,by omega,ae⟩
    ·exact .inr ⟨k,by omega,h⟩
   ·rintro (h | ⟨i,ab,ae⟩)
    ·exact .inl (.inl h)
    ·by_cases e:i=k
     ·subst e;exact .inr ae
     ·exact .inl (.inr ⟨i,by omega,ae⟩)
theorem SJ {p:qb} {s:Nat}:∀ {E:List (List Int)} {M:HX},allM p E M s=true↔M s=true∨∃ o∈E,∃ i,i<o.length∧s=(ix o (i:Int)).toNat∧C9 p o i=true
 | [],M=>by simp [allM]
 | o::r,M=>by
   unfold allM;rw [SJ,VF];constructor
   ·rintro ((h | h) | ⟨cz,ab,ae⟩)
    ·exact .inl h
    ·exact .inr ⟨o,by simp,h⟩
    ·exact .inr ⟨cz,by simp [ab],ae⟩
   ·rintro (h | ⟨cz,ab,ae⟩)
    ·exact .inl (.inl h)
    ·rcases sB.1 ab with rfl | ab
     ·exact .inl (.inr ae)
     ·exact .inr ⟨cz,ab,ae⟩
theorem PD {p:qb} {s:Nat}:HY p s=true↔∃ o,qo p.1.length o∧∃ i,i<o.length∧s=(ix o (i:Int)).toNat∧C9 p o i=true:=by
 unfold HY;rw [SJ];constructor
 ·rintro (h | ⟨o,ab,ae⟩)
  ·cases h
  ·exact ⟨o,JT.1 ab,ae⟩
 ·rintro ⟨o,ab,ae⟩;exact .inr ⟨o,JT.2 ab,ae⟩
theorem aah {p:qb} {s:Nat} (h:HY p s=true):s<p.1.length:=by
 obtain ⟨o,k,i,hi,rfl,_⟩:=PD.1 h;have:=rR k i hi;omega
def J' (p:qb):List Int:=(qh p.1.length).filter fun s=>HY p s.toNat
def zY (M:HX):List Int:=(List.range 7).map fun s=>if M s=true then 1 else 0
theorem aee (M:HX):(zY M).length=7:=by simp [zY]
theorem Vp (M:HX) {s:Nat} (h:s<7):ix (zY M) (s:Int)=if M s=true then 1 else 0:=by
 rw [ru (by rw [aee];exact h)];simp [zY]
theorem aef (M:HX) {v:Nat} (h:v<7):(zY M).set v 1=zY fun s=>M s || decide (s=v):=by
 apply List.ext_getElem (by simp [zY]);intro j ab ae;rw [List.getElem_set];simp only [zY,tZ,List.getElem_range];by_cases e:v=j
 ·subst e;simp
 ·rw [if_neg e]
  have:decide (j=v)=false:=by simp;omega
  rw [this,vF]
section
variable {p:qb} {o:List Int}
theorem aai (h:qY p) (k:qo p.1.length o) {i:Nat} (hi:i<o.length) (M:HX):Jx (p,()) o (zY M) (i:Int)=some (zY (M1 p o i M)):=by
 have aco:=qo.U4 h k;have ai:=rR k i hi;have aI:=k.1;obtain ⟨v,ad⟩:∃ v:Nat,ix o (i:Int)=(v:Int):=⟨(ix o (i:Int)).toNat,by omega⟩;have hu:M1 p o i M=fun s=>M s || (decide (s=v) && C9 p o i):=by unfold M1;rw [ad];rfl
 rw [hu];unfold Jx;rw [ad] at ai ⊢;rw [qB (by omega),Vp M (by omega)];cases CA:M v with
 | true =>
   rw [if_pos (by simp)];congr 1;unfold zY;refine List.map_congr_left fun s _=>?_;by_cases e:s=v
   ·subst e;simp [CA]
   ·simp [e]
 | false =>
   rw [if_neg (by simp),M0];(have e1:w (1-((i % 2:Nat):Int))=((1-i % 2:Nat):Int):=by rw [qR (by omega)];omega);rw [e1,Yl h k,sb];unfold C9;rcases Yk h k (a:=i % 2) hi with ⟨s,ab,ae,aF⟩ | ⟨ab,ae⟩
   ·rw [ab,sb,decide_eq_true (Mp.2 ⟨s,ae,aF⟩)];simp only [tt];by_cases aP:HE p o (1-i % 2)
    ·rw [if_pos (decide_eq_true aP),decide_eq_true aP,tp,aef M (by omega)];simp only [tt]
    ·rw [if_neg (by simpa using aP),decide_eq_false aP];simp only [Bool.and_false,vF]
   ·rw [ab,sb,decide_eq_false ae];simp only [Bool.and_false,vF];rw [if_neg (by decide)]
theorem T0 (h:qY p) (k:qo p.1.length o) (M:HX):∀ (m i:Nat),i≤o.length→o.length-i=m→Ik (Jx (p,()) o) ((qh o.length).drop i) (zY (JV p o M i))=some (zY (JV p o M o.length))
 | 0,i,hi,hm=>by
   (obtain rfl:i=o.length:=by omega);rw [List.drop_of_length_le (by rw [JZ];omega)];rfl
 | m+1,i,hi,hm=>by
   (have aR:i<o.length:=by omega);have e1:(qh o.length).drop i=(i:Int)::(qh o.length).drop (i+1):=by
    rw [s0 (by rw [JZ];omega)];congr 1;rw [←ru,QE aR]
   rw [e1];show (Jx (p,()) o (zY (JV p o M i)) (i:Int)).bind (fun t=>Ik (Jx (p,()) o) _ t)=_;rw [aai h k aR,sb];exact T0 h k M m (i+1) (by omega) (by omega)
theorem aak (h:qY p) (k:qo p.1.length o) (M:HX):Ls (p,()) (zY M) o=some (zY (JV p o M o.length)):=T0 h k M o.length 0 (by omega) rfl
theorem T2 (h:qY p):∀ (E:List (List Int)) (M:HX),(∀ o∈E,qo p.1.length o)→Ik (Ls (p,())) E (zY M)=some (zY (allM p E M))
 | [],_,_=>rfl
 | o::r,M,Hh=>by
   show (Ls (p,()) (zY M) o).bind (fun t=>Ik (Ls (p,())) r t)=_;rw [aak h (Hh o (by simp)),sb];exact T2 h r _ fun cz aX=>Hh cz (by simp [aX])
theorem aaa {p:qb} (h:qY p):KF (zY (HY p))=(J' p,0):=by
 have gb:(qh 7).filter (fun s=>decide (0<ix (zY (HY p)) s))=(qh 7).filter fun s=>HY p s.toNat:=by
  refine List.filter_congr fun s ah=>?_;have:=ME.1 ah;obtain ⟨v,rfl⟩:∃ v:Nat,s=(v:Int):=⟨s.toNat,by omega⟩;rw [Vp _ (by omega),tp];cases HY p v <;> rfl
 have e1:(qh 7).filter (fun s=>HY p s.toNat)=J' p:=by
  unfold J';have key:∀ r:List Int,(∀ s∈r,(p.1.length:Int)≤s)→r.filter (fun s=>HY p s.toNat)=[]:=fun r ai=>by
   rw [List.filter_eq_nil_iff];intro s ah af;have:=aah af;have:=ai s ah;omega
  rcases h.n with e | e | e
  ·rw [e,show qh 7=qh 3++[3,4,5,6] from rfl,t_,key [3,4,5,6] (by rw [e];decide),sM]
  ·rw [e,show qh 7=qh 5++[5,6] from rfl,t_,key [5,6] (by rw [e];decide),sM]
  ·rw [e]
 unfold KF;by_cases bk:zY (HY p)=[0,0,0,0,0,0,0]
 ·rw [if_pos (decide_eq_true bk)];rw [bk] at gb;rw [←e1,←gb];rfl
 ·rw [if_neg (by simpa using bk),gb,e1]
theorem X1 (aB:p.1.length≤1000):K8 p=some (if rm p=0 then (J' p,0) else ([],rm p)):=by
 unfold K8;rw [Sb aB,sb];by_cases h:rm p=0
 ·rw [if_pos h,if_pos h];have ad:=I_.1 h;have ao:=ad.len;simp only;rw [qB (show 0<p.1.length∧p.1.length≤7 by omega)];have e:Ik (Ls (p,())) (qX p.1.length (qh p.1.length)) [0,0,0,0,0,0,0]=some (zY (HY p)):=T2 ad (rr p) (fun _=>false) fun o aq=>JT.1 aq;rw [e,sb,aaa ad]
 ·rw [if_neg h,if_neg h];simp only;rw [if_pos (decide_eq_true h)]
end
end Go.Proofs.YtkoioidpbbbaiaaGreat.Ab


namespace Go.Proofs.YtkoioidpbbbaiaaGreat.Ab
open Go
set_option maxRecDepth 20000
set_option maxHeartbeats 4000000
noncomputable def OY:gE :=
 .loop (some (p8 false [0,2,3,1,20])) (.seq (p2 [p3 11 5,p3 12 0,qT 13 12,qm 14 11 13 .lss] (.cond (.nc 14) .skip (.exit 0))) (.seq (.block 1 (.seq (q8 [p3 17 0,p3 18 5,q5 19 17 18 1,qg 20 19,p3 21 1,p3 22 5,q5 23 21 22 1,qg 24 23,qm 25 20 24 .neq]) (.cond (.nc 25) (p2 [p0 4 [.cv (.bool false)] .mU] .ret) .skip))) (qF [p1 15 5,qP 16 15 1,p1 5 16])))
noncomputable def YC:gE :=
 p2 [p0 4 [.cv (.bool false)] .mU] (.seq (p2 [p3 6 0,qT 7 6,p3 8 1,qT 9 8,qm 10 7 9 .neq] (.cond (.nc 10) (p2 [p0 4 [.cv (.bool false)] .mU] .ret) .skip)) (.seq (p2 [qd 5 0] (.block 0 OY)) (p2 [p0 4 [.cv (.bool true)] .mU] .ret)))
theorem adC:ql Tryz.prog Pn 18=some (YC,26,[.tmp 4]):=by kernel_rfl
def K5 (a b:p9) (p_:Unit→Option Bool):Nat→Int→Option Bool
 | 0,_=>none
 | m+1,s1 =>
   if (decide (s1<(a.length:Int)))=true then
    qs (0≤s1∧s1<(a.length:Int)) <|
    qs (0≤s1∧s1<(b.length:Int)) <|
    if (decide ((ix a s1)≠(ix b s1)))=true then
     some false
    else
     K5 a b p_ m (w (s1+(1:Int)))
   else
    p_ ()
def JD (a b:p9):Option Bool :=
 if (decide ((a.length:Int)≠(b.length:Int)))=true then
  some false
 else
  K5 a b (fun _ =>
    some true) qi (0:Int)
theorem ahk {a:p9} {b:p9} {p_:Unit→Option Bool} {s1:Int} {v:Bool} {Q:Hr}   (jJ:qH [.tmp 4] Q (fun v=>(B v)) v) (rf:∀ (qf:List I),p_ ()=some v→ry 26 [] qf→Q (.exit 0) qf []) {T:List I} (b0:eZ (p8 false [0,2,3,1,20]) T=qa 26 [(0,(qG a .shared)),(1,(qG b .shared)),(5,(h0 s1))]) (h:K5 a b p_ qi s1=some v) :
  dQ Tryz.prog Pn 18 0 none OY T [] Q:=by
 unfold OY;refine wp_loop b0 ?_;refine .intro (fun m T H=>∃ (s1:Int),T=qa 26 [(0,(qG a .shared)),(1,(qG b .shared)),(5,(h0 s1))]∧H=[]∧K5 a b p_ m s1=some v) qi ⟨s1,rfl,rfl,h⟩ ?_;clear h b0;rintro m T H ⟨s1,rfl,rfl,h⟩;cases m
 ·exact rT h
 rename_i m;rw [K5.eq_2] at h;conv=>whnf
 refine bs h (fun gN h=>?_) fun gN h=>?_
 ·rw [gN];conv=>whnf
  refine qW h id fun qp h=>?_;rw [rb h0 a s1 qp];conv=>whnf
  refine qW h id fun qI h=>?_;rw [rb h0 b s1 qI];conv=>whnf
  refine bs h (fun q9 h=>?_) fun q9 h=>?_
  ·rw [q9];(conv=>whnf);exact qe h jJ rfl rfl
  ·rw [q9];(conv=>whnf);exact ⟨m,sE m,(w (s1+(1:Int))),rfl,rfl,h⟩
 ·rw [gN];conv=>whnf
  exact rf  _ h ⟨rfl,rfl⟩
theorem R7 {a:p9} {b:p9} {v:Bool} (h:JD a b=some v):qx 18 [(.av (a.map h0) a.length .shared),(.av (b.map h0) b.length .shared)] (B v):=by
 refine qK eG adC rfl rfl fun Q bp=>?_;have jJ:qH [.tmp 4] Q (fun v=>(B v)) v:=fun T H bE=>bp _ T H bE;unfold JD at h;unfold YC;obtain ⟨HN,qD⟩:∃ c,OY=c:=⟨_,rfl⟩;rw [qD];conv=>whnf
 refine bs h (fun gM h=>?_) fun gM h=>?_
 ·rw [gM];conv=>whnf
  exact qe h jJ rfl rfl
 ·rw [gM];conv=>whnf
  subst qD;refine ahk ?_ ?_ (by exact rfl) h
  ·exact fun T H bE=>jJ T H bE
  ·intro  qf h qA;obtain ⟨rD,rfl⟩:=qA.ex;(conv=>whnf);exact qe h jJ rfl rfl

noncomputable def YE:gE :=
 p2 [p0 2 [.jq 0] .box,qd 4 0,qd 5 0] (p2 [p0 9 [.Bs 2] (.zE (.str 3)),p1 10 1,p0 11 [.cv (.func 23 [] []),.nc 9,.nc 10] (.call 3),p1 8 11,qJ 12 8 0,p0 13 [.Bs 8] (.ext 1),p1 6 12,p1 7 13] (p2 [p1 14 6,qT 15 14,p1 16 7,p1 4 15,p1 5 16] .ret))
theorem adE:ql Tryz.prog SX 21=some (YE,17,[.tmp 4,.tmp 5]):=by kernel_rfl
def K6 (p:(qk×(Int×Int))) (order:p9):Option (Int×Int) :=
 (K7 p order).bind fun aS =>
 some ((aS.1.length:Int),aS.2)
theorem XZ {p:(qk×(Int×Int))} {order:p9} {v:(Int×Int)} (h:K6 p order=some v):qx 21 [(.agg [(.av (p.1.flatMap p7) p.1.length .shared),(h0 p.2.1),(h0 p.2.2)]),(.av (order.map h0) order.length .shared)] (.tuple [(h0 v.1),(h0 v.2)]):=by
 refine qK eG adE rfl (I4 (p6 rfl (p6 rfl rfl))) fun Q bp=>?_;have jJ:qH [.tmp 4,.tmp 5] Q (fun v=>(.tuple [(h0 v.1),(h0 v.2)])) v:=fun T H bE=>bp _ T H bE;unfold K6 at h;unfold YE;conv=>whnf
 obtain ⟨aS,gM,h⟩:=p' h;refine ⟨qj.pl,_,X0 gM,?_⟩;conv=>whnf
 exact qe h jJ rfl rfl

def I9 (x:(Int×Int)):List I:=[(h0 x.1),(h0 x.2)]
theorem Pf (x:(Int×Int)):(I9 x).length=2:=rfl
instance {d:Nat} {x:(Int×Int)}:qj (d+1) (I9 x):=⟨(inferInstance:qj (d+1) [(h0 x.1),(h0 x.2)]).pl⟩
noncomputable def O_:gE :=
 .loop (some (p8 false [2,1,3,3,27])) (.seq (p2 [p3 13 8,qP 14 13 1,p3 15 2,qT 16 15,qm 17 14 16 .lss] (.cond (.nc 17) .skip (.exit 0))) (.seq (.block 1 (q8 [p0 20 [.nc 7] (.yM 0),p0 21 [.Bs 20] .take,p3 22 2,p3 23 8,q5 24 22 23 1,qg 25 24,p3 26 2,p3 27 8,qP 28 27 1,q5 29 26 28 1,qg 30 29,p0 31 [.Bs 25,.Bs 30] (.build [.int .i64 0,.int .i64 0] [(0,1),(1,1)]),p0 32 [.Bs 31] (.yB 1 2 [.int .i64 0,.int .i64 0] [0]),p0 33 [.jq 21,.jq 32] (.app 2 16),p0 34 [.nc 7] (.yM 0),⟨none,[.jq 34,.jq 33],none,none,.st 1⟩])) (qF [p1 18 8,qP 19 18 2,p1 8 19])))
noncomputable def Y2:gE :=
 p2 [p0 6 [] (.alloc [.av [] 0 .full,.int .i64 0,.int .i64 0])] (p2 [p1 9 0,p1 10 1,p0 11 [.Bs 9,.Bs 10] (.build [.int .i64 0,.int .i64 0] [(0,1),(1,1)]),p0 12 [.Bs 11] (.build [.av [] 0 .full,.int .i64 0,.int .i64 0] [(1,2)]),p0 7 [] (.alloc [.av [] 0 .full,.int .i64 0,.int .i64 0]),⟨none,[.nc 7,.jq 12],none,none,.st 3⟩] (.seq (p2 [qd 8 0] (.block 0 O_)) (p2 [p0 35 [.Bs 7] (.zE (.str 3)),⟨none,[.nc 6,.jq 35],none,none,.st 3⟩] .ret)))
theorem ad1:ql Tryz.prog Pv 64=some (Y2,36,[.cell 6 (.str 3)]):=by kernel_rfl
def Nh (x:p9) (p_:qk→Option (qk×(Int×Int))):Nat→Int→qk→Option (qk×(Int×Int))
 | 0,_,_=>none
 | m+1,s1,s2 =>
   if (decide ((w (s1+(1:Int)))<(x.length:Int)))=true then
    qs (0≤s1∧s1<(x.length:Int)) <|
    qs (0≤(w (s1+(1:Int)))∧(w (s1+(1:Int)))<(x.length:Int)) <|
    qs ((s2.length+1)*16≤140737488355328) <|
    Nh x p_ m (w (s1+(2:Int))) (s2++[((ix x s1),(ix x (w (s1+(1:Int)))))])
   else
    p_ s2
def Ng (lo hi:Int) (x:p9):Option (qk×(Int×Int)) :=
 Nh x (fun yn =>
   some (yn,(lo,hi))) qi (0:Int) ([]:List (Int×Int))
theorem ah0 {x:p9} {p_:qk→Option (qk×(Int×Int))} {s1:Int} {s2:qk} {lo:Int} {hi:Int} {v:(qk×(Int×Int))} {Q:Hr}   {Ka:hE} (rf:∀ (yn:qk) (qf:List I),p_ yn=some v→ry 36 [(6,(.ptr 0 0)),(7,(.ptr 1 0))] qf→Q (.exit 0) qf [ar.cells [(.av [] 0 .full),(h0 (0:Int)),(h0 (0:Int))],ar.cells [(.av (yn.flatMap I9) yn.length .full),(h0 lo),(h0 hi)]]) (acn:∀ (yn:qk) (qf:List I),p_ yn=some v→ry 36 [(6,(.ptr 0 0)),(7,(.ptr 1 0))] qf→Q (.exit 0) qf [ar.cells [(.av [] 0 .full),(h0 (0:Int)),(h0 (0:Int))],ar.cells [(.av (yn.flatMap I9) yn.length (.own 2)),(h0 lo),(h0 hi)]]) (Qs:(Ka=hE.full∨Ka=(.own 2))) {T:List I} (b0:eZ (p8 false [2,1,3,3,27]) T=qa 36 [(2,(qG x .shared)),(6,(.ptr 0 0)),(7,(.ptr 1 0)),(8,(h0 s1))]) (h:Nh x p_ qi s1 s2=some v) :
  dQ Tryz.prog Pv 64 0 none O_ T [ar.cells [(.av [] 0 .full),(h0 (0:Int)),(h0 (0:Int))],ar.cells [(.av (s2.flatMap I9) s2.length Ka),(h0 lo),(h0 hi)]] Q:=by
 unfold O_;refine wp_loop b0 ?_;refine .intro (fun m T H=>∃ (s1:Int) (s2:qk) (Ka:hE),(Ka=hE.full∨Ka=(.own 2))∧T=qa 36 [(2,(qG x .shared)),(6,(.ptr 0 0)),(7,(.ptr 1 0)),(8,(h0 s1))]∧H=[ar.cells [(.av [] 0 .full),(h0 (0:Int)),(h0 (0:Int))],ar.cells [(.av (s2.flatMap I9) s2.length Ka),(h0 lo),(h0 hi)]]∧Nh x p_ m s1 s2=some v) qi ⟨s1,s2,_,Qs,rfl,rfl,h⟩ ?_;clear h b0;rintro m T H ⟨s1,s2,Ka,Qs,rfl,rfl,h⟩;cases m
 ·exact rT h
 rename_i m;rw [Nh.eq_2] at h;rcases Qs with rfl | rfl
 ·conv=>whnf
  refine bs h (fun gM h=>?_) fun gM h=>?_
  ·rw [gM];(conv=>whnf);refine qW h id fun gN h=>?_;rw [rb h0 x s1 gN];(conv=>whnf);refine qW h id fun qp h=>?_;rw [rb h0 x (w (s1+(1:Int))) qp];(conv=>whnf);obtain ⟨qI,h⟩:=rM h;refine ⟨by first | rfl | (simp;done) | exact HZ I9 _ Pf _,by have:=qI;omega,by decide,qI,by first | rfl | (simp;done) | exact HZ I9 _ Pf _,?_⟩
   erw [TA I9 s2 ((ix x s1),(ix x (w (s1+(1:Int)))))];(conv=>whnf);exact ⟨m,sE m,(w (s1+(2:Int))),(s2++[((ix x s1),(ix x (w (s1+(1:Int)))))]),_,(.inr rfl),rfl,rfl,h⟩
  ·rw [gM];(conv=>whnf);exact rf _ _ h ⟨rfl,rfl⟩
 ·conv=>whnf
  refine bs h (fun gM h=>?_) fun gM h=>?_
  ·rw [gM];(conv=>whnf);refine qW h id fun gN h=>?_;rw [rb h0 x s1 gN];(conv=>whnf);refine qW h id fun qp h=>?_;rw [rb h0 x (w (s1+(1:Int))) qp];(conv=>whnf);obtain ⟨qI,h⟩:=rM h;refine ⟨by first | rfl | (simp;done) | exact HZ I9 _ Pf _,by have:=qI;omega,rfl,qI,?_⟩
   erw [TA I9 s2 ((ix x s1),(ix x (w (s1+(1:Int)))))];(conv=>whnf);exact ⟨m,sE m,(w (s1+(2:Int))),(s2++[((ix x s1),(ix x (w (s1+(1:Int)))))]),_,(.inr rfl),rfl,rfl,h⟩
  ·rw [gM];(conv=>whnf);exact acn _ _ h ⟨rfl,rfl⟩
theorem Sk {lo:Int} {hi:Int} {x:p9} {v:(qk×(Int×Int))} (h:Ng lo hi x=some v):qx 64 [(h0 lo),(h0 hi),(.av (x.map h0) x.length .shared)] (.agg [(.av (v.1.flatMap p7) v.1.length .shared),(h0 v.2.1),(h0 v.2.2)]):=by
 refine qK eG ad1 rfl (HU (p6 (Hy (fun _=>(p6 rfl (p6 rfl rfl))) _ _ _) (p6 rfl (p6 rfl rfl)))) fun Q bp=>?_;have jJ:qH [.cell 6 (.str 3)] Q (fun v=>(.agg [(re v.1 .shared),(h0 v.2.1),(h0 v.2.2)])) v:=fun T H bE=>bp _ T H bE;unfold Ng at h;unfold Y2;obtain ⟨HN,qD⟩:∃ c,O_=c:=⟨_,rfl⟩;rw [qD];conv=>whnf
 subst qD;refine ah0 ?_ ?_ (.inl rfl) (by exact rfl) h
 ·intro yn qf h qA;obtain ⟨rD,rfl⟩:=qA.ex;conv=>whnf
  exact qe h jJ rfl rfl
 ·intro yn qf h qA;obtain ⟨rD,rfl⟩:=qA.ex;conv=>whnf
  exact qe h jJ rfl rfl

noncomputable def YL:gE :=
 p2 [p0 0 [] (.alloc [.av [] 0 .full,.int .i64 0,.int .i64 0])] (p2 [p0 1 [.cv (.int .i64 10),.cv (.int .i64 1),.cv (.int .i64 5),.cv (.int .i64 0),.cv (.int .i64 10),.cv (.int .i64 1)] (.yB 6 1 [.int .i64 0] [0,1,2,3,4,5]),p0 2 [.cv (.func 64 [] []),.cv (.int .i64 0),.cv (.int .i64 4),.nc 1] (.call 3),⟨none,[.nc 0,.jq 2],none,none,.st 3⟩] .ret)
theorem adL:ql Tryz.prog S3 33=some (YL,3,[.cell 0 (.str 3)]):=by kernel_rfl
def OL  : Option (qk×(Int×Int)) :=
 (Ng (0:Int) (4:Int) [(10:Int),(1:Int),(5:Int),(0:Int),(10:Int),(1:Int)]).bind fun aS =>
 some aS
theorem ahB  {v:(qk×(Int×Int))} (h:OL  = some v):qx 33 [] (.agg [(.av (v.1.flatMap p7) v.1.length .shared),(h0 v.2.1),(h0 v.2.2)]):=by
 refine qK eG adL rfl (HU (p6 (Hy (fun _=>(p6 rfl (p6 rfl rfl))) _ _ _) (p6 rfl (p6 rfl rfl)))) fun Q bp=>?_;have jJ:qH [.cell 0 (.str 3)] Q (fun v=>(.agg [(re v.1 .shared),(h0 v.2.1),(h0 v.2.2)])) v:=fun T H bE=>bp _ T H bE;unfold OL at h;unfold YL;conv=>whnf
 obtain ⟨aS,gM,h⟩:=p' h;refine ⟨(p6 rfl (p6 rfl (p6 rfl rfl))),_,Sk gM,?_⟩;conv=>whnf
 exact qe h jJ rfl rfl

noncomputable def YM:gE :=
 p2 [p0 0 [] (.alloc [.av [] 0 .full,.int .i64 0,.int .i64 0])] (p2 [p0 1 [.cv (.int .i64 3),.cv (.int .i64 0),.cv (.int .i64 5),.cv (.int .i64 0),.cv (.int .i64 8),.cv (.int .i64 0)] (.yB 6 1 [.int .i64 0] [0,1,2,3,4,5]),p0 2 [.cv (.func 64 [] []),.cv (.int .i64 0),.cv (.int .i64 0),.nc 1] (.call 3),⟨none,[.nc 0,.jq 2],none,none,.st 3⟩] .ret)
theorem adM:ql Tryz.prog S4 34=some (YM,3,[.cell 0 (.str 3)]):=by kernel_rfl
def OM  : Option (qk×(Int×Int)) :=
 (Ng (0:Int) (0:Int) [(3:Int),(0:Int),(5:Int),(0:Int),(8:Int),(0:Int)]).bind fun aS =>
 some aS
theorem ahD  {v:(qk×(Int×Int))} (h:OM  = some v):qx 34 [] (.agg [(.av (v.1.flatMap p7) v.1.length .shared),(h0 v.2.1),(h0 v.2.2)]):=by
 refine qK eG adM rfl (HU (p6 (Hy (fun _=>(p6 rfl (p6 rfl rfl))) _ _ _) (p6 rfl (p6 rfl rfl)))) fun Q bp=>?_;have jJ:qH [.cell 0 (.str 3)] Q (fun v=>(.agg [(re v.1 .shared),(h0 v.2.1),(h0 v.2.2)])) v:=fun T H bE=>bp _ T H bE;unfold OM at h;unfold YM;conv=>whnf
 obtain ⟨aS,gM,h⟩:=p' h;refine ⟨(p6 rfl (p6 rfl (p6 rfl rfl))),_,Sk gM,?_⟩;conv=>whnf
 exact qe h jJ rfl rfl

noncomputable def YN:gE :=
 p2 [p0 0 [] (.alloc [.av [] 0 .full,.int .i64 0,.int .i64 0])] (p2 [p0 1 [.cv (.int .i64 4),.cv (.int .i64 0),.cv (.int .i64 6),.cv (.int .i64 0),.cv (.int .i64 1),.cv (.int .i64 0),.cv (.int .i64 6),.cv (.int .i64 0),.cv (.int .i64 4),.cv (.int .i64 0)] (.yB 10 1 [.int .i64 0] [0,1,2,3,4,5,6,7,8,9]),p0 2 [.cv (.func 64 [] []),.cv (.int .i64 0),.cv (.int .i64 9),.nc 1] (.call 3),⟨none,[.nc 0,.jq 2],none,none,.st 3⟩] .ret)
theorem adN:ql Tryz.prog S5 35=some (YN,3,[.cell 0 (.str 3)]):=by kernel_rfl
def OO  : Option (qk×(Int×Int)) :=
 (Ng (0:Int) (9:Int) [(4:Int),(0:Int),(6:Int),(0:Int),(1:Int),(0:Int),(6:Int),(0:Int),(4:Int),(0:Int)]).bind fun aS =>
 some aS
theorem ahF  {v:(qk×(Int×Int))} (h:OO  = some v):qx 35 [] (.agg [(.av (v.1.flatMap p7) v.1.length .shared),(h0 v.2.1),(h0 v.2.2)]):=by
 refine qK eG adN rfl (HU (p6 (Hy (fun _=>(p6 rfl (p6 rfl rfl))) _ _ _) (p6 rfl (p6 rfl rfl)))) fun Q bp=>?_;have jJ:qH [.cell 0 (.str 3)] Q (fun v=>(.agg [(re v.1 .shared),(h0 v.2.1),(h0 v.2.2)])) v:=fun T H bE=>bp _ T H bE;unfold OO at h;unfold YN;conv=>whnf
 obtain ⟨aS,gM,h⟩:=p' h;refine ⟨(p6 rfl (p6 rfl (p6 rfl rfl))),_,Sk gM,?_⟩;conv=>whnf
 exact qe h jJ rfl rfl

noncomputable def YO:gE :=
 p2 [p0 2 [.cv (.av [] 0 .full)] (.nil 1)] (p2 [p1 3 0,p1 2 3] .ret)
theorem adO:ql Tryz.prog S6 36=some (YO,4,[.tmp 2]):=by kernel_rfl
def Iq (x:p9):Option p9 :=
 some x
theorem I7 {x:p9} {v:p9} (h:Iq x=some v):qx 36 [(.av (x.map h0) x.length .shared)] (.av (v.map h0) v.length .shared):=by
 refine qK eG adO rfl (rC (fun _=>rfl) _ _ _) fun Q bp=>?_;have jJ:qH [.tmp 2] Q (fun v=>(qG v .shared)) v:=fun T H bE=>bp _ T H bE;unfold Iq at h;unfold YO;conv=>whnf
 exact qe h jJ rfl rfl

noncomputable def YP:gE :=
 p2 [p0 2 [.cv (.av [] 0 .full)] (.nil 3)] (p2 [p1 3 0,p1 2 3] .ret)
theorem adP:ql Tryz.prog S7 37=some (YP,4,[.tmp 2]):=by kernel_rfl
def L' (x:(List (Int×(Int×Int)))):Option (List (Int×(Int×Int))) :=
 some x
theorem R' {x:(List (Int×(Int×Int)))} {v:(List (Int×(Int×Int)))} (h:L' x=some v):qx 37 [(.av (x.flatMap qn) x.length .shared)] (.av (v.flatMap qn) v.length .shared):=by
 refine qK eG adP rfl (Hy (fun _=>(p6 rfl (p6 rfl (p6 rfl rfl)))) _ _ _) fun Q bp=>?_;have jJ:qH [.tmp 2] Q (fun v=>(.av (v.flatMap qn) v.length .shared)) v:=fun T H bE=>bp _ T H bE;unfold L' at h;unfold YP;conv=>whnf
 exact qe h jJ rfl rfl

noncomputable def YQ:gE :=
 p2 [p0 6 [] (.alloc [.int .i64 0,.int .i64 0,.int .i64 0])] (p2 [p1 7 0,p1 8 1,p1 9 2,p0 10 [.Bs 8,.Bs 9] (.build [.int .i64 0,.int .i64 0] [(0,1),(1,1)]),p0 11 [.Bs 7,.Bs 10] (.build [.int .i64 0,.int .i64 0,.int .i64 0] [(0,1),(1,2)]),⟨none,[.nc 6,.jq 11],none,none,.st 3⟩] .ret)
theorem adQ:ql Tryz.prog S8 38=some (YQ,12,[.cell 6 (.str 3)]):=by kernel_rfl
def Ma (Oq pull more:Int):Option (Int×(Int×Int)) :=
 some (Oq,(pull,more))
theorem Sa {Oq:Int} {pull:Int} {more:Int} {v:(Int×(Int×Int))} (h:Ma Oq pull more=some v):qx 38 [(h0 Oq),(h0 pull),(h0 more)] (.agg [(h0 v.1),(h0 v.2.1),(h0 v.2.2)]):=by
 refine qK eG adQ rfl (HU (p6 rfl (p6 rfl (p6 rfl rfl)))) fun Q bp=>?_;have jJ:qH [.cell 6 (.str 3)] Q (fun v=>(.agg [(h0 v.1),(h0 v.2.1),(h0 v.2.2)])) v:=fun T H bE=>bp _ T H bE;unfold Ma at h;unfold YQ;conv=>whnf
 exact qe h jJ rfl rfl
end Go.Proofs.YtkoioidpbbbaiaaGreat.Ab


namespace Go.Proofs.YtkoioidpbbbaiaaGreat.Ab
open Go
set_option maxRecDepth 100000
set_option maxHeartbeats 4000000
noncomputable def YA:gE :=
 p2 [p0 0 [.cv (.bool false)] .mU] (p2 [p0 34 [.cv (.func 33 [] [])] (.call 3),p0 35 [.cv (.func 34 [] [])] (.call 3),p0 36 [.cv (.func 35 [] [])] (.call 3),p0 1 [] (.alloc [.av [] 0 .full,.int .i64 0,.int .i64 0]),p0 2 [] (.alloc [.av [] 0 .full,.int .i64 0,.int .i64 0]),p0 3 [] (.alloc [.av [] 0 .full,.int .i64 0,.int .i64 0]),⟨none,[.nc 1,.jq 34],none,none,.st 3⟩,⟨none,[.nc 2,.jq 35],none,none,.st 3⟩,⟨none,[.nc 3,.jq 36],none,none,.st 3⟩] (.seq (q8 [p0 38 [.nc 3] (.zE (.str 3)),p0 39 [.cv (.int .i64 1),.cv (.int .i64 0),.cv (.int .i64 2),.cv (.int .i64 3),.cv (.int .i64 4)] (.yB 5 1 [.int .i64 0] [0,1,2,3,4]),p0 40 [.cv (.func 36 [] []),.nc 39] (.call 3),p0 41 [.cv (.func 30 [] []),.nc 38,.nc 40,.cv (.int .i64 0)] (.call 3),p1 37 41,qJ 42 37 0,qJ 43 37 1,qJ 44 37 2,p1 4 42,p1 5 43,p1 6 44]) (.seq (q8 [p0 46 [.nc 1] (.zE (.str 3)),p0 47 [.cv (.int .i64 1),.cv (.int .i64 0),.cv (.int .i64 2)] (.yB 3 1 [.int .i64 0] [0,1,2]),p0 48 [.cv (.func 36 [] []),.nc 47] (.call 3),p0 49 [.cv (.func 30 [] []),.nc 46,.nc 48,.cv (.int .i64 5)] (.call 3),p1 45 49,qJ 50 45 0,qJ 51 45 1,qJ 52 45 2,p1 7 50,p1 8 51,p1 9 52]) (.seq (q8 [p0 54 [.nc 1] (.zE (.str 3)),p0 55 [.cv (.int .i64 1),.cv (.int .i64 0),.cv (.int .i64 2)] (.yB 3 1 [.int .i64 0] [0,1,2]),p0 56 [.cv (.func 36 [] []),.nc 55] (.call 3),p0 57 [.cv (.func 29 [] []),.nc 54,.nc 56] (.call 3),p1 53 57,qJ 58 53 0,qJ 59 53 1,p1 10 58,p1 11 59]) (.seq (q8 [p0 61 [.Bs 1] (.zE (.str 3)),p0 62 [.cv (.int .i64 0),.cv (.int .i64 1),.cv (.int .i64 1)] (.yB 3 1 [.int .i64 0] [0,1,2]),p0 63 [.cv (.func 36 [] []),.nc 62] (.call 3),p0 64 [.cv (.func 29 [] []),.nc 61,.nc 63] (.call 3),p1 60 64,qJ 65 60 0,qJ 66 60 1,p1 12 65,p1 13 66]) (p2 [p0 68 [.nc 2] (.zE (.str 3)),p0 69 [.cv (.func 12 [] []),.nc 68] (.call 3),p1 67 69,qJ 70 67 0,p0 71 [.Bs 67] (.ext 1),p1 14 70,p1 15 71] (p2 [p0 73 [.nc 2] (.zE (.str 3)),p0 74 [.cv (.func 14 [] []),.nc 73] (.call 3),p1 72 74,qJ 75 72 0,p0 76 [.Bs 72] (.ext 1),p1 16 75,p1 17 76] (p2 [p0 78 [.nc 3] (.zE (.str 3)),p0 79 [.cv (.func 16 [] []),.nc 78] (.call 3),p1 77 79,qJ 80 77 0,p0 81 [.Bs 77] (.ext 1),p1 18 80,p1 19 81] (.seq (q8 [p0 83 [.nc 2] (.zE (.str 3)),p0 84 [.cv (.int .i64 0),.cv (.int .i64 2),.cv (.int .i64 1)] (.yB 3 1 [.int .i64 0] [0,1,2]),p0 85 [.cv (.func 36 [] []),.nc 84] (.call 3),p0 86 [.cv (.func 38 [] []),.cv (.int .i64 0),.cv (.int .i64 5),.cv (.int .i64 0)] (.call 3),p0 87 [.Bs 86] (.yB 1 3 [.int .i64 0,.int .i64 0,.int .i64 0] [0]),p0 88 [.cv (.func 37 [] []),.nc 87] (.call 3),p0 89 [.cv (.func 19 [] []),.nc 83,.nc 85,.nc 88] (.call 3),p1 82 89,qJ 90 82 0,qJ 91 82 1,p1 20 90,p1 21 91]) (.seq (q8 [p0 93 [.nc 2] (.zE (.str 3)),p0 94 [.cv (.int .i64 0),.cv (.int .i64 2),.cv (.int .i64 1)] (.yB 3 1 [.int .i64 0] [0,1,2]),p0 95 [.cv (.func 36 [] []),.nc 94] (.call 3),p0 96 [.cv (.func 38 [] []),.cv (.int .i64 2),.cv (.int .i64 1),.cv (.int .i64 0)] (.call 3),p0 97 [.Bs 96] (.yB 1 3 [.int .i64 0,.int .i64 0,.int .i64 0] [0]),p0 98 [.cv (.func 37 [] []),.nc 97] (.call 3),p0 99 [.cv (.func 19 [] []),.nc 93,.nc 95,.nc 98] (.call 3),p1 92 99,qJ 100 92 0,qJ 101 92 1,p1 22 100,p1 23 101]) (.seq (q8 [p0 103 [.nc 2] (.zE (.str 3)),p0 104 [.cv (.int .i64 0),.cv (.int .i64 2),.cv (.int .i64 1)] (.yB 3 1 [.int .i64 0] [0,1,2]),p0 105 [.cv (.func 36 [] []),.nc 104] (.call 3),p0 106 [.cv (.func 38 [] []),.cv (.int .i64 0),.cv (.int .i64 101),.cv (.int .i64 0)] (.call 3),p0 107 [.Bs 106] (.yB 1 3 [.int .i64 0,.int .i64 0,.int .i64 0] [0]),p0 108 [.cv (.func 37 [] []),.nc 107] (.call 3),p0 109 [.cv (.func 19 [] []),.nc 103,.nc 105,.nc 108] (.call 3),p1 102 109,qJ 110 102 0,qJ 111 102 1,p1 24 110,p1 25 111]) (.seq (q8 [p0 113 [.Bs 3] (.zE (.str 3)),p0 114 [.cv (.int .i64 1),.cv (.int .i64 0),.cv (.int .i64 2),.cv (.int .i64 3),.cv (.int .i64 4)] (.yB 5 1 [.int .i64 0] [0,1,2,3,4]),p0 115 [.cv (.func 36 [] []),.nc 114] (.call 3),p0 116 [.cv (.func 21 [] []),.nc 113,.nc 115] (.call 3),p1 112 116,qJ 117 112 0,qJ 118 112 1,p1 26 117,p1 27 118]) (.seq (q8 [p0 120 [.nc 2] (.zE (.str 3)),p0 121 [.cv (.int .i64 0),.cv (.int .i64 2),.cv (.int .i64 1)] (.yB 3 1 [.int .i64 0] [0,1,2]),p0 122 [.cv (.func 36 [] []),.nc 121] (.call 3),p0 123 [.cv (.func 23 [] []),.nc 120,.nc 122] (.call 3),p1 119 123,qJ 124 119 0,qJ 125 119 1,p1 28 124,p1 29 125]) (p2 [p0 127 [.nc 2] (.zE (.str 3)),p0 128 [.cv (.func 24 [] []),.nc 127] (.call 3),p1 126 128,qJ 129 126 0,p0 130 [.Bs 126] (.ext 1),p1 30 129,p1 31 130] (.seq (p2 [p1 131 6,qw 132 131 0 .neq,p1 133 132,cl 134 [.jq 9] 133 false .mU,cl 135 [.Bs 134,.cv (.int .i64 3)] 133 false (.bin .neq),p0 136 [.Bs 133,.cv (.bool true),.Bs 135] .pick,p1 137 136,cl 138 [.jq 11] 137 false .mU,cl 139 [.Bs 138,.cv (.int .i64 0)] 137 false (.bin .neq),p0 140 [.Bs 137,.cv (.bool true),.Bs 139] .pick,p1 141 140,cl 142 [.jq 13] 141 false .mU,cl 143 [.Bs 142,.cv (.int .i64 16)] 141 false (.bin .neq),p0 144 [.Bs 141,.cv (.bool true),.Bs 143] .pick,p1 145 144,cl 146 [.jq 15] 145 false .mU,cl 147 [.Bs 146,.cv (.int .i64 0)] 145 false (.bin .neq),p0 148 [.Bs 145,.cv (.bool true),.Bs 147] .pick,p1 149 148,cl 150 [.jq 17] 149 false .mU,cl 151 [.Bs 150,.cv (.int .i64 0)] 149 false (.bin .neq),p0 152 [.Bs 149,.cv (.bool true),.Bs 151] .pick,p1 153 152,cl 154 [.jq 19] 153 false .mU,cl 155 [.Bs 154,.cv (.int .i64 0)] 153 false (.bin .neq),p0 156 [.Bs 153,.cv (.bool true),.Bs 155] .pick,p1 157 156,cl 158 [.jq 21] 157 false .mU,cl 159 [.Bs 158,.cv (.int .i64 0)] 157 false (.bin .neq),p0 160 [.Bs 157,.cv (.bool true),.Bs 159] .pick,p1 161 160,cl 162 [.jq 23] 161 false .mU,cl 163 [.Bs 162,.cv (.int .i64 23)] 161 false (.bin .neq),p0 164 [.Bs 161,.cv (.bool true),.Bs 163] .pick,p1 165 164,cl 166 [.jq 25] 165 false .mU,cl 167 [.Bs 166,.cv (.int .i64 3)] 165 false (.bin .neq),p0 168 [.Bs 165,.cv (.bool true),.Bs 167] .pick,p1 169 168,cl 170 [.jq 27] 169 false .mU,cl 171 [.Bs 170,.cv (.int .i64 0)] 169 false (.bin .neq),p0 172 [.Bs 169,.cv (.bool true),.Bs 171] .pick,p1 173 172,cl 174 [.jq 29] 173 false .mU,cl 175 [.Bs 174,.cv (.int .i64 0)] 173 false (.bin .neq),p0 176 [.Bs 173,.cv (.bool true),.Bs 175] .pick,p1 177 176,cl 178 [.jq 31] 177 false .mU,cl 179 [.Bs 178,.cv (.int .i64 0)] 177 false (.bin .neq),p0 180 [.Bs 177,.cv (.bool true),.Bs 179] .pick] (.cond (.nc 180) (p2 [p0 0 [.cv (.bool false)] .mU] .ret) .skip)) (.seq (q8 [p0 182 [.Bs 2] (.zE (.str 3)),p0 183 [.cv (.int .i64 0),.cv (.int .i64 2),.cv (.int .i64 1)] (.yB 3 1 [.int .i64 0] [0,1,2]),p0 184 [.cv (.func 36 [] []),.nc 183] (.call 3),p1 185 28,p0 186 [.cv (.func 20 [] []),.nc 182,.nc 184,.nc 185] (.call 3),p1 181 186,qJ 187 181 0,qJ 188 181 1,p1 32 187,p1 33 188]) (p2 [p1 189 4,qw 190 189 (-4) .eql,p1 191 190,cl 192 [.jq 5] 191 true .mU,cl 193 [.Bs 192,.cv (.int .i64 2)] 191 true (.bin .eql),p0 194 [.Bs 191,.Bs 193,.cv (.bool false)] .pick,p1 195 194,cl 196 [.jq 10] 195 true .mU,cl 197 [.Bs 196,.cv (.int .i64 9)] 195 true (.bin .eql),p0 198 [.Bs 195,.Bs 197,.cv (.bool false)] .pick,p1 199 198,cl 200 [.jq 14] 199 true .mU,cl 201 [.Bs 200,.cv (.int .i64 2)] 199 true (.bin .eql),p0 202 [.Bs 199,.Bs 201,.cv (.bool false)] .pick,p1 203 202,cl 204 [.jq 16] 203 true .mU,⟨some 205,[.cv (.int .i64 0),.cv (.int .i64 2),.cv (.int .i64 1)],some (203,true),none,.yB 3 1 [.int .i64 0] [0,1,2]⟩,⟨some 206,[.cv (.func 36 [] []),.nc 205],some (203,true),none,.call 3⟩,⟨some 207,[.cv (.func 18 [] []),.nc 204,.nc 206],some (203,true),none,.call 3⟩,p0 208 [.Bs 203,.Bs 207,.cv (.bool false)] .pick,p1 209 208,cl 210 [.jq 18] 209 true .mU,cl 211 [.Bs 210,.cv (.int .i64 8)] 209 true (.bin .eql),p0 212 [.Bs 209,.Bs 211,.cv (.bool false)] .pick,p1 213 212,cl 214 [.jq 20] 213 true .mU,cl 215 [.Bs 214,.cv (.int .i64 1)] 213 true (.bin .eql),p0 216 [.Bs 213,.Bs 215,.cv (.bool false)] .pick,p1 217 216,cl 218 [.jq 26] 217 true .mU,cl 219 [.Bs 218,.cv (.int .i64 2)] 217 true (.bin .eql),p0 220 [.Bs 217,.Bs 219,.cv (.bool false)] .pick,p1 221 220,cl 222 [.jq 33] 221 true .mU,cl 223 [.Bs 222,.cv (.int .i64 0)] 221 true (.bin .eql),p0 224 [.Bs 221,.Bs 223,.cv (.bool false)] .pick,p1 225 224,cl 226 [.jq 32] 225 true .mU,cl 227 [.Bs 226,.cv (.int .i64 1)] 225 true (.bin .eql),p0 228 [.Bs 225,.Bs 227,.cv (.bool false)] .pick,p1 229 228,cl 230 [.jq 30] 229 true .mU,⟨some 231,[.cv (.int .i64 0),.cv (.int .i64 1),.cv (.int .i64 2)],some (229,true),none,.yB 3 1 [.int .i64 0] [0,1,2]⟩,⟨some 232,[.cv (.func 36 [] []),.nc 231],some (229,true),none,.call 3⟩,⟨some 233,[.cv (.func 18 [] []),.nc 230,.nc 232],some (229,true),none,.call 3⟩,p0 234 [.Bs 229,.Bs 233,.cv (.bool false)] .pick,p1 0 234] .ret)))))))))))))))))
theorem adA:ql Tryz.prog SP 11=some (YA,235,[.tmp 0]):=by kernel_rfl
def L9  : Option Bool :=
 (OL).bind fun aS =>
 (OM).bind fun bj =>
 (OO).bind fun eK =>
 (Iq [(1:Int),(0:Int),(2:Int),(3:Int),(4:Int)]).bind fun r0 =>
 (Kr eK r0 (0:Int)).bind fun HQ =>
 (Iq [(1:Int),(0:Int),(2:Int)]).bind fun Ip =>
 (Kr aS Ip (5:Int)).bind fun KT =>
 (Iq [(1:Int),(0:Int),(2:Int)]).bind fun KU =>
 (I6 aS KU).bind fun MI =>
 (Iq [(0:Int),(1:Int),(1:Int)]).bind fun N2 =>
 (I6 aS N2).bind fun VR =>
 (Kp bj).bind fun QR =>
 (J0 bj).bind fun QS =>
 (Kq eK).bind fun QT =>
 (Iq [(0:Int),(2:Int),(1:Int)]).bind fun VS =>
 (Ma (0:Int) (5:Int) (0:Int)).bind fun VT =>
 (L' [VT]).bind fun VU =>
 (JE bj VS VU).bind fun QU =>
 (Iq [(0:Int),(2:Int),(1:Int)]).bind fun VV =>
 (Ma (2:Int) (1:Int) (0:Int)).bind fun VW =>
 (L' [VW]).bind fun VX =>
 (JE bj VV VX).bind fun VY =>
 (Iq [(0:Int),(2:Int),(1:Int)]).bind fun VZ =>
 (Ma (0:Int) (101:Int) (0:Int)).bind fun V0 =>
 (L' [V0]).bind fun V1 =>
 (JE bj VZ V1).bind fun V2 =>
 (Iq [(1:Int),(0:Int),(2:Int),(3:Int),(4:Int)]).bind fun V3 =>
 (K6 eK V3).bind fun QV =>
 (Iq [(0:Int),(2:Int),(1:Int)]).bind fun V4 =>
 (K7 bj V4).bind fun QW =>
 (K8 bj).bind fun QX =>
 if (decide (HQ.2.2≠(0:Int)))=true then
  some false
 else
  if (decide (KT.2.2≠(3:Int)))=true then
   some false
  else
   if (decide (MI.2≠(0:Int)))=true then
    some false
   else
    if (decide (VR.2≠(16:Int)))=true then
     some false
    else
     if (decide (QR.2≠(0:Int)))=true then
      some false
     else
      if (decide (QS.2≠(0:Int)))=true then
       some false
      else
       if (decide (QT.2≠(0:Int)))=true then
        some false
       else
        if (decide (QU.2≠(0:Int)))=true then
         some false
        else
         if (decide (VY.2≠(23:Int)))=true then
          some false
         else
          if (decide (V2.2≠(3:Int)))=true then
           some false
          else
           if (decide (QV.2≠(0:Int)))=true then
            some false
           else
            if (decide (QW.2≠(0:Int)))=true then
             some false
            else
             if (decide (QX.2≠(0:Int)))=true then
              some false
             else
              (Iq [(0:Int),(2:Int),(1:Int)]).bind fun V5 =>
              (L_ bj V5 QW.1).bind fun QY =>
              if (decide (HQ.1=(-4:Int)))=true then
               if (decide (HQ.2.1=(2:Int)))=true then
                if (decide (MI.1=(9:Int)))=true then
                 if (decide (QR.1=(2:Int)))=true then
                  (Iq [(0:Int),(2:Int),(1:Int)]).bind fun V6 =>
                  (JD QS.1 V6).bind fun QZ =>
                  if QZ=true then
                   if (decide (QT.1=(8:Int)))=true then
                    if (decide (QU.1=(1:Int)))=true then
                     if (decide (QV.1=(2:Int)))=true then
                      if (decide (QY.2=(0:Int)))=true then
                       if (decide (QY.1=(1:Int)))=true then
                        (Iq [(0:Int),(1:Int),(2:Int)]).bind fun V7 =>
                        (JD QX.1 V7).bind fun V8 =>
                        some V8
                       else
                        some false
                      else
                       some false
                     else
                      some false
                    else
                     some false
                   else
                    some false
                  else
                   some false
                 else
                  some false
                else
                 some false
               else
                some false
              else
               some false
theorem R2  {v:Bool} (h:L9  = some v):qx 11 [] (B v):=by
 refine qK eG adA rfl rfl fun Q bp=>?_;have jJ:qH [.tmp 0] Q (fun v=>(B v)) v:=fun T H bE=>bp _ T H bE;unfold L9 at h;unfold YA;conv=>whnf
 obtain ⟨aS,gM,h⟩:=p' h;refine ⟨rfl,_,ahB gM,?_⟩;conv=>whnf
 obtain ⟨bj,gN,h⟩:=p' h;refine ⟨rfl,_,ahD gN,?_⟩;conv=>whnf
 obtain ⟨eK,qp,h⟩:=p' h;refine ⟨rfl,_,ahF qp,?_⟩;conv=>whnf
 obtain ⟨r0,qI,h⟩:=p' h;refine ⟨(p6 rfl rfl),_,I7 qI,Hf,?_⟩;conv=>whnf
 obtain ⟨HQ,q9,h⟩:=p' h;refine ⟨qj.pl,_,X6 q9,Ib rfl,?_⟩;conv=>whnf
 obtain ⟨Ip,rH,h⟩:=p' h;refine ⟨(p6 rfl rfl),_,I7 rH,Hf,?_⟩;conv=>whnf
 obtain ⟨KT,qU,h⟩:=p' h;refine ⟨qj.pl,_,X6 qU,Ib rfl,?_⟩;conv=>whnf
 obtain ⟨KU,rN,h⟩:=p' h;refine ⟨(p6 rfl rfl),_,I7 rN,Hf,?_⟩;conv=>whnf
 obtain ⟨MI,rE,h⟩:=p' h;refine ⟨qj.pl,_,M7 rE,Ib rfl,?_⟩;conv=>whnf
 obtain ⟨N2,Hv,h⟩:=p' h;refine ⟨(p6 rfl rfl),_,I7 Hv,Hf,?_⟩;conv=>whnf
 obtain ⟨VR,Kd,h⟩:=p' h;refine ⟨qj.pl,_,M7 Kd,Ib rfl,?_⟩;conv=>whnf
 obtain ⟨QR,KM,h⟩:=p' h;refine ⟨qj.pl,_,XV KM,?_⟩;conv=>whnf
 obtain ⟨QS,Lz,h⟩:=p' h;refine ⟨qj.pl,_,R4 Lz,?_⟩;conv=>whnf
 obtain ⟨QT,P6,h⟩:=p' h;refine ⟨qj.pl,_,XY P6,?_⟩;conv=>whnf
 obtain ⟨VS,Mz,h⟩:=p' h;refine ⟨(p6 rfl rfl),_,I7 Mz,Hf,?_⟩;conv=>whnf
 obtain ⟨VT,abI,h⟩:=p' h;refine ⟨(p6 rfl (p6 rfl (p6 rfl rfl))),_,Sa abI,Ib rfl,?_⟩;conv=>whnf
 obtain ⟨VU,abJ,h⟩:=p' h;refine ⟨(p6 rfl rfl),_,R' abJ,Ib rfl,?_⟩;conv=>whnf
 obtain ⟨QU,abK,h⟩:=p' h;refine ⟨qj.pl,_,R9 abK,Ib rfl,?_⟩;conv=>whnf
 obtain ⟨VV,abL,h⟩:=p' h;refine ⟨(p6 rfl rfl),_,I7 abL,Hf,?_⟩;conv=>whnf
 obtain ⟨VW,abM,h⟩:=p' h;refine ⟨(p6 rfl (p6 rfl (p6 rfl rfl))),_,Sa abM,Ib rfl,?_⟩;conv=>whnf
 obtain ⟨VX,abN,h⟩:=p' h;refine ⟨(p6 rfl rfl),_,R' abN,Ib rfl,?_⟩;conv=>whnf
 obtain ⟨VY,abO,h⟩:=p' h;refine ⟨qj.pl,_,R9 abO,Ib rfl,?_⟩;conv=>whnf
 obtain ⟨VZ,abP,h⟩:=p' h;refine ⟨(p6 rfl rfl),_,I7 abP,Hf,?_⟩;conv=>whnf
 obtain ⟨V0,abQ,h⟩:=p' h;refine ⟨(p6 rfl (p6 rfl (p6 rfl rfl))),_,Sa abQ,Ib rfl,?_⟩;conv=>whnf
 obtain ⟨V1,abR,h⟩:=p' h;refine ⟨(p6 rfl rfl),_,R' abR,Ib rfl,?_⟩;conv=>whnf
 obtain ⟨V2,abS,h⟩:=p' h;refine ⟨qj.pl,_,R9 abS,Ib rfl,?_⟩;conv=>whnf
 obtain ⟨V3,abT,h⟩:=p' h;refine ⟨(p6 rfl rfl),_,I7 abT,Hf,?_⟩;conv=>whnf
 obtain ⟨QV,abU,h⟩:=p' h;refine ⟨qj.pl,_,XZ abU,Ib rfl,?_⟩;conv=>whnf
 obtain ⟨V4,abV,h⟩:=p' h;refine ⟨(p6 rfl rfl),_,I7 abV,Hf,?_⟩;conv=>whnf
 obtain ⟨QW,abW,h⟩:=p' h;refine ⟨qj.pl,_,X0 abW,Ib rfl,?_⟩;conv=>whnf
 obtain ⟨QX,abX,h⟩:=p' h;refine ⟨qj.pl,_,X2 abX,?_⟩;conv=>whnf
 refine bs h (fun P7 h=>?_) fun P7 h=>?_
 ·rw [P7];conv=>whnf
  exact qe h jJ rfl rfl
 ·rw [P7];conv=>whnf
  refine bs h (fun P8 h=>?_) fun P8 h=>?_
  ·rw [P8];(conv=>whnf);exact qe h jJ rfl rfl
  ·rw [P8];(conv=>whnf);refine bs h (fun P9 h=>?_) fun P9 h=>?_
   ·rw [P9];(conv=>whnf);exact qe h jJ rfl rfl
   ·rw [P9];(conv=>whnf);refine bs h (fun P_ h=>?_) fun P_ h=>?_
    ·rw [P_];(conv=>whnf);exact qe h jJ rfl rfl
    ·rw [P_];(conv=>whnf);refine bs h (fun P' h=>?_) fun P' h=>?_
     ·rw [P'];(conv=>whnf);exact qe h jJ rfl rfl
     ·rw [P'];(conv=>whnf);refine bs h (fun Qa h=>?_) fun Qa h=>?_
      ·rw [Qa];(conv=>whnf);exact qe h jJ rfl rfl
      ·rw [Qa];(conv=>whnf);refine bs h (fun Qb h=>?_) fun Qb h=>?_
       ·rw [Qb];(conv=>whnf);exact qe h jJ rfl rfl
       ·rw [Qb];(conv=>whnf);refine bs h (fun Qc h=>?_) fun Qc h=>?_
        ·rw [Qc];(conv=>whnf);exact qe h jJ rfl rfl
        ·rw [Qc];(conv=>whnf);refine bs h (fun Qd h=>?_) fun Qd h=>?_
         ·rw [Qd];(conv=>whnf);exact qe h jJ rfl rfl
         ·rw [Qd];(conv=>whnf);refine bs h (fun Qe h=>?_) fun Qe h=>?_
          ·rw [Qe];(conv=>whnf);exact qe h jJ rfl rfl
          ·rw [Qe];(conv=>whnf);refine bs h (fun Qf h=>?_) fun Qf h=>?_
           ·rw [Qf];(conv=>whnf);exact qe h jJ rfl rfl
           ·rw [Qf];(conv=>whnf);refine bs h (fun Qg h=>?_) fun Qg h=>?_
            ·rw [Qg];(conv=>whnf);exact qe h jJ rfl rfl
            ·rw [Qg];(conv=>whnf);refine bs h (fun Qh h=>?_) fun Qh h=>?_
             ·rw [Qh];(conv=>whnf);exact qe h jJ rfl rfl
             ·rw [Qh];(conv=>whnf);obtain ⟨V5,abY,h⟩:=p' h;refine ⟨(p6 rfl rfl),_,I7 abY,Hf,?_⟩;(conv=>whnf);obtain ⟨QY,abZ,h⟩:=p' h;refine ⟨qj.pl,_,aho abZ,Ib rfl,?_⟩;(conv=>whnf);refine bs h (fun Qi h=>?_) fun Qi h=>?_
              ·rw [Qi];(conv=>whnf);refine bs h (fun Qj h=>?_) fun Qj h=>?_
               ·rw [Qj];(conv=>whnf);refine bs h (fun Qk h=>?_) fun Qk h=>?_
                ·rw [Qk];(conv=>whnf);refine bs h (fun Ql h=>?_) fun Ql h=>?_
                 ·rw [Ql];(conv=>whnf);obtain ⟨V6,ab0,h⟩:=p' h;refine ⟨(p6 rfl rfl),_,I7 ab0,?_⟩;(conv=>whnf);obtain ⟨QZ,ab1,h⟩:=p' h;refine ⟨qj.pl,_,R7 ab1,?_⟩;(conv=>whnf);cases QZ
                  ·(conv=>whnf);replace h:=Ho rfl h;exact qe h jJ rfl rfl
                  ·(conv=>whnf);replace h:=Hp rfl h;refine bs h (fun Qm h=>?_) fun Qm h=>?_
                   ·rw [Qm];(conv=>whnf);refine bs h (fun Qn h=>?_) fun Qn h=>?_
                    ·rw [Qn];(conv=>whnf);refine bs h (fun Qo h=>?_) fun Qo h=>?_
                     ·rw [Qo];(conv=>whnf);refine bs h (fun Qp h=>?_) fun Qp h=>?_
                      ·rw [Qp];(conv=>whnf);refine bs h (fun Qq h=>?_) fun Qq h=>?_
                       ·rw [Qq];(conv=>whnf);obtain ⟨V7,ab2,h⟩:=p' h;refine ⟨(p6 rfl rfl),_,I7 ab2,?_⟩;(conv=>whnf);obtain ⟨V8,ab3,h⟩:=p' h;refine ⟨qj.pl,_,R7 ab3,?_⟩;(conv=>whnf);exact qe h jJ rfl rfl
                       ·rw [Qq];(conv=>whnf);exact qe h jJ rfl rfl
                      ·rw [Qp];(conv=>whnf);exact qe h jJ rfl rfl
                     ·rw [Qo];(conv=>whnf);exact qe h jJ rfl rfl
                    ·rw [Qn];(conv=>whnf);exact qe h jJ rfl rfl
                   ·rw [Qm];(conv=>whnf);exact qe h jJ rfl rfl
                 ·rw [Ql];(conv=>whnf);exact qe h jJ rfl rfl
                ·rw [Qk];(conv=>whnf);exact qe h jJ rfl rfl
               ·rw [Qj];(conv=>whnf);exact qe h jJ rfl rfl
              ·rw [Qi];(conv=>whnf);exact qe h jJ rfl rfl
end Go.Proofs.YtkoioidpbbbaiaaGreat.Ab


namespace Go.Proofs.YtkoioidpbbbaiaaGreat.Ab
open Go
set_option maxRecDepth 20000
set_option maxHeartbeats 1000000
def NZ:qb:=([(10,1),(5,0),(10,1)],(0,4))
def HP:qb:=([(3,0),(5,0),(8,0)],(0,0))
def LJ:qb:=([(4,0),(6,0),(1,0),(6,0),(4,0)],(0,9))
theorem ahA:OL=some NZ:=by decide +kernel
theorem ahC:OM=some HP:=by decide +kernel
theorem ahE:OO=some LJ:=by decide +kernel
theorem ag9:Kr LJ [1,0,2,3,4] 0=some (-4,2,0):=by
 rw [X5 (by decide) (by decide)];decide +kernel
theorem ag_:Kr NZ [1,0,2] 5=some (0,0,3):=by
 rw [X5 (by decide) (by decide)];decide +kernel
theorem ag7:I6 NZ [1,0,2]=some (9,0):=by
 rw [OK (by decide) (by decide)];decide +kernel
theorem ag8:I6 NZ [0,1,1]=some (0,16):=by
 rw [OK (by decide) (by decide)];decide +kernel
theorem agW:Kp HP=some (2,0):=by
 rw [XU (by decide)];decide +kernel
theorem agX:J0 HP=some ([0,2,1],0):=by
 rw [R3 (by decide)];decide +kernel
theorem agY:Kq LJ=some (8,0):=by
 rw [XX (by decide)];decide +kernel
theorem ag1:JE HP [0,2,1] [(0,(5,0))]=some (1,0):=by
 rw [R8 (by decide) (by decide) (by decide)];decide +kernel
theorem ag2:JE HP [0,2,1] [(2,(1,0))]=some (0,23):=by
 rw [R8 (by decide) (by decide) (by decide)];decide +kernel
theorem ag3:JE HP [0,2,1] [(0,(101,0))]=some (0,3):=by
 rw [R8 (by decide) (by decide) (by decide)];decide +kernel
theorem PV {p:qb} {o:List Int} {a i t:Nat} (ab:¬ HE p o a) (ae:i<o.length) (aF:i % 2=a) (ba:t<2121) (bP:I1 p o a i (I5 t)):I0 p o a=1:=by
 unfold I0;rw [if_neg ab,if_pos ⟨i,ae,aF,t,ba,bP⟩]
theorem PW {p:qb} {o:List Int} {a:Nat} (ab:HE p o a):I0 p o a=0:=by
 unfold I0;rw [if_pos ab]
theorem ag4:K6 LJ [1,0,2,3,4]=some (2,0):=by
 unfold K6;obtain ⟨l,ab,ae⟩:=R_ (p:=LJ) (o:=[1,0,2,3,4]) (by decide) (by decide);have Hh:rP LJ [1,0,2,3,4]=0:=by decide +kernel
 rw [if_pos Hh] at ab;rw [ab,sb,(ae Hh).1];rw [PV (i:=0) (t:=1014) (by decide +kernel) (by decide) (by decide) (by decide) (by decide +kernel),PV (i:=1) (t:=1016) (by decide +kernel) (by decide) (by decide) (by decide) (by decide +kernel)];rfl
theorem ag5:∃ l,K7 HP [0,2,1]=some (l,0)∧L_ HP [0,2,1] l=some (1,0):=by
 obtain ⟨l,ab,ae⟩:=R_ (p:=HP) (o:=[0,2,1]) (by decide) (by decide);have Hh:rP HP [0,2,1]=0:=by decide +kernel
 rw [if_pos Hh] at ab;obtain ⟨aF,ba,bP⟩:=ae Hh;have ao:l.length=1:=by
  rw [aF,PV (i:=0) (t:=1015) (by decide +kernel) (by decide) (by decide) (by decide) (by decide +kernel),PW (by decide +kernel)]
 refine ⟨l,ab,?_⟩;rw [ahm (by decide) (by decide) (by omega),if_pos Hh,if_pos ba,if_neg (by omega),ao];rfl
theorem ag6:K8 HP=some ([0,1,2],0):=by
 have af:∀ (s t:Nat) (o:List Int),qo 3 o→s=(ix o 0).toNat→t<2121→I1 HP o 0 0 (I5 t)→HE HP o 1→o.length=3→HY HP s=true:=fun s t o ab ae aF ba bP bQ =>
  PD.2 ⟨o,ab,0,by omega,ae,by
   unfold C9;rw [sn,decide_eq_true_eq,decide_eq_true_eq]
   exact ⟨bP,t,aF,ba⟩⟩
 have de:HY HP 0=true:=af 0 1018 [0,1,2] (by decide) (by decide) (by decide) (by decide +kernel) (by decide +kernel) rfl;have bm:HY HP 1=true:=af 1 1018 [1,0,2] (by decide) (by decide) (by decide) (by decide +kernel) (by decide +kernel) rfl;have cw:HY HP 2=true:=af 2 1015 [2,0,1] (by decide) (by decide) (by decide) (by decide +kernel) (by decide +kernel) rfl;have e:J' HP=[0,1,2]:=by
  unfold J';show List.filter (fun s:Int=>HY HP s.toNat) [0,1,2]=[0,1,2];refine tC.2 fun s ah=>?_;simp only [sB,List.not_mem_nil,or_false] at ah;rcases ah with rfl | rfl | rfl
  ·exact de
  ·exact bm
  ·exact cw
 rw [X1 (by decide),e,if_pos (by decide +kernel)]
theorem agZ:JD [0,2,1] [0,2,1]=some true:=by decide +kernel
theorem ag0:JD [0,1,2] [0,1,2]=some true:=by decide +kernel
theorem works:L9=some true:=by
 obtain ⟨l,ab,ae⟩:=ag5;unfold L9;simp only [ahA,ahC,ahE,Iq,L',Ma,sb,ag9,ag_,ag7,ag8,agW,agX,agY,ag1,ag2,ag3,ag4,ag6,ab,ae,agZ,ag0];simp only [decide_eq_true_eq,ne_eq,not_true_eq_false,if_false,if_true]
end Go.Proofs.YtkoioidpbbbaiaaGreat.Ab


namespace Go.Proofs.YtkoioidpbbbaiaaGreat.Ab
open Go
set_option maxRecDepth 20000
set_option maxHeartbeats 4000000
noncomputable def Yw:gE :=
 p2 [p0 1 [.jq 0] .box,p0 2 [.cv (.bool false)] .mU] (p2 [qz 3 1 0,qg 4 3,qT 5 4,qw 6 5 10 .gtr,p1 2 6] .ret)
theorem adw:ql Tryz.prog SL 10=some (Yw,7,[.tmp 2]):=by kernel_rfl
def M4 (p:(qk×(Int×Int))):Option Bool :=
 some (decide ((10:Int)<(p.1.length:Int)))
theorem ahh {p:(qk×(Int×Int))} {v:Bool} (h:M4 p=some v):qx 10 [(.agg [(.av (p.1.flatMap p7) p.1.length .shared),(h0 p.2.1),(h0 p.2.2)])] (B v):=by
 refine qK eG adw rfl rfl fun Q bp=>?_;have jJ:qH [.tmp 2] Q (fun v=>(B v)) v:=fun T H bE=>bp _ T H bE;unfold M4 at h;unfold Yw;conv=>whnf
 exact qe h jJ rfl rfl

def Gy (p:(qk×(Int×Int))):Option Bool :=
 (M4 p).bind fun aS =>
 if aS=true then
  (L9).bind fun bj =>
  some bj
 else
  (Kp p).bind fun eK =>
  (ahi p).bind fun r0 =>
  (J0 p).bind fun HQ =>
  (XW p).bind fun Ip =>
  (Kq p).bind fun KT =>
  (ahj p).bind fun KU =>
  if (decide (eK.1=r0.1))=true then
   if (decide (eK.2=r0.2))=true then
    (JD HQ.1 Ip.1).bind fun MI =>
    if MI=true then
     if (decide (HQ.2=Ip.2))=true then
      if (decide (KT.1=KU.1))=true then
       if (decide (KT.2=KU.2))=true then
        (L9).bind fun N2 =>
        some N2
       else
        some false
      else
       some false
     else
      some false
    else
     some false
   else
    some false
  else
   some false

end Go.Proofs.YtkoioidpbbbaiaaGreat.Ab


namespace Go.Proofs.YtkoioidpbbbaiaaGreat.Ab
open Go
set_option maxRecDepth 20000
set_option maxHeartbeats 4000000
end Go.Proofs.YtkoioidpbbbaiaaGreat.Ab


namespace Go.Proofs.YtkoioidpbbbaiaaGreat.Ab
open Go
set_option maxRecDepth 20000
set_option maxHeartbeats 1000000
theorem UK {a:List Int} (cu:a.length≤1000):∀ (m i:Nat),i≤a.length→a.length-i<m→K5 a a (fun _=>some true) m (i:Int)=some true
 | 0,_,_,h=>absurd h (by omega)
 | m+1,i,hi,hm=>by
   rw [K5];by_cases aR:i<a.length
   ·rw [if_pos (decide_eq_true (by omega)),qB (by omega),qB (by omega),if_neg (by simp),H7 i (by omega)];exact UK cu m (i+1) (by omega) (by omega)
   ·rw [if_neg (by simp;omega)]
theorem ahl {a:List Int} (cu:a.length≤1000):JD a a=some true:=by
 unfold JD;rw [if_neg (by simp)];exact UK cu qi 0 (by omega) (Ie (by omega))
abbrev aez (p:qb):I:=.agg [.av (p.1.flatMap p7) p.1.length .shared,h0 p.2.1,h0 p.2.2]
end Go.Proofs.YtkoioidpbbbaiaaGreat.Ab


namespace Go.Proofs.YtkoioidpbbbaiaaGreat.Ab
open Go
set_option maxRecDepth 20000
set_option maxHeartbeats 4000000
noncomputable def YF:gE :=
 p2 [p0 1 [.jq 0] .box,p0 2 [.cv (.bool false)] .mU] (p2 [p0 3 [.nc 1] (.zE (.str 3)),p0 4 [.cv (.func 10 [] []),.nc 3] (.call 3),p0 5 [.Bs 4] (.un .not),p1 6 5,cl 7 [.Bs 1] 6 true (.zE (.str 3)),⟨some 8,[.cv (.func 46 [] []),.nc 7],some (6,true),none,.call 3⟩,cl 9 [.Bs 8,.cv (.int .i64 0)] 6 true (.bin .eql),p0 10 [.Bs 6,.Bs 9,.cv (.bool false)] .pick,p1 2 10] .ret)
theorem adF:ql Tryz.prog SY 26=some (YF,11,[.tmp 2]):=by kernel_rfl
def OI (p:(qk×(Int×Int))):Option Bool :=
 (M4 p).bind fun aS =>
 if aS=true then
  some false
 else
  (Jo p).bind fun bj =>
  some (decide (bj=(0:Int)))
theorem ahq {p:(qk×(Int×Int))} {v:Bool} (h:OI p=some v):qx 26 [(.agg [(.av (p.1.flatMap p7) p.1.length .shared),(h0 p.2.1),(h0 p.2.2)])] (B v):=by
 refine qK eG adF rfl rfl fun Q bp=>?_;have jJ:qH [.tmp 2] Q (fun v=>(B v)) v:=fun T H bE=>bp _ T H bE;unfold OI at h;unfold YF;conv=>whnf
 obtain ⟨aS,gM,h⟩:=p' h;refine ⟨qj.pl,_,ahh gM,?_⟩;conv=>whnf
 cases aS
 ·conv=>whnf
  replace h:=Ho rfl h;obtain ⟨bj,gN,h⟩:=p' h;refine ⟨qj.pl,_,Se gN,?_⟩;conv=>whnf
  exact qe h jJ rfl rfl
 ·conv=>whnf
  replace h:=Hp rfl h;exact qe h jJ rfl rfl

noncomputable def O9:gE :=
 .loop (some (p8 false [0,2,3,1,32])) (.seq (p2 [p3 10 5,p3 11 1,qm 12 10 11 .lss] (.cond (.nc 12) .skip (.exit 0))) (.seq (.block 1 (.seq (q8 [p3 15 0,p3 16 5,q5 17 15 16 1,qg 18 17,qw 19 18 0 .lss,p1 20 19,cl 21 [.nc 0] 20 false .mU,cl 22 [.nc 5] 20 false .mU,cl 23 [.Bs 21,.Bs 22] 20 false (.kY 1),cl 24 [.Bs 23] 20 false (.zE .one),cl 25 [.nc 1] 20 false .mU,cl 26 [.Bs 24,.Bs 25] 20 false (.bin .geq),p0 27 [.nc 20,.cv (.bool true),.Bs 26] .pick,p1 28 27,cl 29 [.nc 0] 28 false .mU,cl 30 [.nc 5] 28 false .mU,⟨some 31,[.jq 29,.jq 30],some (28,false),none,.Bh 1 false true false⟩,cl 32 [.nc 0] 28 false .mU,cl 33 [.nc 5] 28 false .mU,cl 34 [.Bs 32,.Bs 33] 28 false (.kY 1),cl 35 [.Bs 34] 28 false (.zE .one),⟨some 36,[.cv (.func 72 [] []),.nc 31,.nc 35],some (28,false),none,.call 3⟩,p0 37 [.nc 28,.cv (.bool true),.Bs 36] .pick]) (.cond (.nc 37) (p2 [p0 4 [.cv (.bool false)] .mU] .ret) .skip))) (qF [p1 13 5,qP 14 13 1,p1 5 14])))
noncomputable def Y1:gE :=
 p2 [p0 4 [.cv (.bool false)] .mU] (.seq (p2 [p3 6 0,qT 7 6,p3 8 1,qm 9 7 8 .neq] (.cond (.nc 9) (p2 [p0 4 [.cv (.bool false)] .mU] .ret) .skip)) (.seq (p2 [qd 5 0] (.block 0 O9)) (p2 [p0 4 [.cv (.bool true)] .mU] .ret)))
theorem ad0:ql Tryz.prog Pu 62=some (Y1,38,[.tmp 4]):=by kernel_rfl
def Lg (l:p9) (qZ:Int) (p_:Unit→Option Bool):Nat→Int→Option Bool
 | 0,_=>none
 | m+1,s1 =>
   if (decide (s1<qZ))=true then
    qs (0≤s1∧s1<(l.length:Int)) <|
    if (decide ((ix l s1)<(0:Int)))=true then
     some false
    else
     qs (0≤s1∧s1<(l.length:Int)) <|
     if (decide (qZ≤(ix l s1)))=true then
      some false
     else
      qs (0≤s1∧s1≤(l.length:Int)) <|
      qs (0≤s1∧s1<(l.length:Int)) <|
      (Li (l.take s1.toNat) (ix l s1)).bind fun aS =>
      if aS=true then
       some false
      else
       Lg l qZ p_ m (w (s1+(1:Int)))
   else
    p_ ()
def Nf (l:p9) (qZ:Int):Option Bool :=
 if (decide ((l.length:Int)≠qZ))=true then
  some false
 else
  Lg l qZ (fun _ =>
    some true) qi (0:Int)
theorem ahY {l:p9} {qZ:Int} {p_:Unit→Option Bool} {s1:Int} {v:Bool} {Q:Hr}   (jJ:qH [.tmp 4] Q (fun v=>(B v)) v) (rf:∀ (qf:List I),p_ ()=some v→ry 38 [] qf→Q (.exit 0) qf []) {T:List I} (b0:eZ (p8 false [0,2,3,1,32]) T=qa 38 [(0,(qG l .shared)),(1,(h0 qZ)),(5,(h0 s1))]) (h:Lg l qZ p_ qi s1=some v) :
  dQ Tryz.prog Pu 62 0 none O9 T [] Q:=by
 unfold O9;refine wp_loop b0 ?_;refine .intro (fun m T H=>∃ (s1:Int),T=qa 38 [(0,(qG l .shared)),(1,(h0 qZ)),(5,(h0 s1))]∧H=[]∧Lg l qZ p_ m s1=some v) qi ⟨s1,rfl,rfl,h⟩ ?_;clear h b0;rintro m T H ⟨s1,rfl,rfl,h⟩;cases m
 ·exact rT h
 rename_i m;rw [Lg.eq_2] at h;conv=>whnf
 refine bs h (fun gN h=>?_) fun gN h=>?_
 ·rw [gN];conv=>whnf
  refine qW h id fun qp h=>?_;rw [rb h0 l s1 qp];conv=>whnf
  refine bs h (fun qI h=>?_) fun qI h=>?_
  ·rw [qI];(conv=>whnf);exact qe h jJ rfl rfl
  ·rw [qI];(conv=>whnf);refine qW h id fun q9 h=>?_;rw [rb h0 l s1 q9];(conv=>whnf);refine bs h (fun rH h=>?_) fun rH h=>?_
   ·rw [rH];(conv=>whnf);exact qe h jJ rfl rfl
   ·rw [rH];(conv=>whnf);refine qW h id fun qU h=>?_;erw [RT h0 l s1 qU];(conv=>whnf);refine qW h id fun rN h=>?_;rw [rb h0 l s1 rN];(conv=>whnf);obtain ⟨aS,rE,h⟩:=p' h;refine ⟨qj.pl,_,Yt rE,Hf,?_⟩;(conv=>whnf);cases aS
    ·(conv=>whnf);replace h:=Ho rfl h;exact ⟨m,sE m,(w (s1+(1:Int))),rfl,rfl,h⟩
    ·(conv=>whnf);replace h:=Hp rfl h;exact qe h jJ rfl rfl
 ·rw [gN];conv=>whnf
  exact rf  _ h ⟨rfl,rfl⟩
theorem ahZ {l:p9} {qZ:Int} {v:Bool} (h:Nf l qZ=some v):qx 62 [(.av (l.map h0) l.length .shared),(h0 qZ)] (B v):=by
 refine qK eG ad0 rfl rfl fun Q bp=>?_;have jJ:qH [.tmp 4] Q (fun v=>(B v)) v:=fun T H bE=>bp _ T H bE;unfold Nf at h;unfold Y1;obtain ⟨HN,qD⟩:∃ c,O9=c:=⟨_,rfl⟩;rw [qD];conv=>whnf
 refine bs h (fun gM h=>?_) fun gM h=>?_
 ·rw [gM];conv=>whnf
  exact qe h jJ rfl rfl
 ·rw [gM];conv=>whnf
  subst qD;refine ahY ?_ ?_ (by exact rfl) h
  ·exact fun T H bE=>jJ T H bE
  ·intro  qf h qA;obtain ⟨rD,rfl⟩:=qA.ex;(conv=>whnf);exact qe h jJ rfl rfl

noncomputable def YG:gE :=
 p2 [p0 1 [.jq 0] .box,qd 2 0,p0 3 [.cv (.bool false)] .mU] (p2 [p0 11 [.nc 1] (.zE (.str 3)),p0 12 [.cv (.func 12 [] []),.nc 11] (.call 3),p1 10 12,qJ 13 10 0,p0 14 [.Bs 10] (.ext 1),p1 4 13,p1 5 14] (p2 [p0 16 [.nc 1] (.zE (.str 3)),p0 17 [.cv (.func 14 [] []),.nc 16] (.call 3),p1 15 17,qJ 18 15 0,p0 19 [.Bs 15] (.ext 1),p1 6 18,p1 7 19] (.seq (p2 [p1 20 5,qw 21 20 0 .neq,p1 22 21,cl 23 [.jq 7] 22 false .mU,cl 24 [.Bs 23,.cv (.int .i64 0)] 22 false (.bin .neq),p0 25 [.Bs 22,.cv (.bool true),.Bs 24] .pick,p1 26 25,cl 27 [.nc 6] 26 false .mU,cl 28 [.nc 1] 26 false (.yM 0),cl 29 [.Bs 28] 26 false (.zE .one),cl 30 [.jq 29] 26 false .zJ,⟨some 31,[.cv (.func 62 [] []),.nc 27,.nc 30],some (26,false),none,.call 3⟩,cl 32 [.Bs 31] 26 false (.un .not),p0 33 [.Bs 26,.cv (.bool true),.Bs 32] .pick] (.cond (.nc 33) (p2 [p1 34 4,p1 2 34,p0 3 [.cv (.bool false)] .mU] .ret) .skip)) (p2 [p0 36 [.nc 1] (.zE (.str 3)),p3 37 6,p0 38 [.cv (.func 29 [] []),.nc 36,.nc 37] (.call 3),p1 35 38,qJ 39 35 0,p0 40 [.Bs 35] (.ext 1),p1 8 39,p1 9 40] (p2 [p3 41 4,p1 42 9,qw 43 42 0 .eql,p1 44 43,cl 45 [.jq 8] 44 true .mU,cl 46 [.nc 4] 44 true .mU,cl 47 [.Bs 45,.Bs 46] 44 true (.bin .eql),p0 48 [.Bs 44,.Bs 47,.cv (.bool false)] .pick,p1 49 48,cl 50 [.Bs 1] 49 true (.zE (.str 3)),cl 51 [.jq 6] 49 true .mU,⟨some 52,[.cv (.func 39 [] []),.nc 50,.nc 51],some (49,true),none,.call 3⟩,cl 53 [.jq 4] 49 true .mU,cl 54 [.Bs 52,.Bs 53] 49 true (.bin .eql),p0 55 [.Bs 49,.Bs 54,.cv (.bool false)] .pick,p1 2 41,p1 3 55] .ret)))))
theorem adG:ql Tryz.prog SZ 27=some (YG,56,[.tmp 2,.tmp 3]):=by kernel_rfl
def M6 (p:(qk×(Int×Int))):Option (Int×Bool) :=
 (Kp p).bind fun aS =>
 (J0 p).bind fun bj =>
 if (decide (aS.2≠(0:Int)))=true then
  some (aS.1,false)
 else
  if (decide (bj.2≠(0:Int)))=true then
   some (aS.1,false)
  else
   (Nf bj.1 (p.1.length:Int)).bind fun eK =>
   if eK=true then
    (I6 p bj.1).bind fun r0 =>
    if (decide (r0.2=(0:Int)))=true then
     if (decide (r0.1=aS.1))=true then
      (Ks p bj.1).bind fun HQ =>
      some (aS.1,(decide (HQ=aS.1)))
     else
      some (aS.1,false)
    else
     some (aS.1,false)
   else
    some (aS.1,false)
theorem ahs {p:(qk×(Int×Int))} {v:(Int×Bool)} (h:M6 p=some v):qx 27 [(.agg [(.av (p.1.flatMap p7) p.1.length .shared),(h0 p.2.1),(h0 p.2.2)])] (.tuple [(h0 v.1),(B v.2)]):=by
 refine qK eG adG rfl (I4 (p6 rfl (p6 rfl rfl))) fun Q bp=>?_;have jJ:qH [.tmp 2,.tmp 3] Q (fun v=>(.tuple [(h0 v.1),(B v.2)])) v:=fun T H bE=>bp _ T H bE;unfold M6 at h;unfold YG;conv=>whnf
 obtain ⟨aS,gM,h⟩:=p' h;refine ⟨qj.pl,_,XV gM,?_⟩;conv=>whnf
 obtain ⟨bj,gN,h⟩:=p' h;refine ⟨qj.pl,_,R4 gN,?_⟩;conv=>whnf
 refine bs h (fun qp h=>?_) fun qp h=>?_
 ·rw [qp];conv=>whnf
  exact qe h jJ rfl rfl
 ·rw [qp];conv=>whnf
  refine bs h (fun qI h=>?_) fun qI h=>?_
  ·rw [qI];(conv=>whnf);exact qe h jJ rfl rfl
  ·rw [qI];(conv=>whnf);obtain ⟨eK,q9,h⟩:=p' h;refine ⟨qj.pl,_,ahZ q9,?_⟩;(conv=>whnf);cases eK
   ·(conv=>whnf);replace h:=Ho rfl h;exact qe h jJ rfl rfl
   ·(conv=>whnf);replace h:=Hp rfl h;obtain ⟨r0,rH,h⟩:=p' h;refine ⟨qj.pl,_,M7 rH,?_⟩;(conv=>whnf);refine bs h (fun qU h=>?_) fun qU h=>?_
    ·rw [qU];(conv=>whnf);refine bs h (fun rN h=>?_) fun rN h=>?_
     ·rw [rN];(conv=>whnf);obtain ⟨HQ,rE,h⟩:=p' h;refine ⟨qj.pl,_,X8 rE,?_⟩;(conv=>whnf);exact qe h jJ rfl rfl
     ·rw [rN];(conv=>whnf);exact qe h jJ rfl rfl
    ·rw [qU];(conv=>whnf);exact qe h jJ rfl rfl

noncomputable def O0:gE :=
 .loop (some (p8 false [0,2,3,3,48])) (.seq (p2 [p3 10 7,p3 11 0,qm 12 10 11 .lss] (.cond (.nc 12) .skip (.exit 0))) (.seq (.block 1 (qF [p1 15 5,p3 16 7,p0 17 [.Bs 16] (.yB 1 1 [.int .i64 0] [0]),p0 18 [.jq 15,.jq 17] (.app 1 8),p1 5 18])) (qF [p1 13 7,qP 14 13 1,p1 7 14])))
noncomputable def O1:gE :=
 p2 [p1 38 6,p3 39 5,p3 40 9,q5 41 39 40 1,qg 42 41,p0 43 [.Bs 42] (.yB 1 1 [.int .i64 0] [0]),p0 44 [.jq 38,.jq 43] (.app 1 8),p1 6 44] (q8 [p0 45 [] (.yB 0 1 [.int .i64 0] []),p3 46 5,p3 47 9,p0 48 [.jq 46,.jq 47] (.Bh 1 false true false),p0 49 [.jq 45,.jq 48] (.app 1 8),p3 50 5,p3 51 9,qP 52 51 1,p0 53 [.jq 50,.jq 52] (.Bh 1 true false false),p0 54 [.jq 49,.jq 53] (.app 1 8),p1 5 54])
noncomputable def O2:gE :=
 .loop (some (p8 false [1,1,3,2,1,1,47])) (.seq (p2 [p3 19 5,qT 20 19,qw 21 20 0 .gtr] (.cond (.nc 21) .skip (.exit 2))) (.seq (.block 3 (p2 [qd 9 0] (.seq (p2 [p3 24 1,qT 25 24,qw 26 25 0 .gtr] (.cond (.nc 26) (qF [p3 27 1,p3 28 8,p3 29 1,qT 30 29,qm 31 28 30 .rem,q5 32 27 31 1,qg 33 32,p0 34 [.Bs 33] (.conv .i64),p3 35 5,qT 36 35,qm 37 34 36 .rem,p1 9 37]) .skip)) O1))) (qF [p1 22 8,qP 23 22 1,p1 8 23])))
noncomputable def YH:gE :=
 p2 [p0 4 [.cv (.av [] 0 .full)] (.nil 1)] (p2 [p0 5 [.cv (.av [] 0 .full)] (.nil 1),p0 6 [.cv (.av [] 0 .full)] (.nil 1)] (.seq (p2 [qd 7 0] (.block 0 O0)) (.seq (p2 [qd 8 0] (.block 2 O2)) (p2 [p1 55 6,p1 4 55] .ret))))
theorem adH:ql Tryz.prog Mn 28=some (YH,56,[.tmp 4]):=by kernel_rfl
def K_ (qZ:Int) (p_:p9→Option p9):Nat→p9→Int→Option p9
 | 0,_,_=>none
 | m+1,s1,s2 =>
   if (decide (s2<qZ))=true then
    qs ((s1.length+1)*8≤140737488355328) <|
    K_ qZ p_ m (s1++[s2]) (w (s2+(1:Int)))
   else
    p_ s1
def K9 (dk G':p9) (NS:p9→p9→Option p9) (dD:Int):Option p9 :=
 qs (0≤dD∧dD<(dk.length:Int)) <|
 qs ((G'.length+1)*8≤140737488355328) <|
 qs (0≤dD∧dD≤(dk.length:Int)) <|
 qs ((([]:List Int).length+(dk.take dD.toNat).length)*8≤140737488355328) <|
 qs (0≤(w (dD+(1:Int)))∧(w (dD+(1:Int)))≤(dk.length:Int)) <|
 qs (((([]:List Int)++(dk.take dD.toNat)).length+(dk.drop (w (dD+(1:Int))).toNat).length)*8≤140737488355328) <|
 NS ((([]:List Int)++(dk.take dD.toNat))++(dk.drop (w (dD+(1:Int))).toNat)) (G'++[(ix dk dD)])
def JF (q_:p9) (ri:p9→Option p9):Nat→p9→p9→Int→Option p9
 | 0,_,_,_=>none
 | m+1,dk,G',rX =>
   if (decide ((0:Int)<(dk.length:Int)))=true then
    if (decide ((0:Int)<(q_.length:Int)))=true then
     qs ((q_.length:Int)≠0) <|
     qs (0≤(rX.tmod (q_.length:Int))∧(rX.tmod (q_.length:Int))<(q_.length:Int)) <|
     qs ((dk.length:Int)≠0) <|
     K9 dk G' (fun oT Gz =>
       JF q_ ri m oT Gz (w (rX+(1:Int)))) ((w (ix q_ (rX.tmod (q_.length:Int)))).tmod (dk.length:Int))
    else
     K9 dk G' (fun oT Gz =>
       JF q_ ri m oT Gz (w (rX+(1:Int)))) (0:Int)
   else
    ri G'
def OJ (qZ:Int) (q_:p9):Option p9 :=
 K_ qZ (fun yn =>
   JF q_ (fun J5 =>
     some J5) qi yn ([]:List Int) (0:Int)) qi ([]:List Int) (0:Int)
theorem ahu {qZ:Int} {p_:p9→Option p9} {s1:p9} {s2:Int} {q_:p9} {v:p9} {Q:Hr}   (rf:∀ (yn:p9) (qf:List I),p_ yn=some v→ry 56 [(1,(.av (q_.map Js) q_.length .shared)),(5,(qG yn (.uniq 1))),(6,(.av [] 0 (.uniq 1)))] qf→Q (.exit 0) qf []) {T:List I} (b0:eZ (p8 false [0,2,3,3,48]) T=qa 56 [(0,(h0 qZ)),(1,(.av (q_.map Js) q_.length .shared)),(5,(qG s1 (.uniq 1))),(6,(.av [] 0 (.uniq 1))),(7,(h0 s2))]) (h:K_ qZ p_ qi s1 s2=some v) :
  dQ Tryz.prog Mn 28 0 none O0 T [] Q:=by
 unfold O0;refine wp_loop b0 ?_;refine .intro (fun m T H=>∃ (s1:p9) (s2:Int),T=qa 56 [(0,(h0 qZ)),(1,(.av (q_.map Js) q_.length .shared)),(5,(qG s1 (.uniq 1))),(6,(.av [] 0 (.uniq 1))),(7,(h0 s2))]∧H=[]∧K_ qZ p_ m s1 s2=some v) qi ⟨s1,s2,rfl,rfl,h⟩ ?_;clear h b0;rintro m T H ⟨s1,s2,rfl,rfl,h⟩;cases m
 ·exact rT h
 rename_i m;rw [K_.eq_2] at h;conv=>whnf
 refine bs h (fun gM h=>?_) fun gM h=>?_
 ·rw [gM];conv=>whnf
  obtain ⟨gN,h⟩:=rM h;refine ⟨by first | rfl | simp,by have:=gN;omega,rfl,gN,?_⟩
  erw [PC h0 s1 s2];conv=>whnf
  exact ⟨m,sE m,(s1++[s2]),(w (s2+(1:Int))),rfl,rfl,h⟩
 ·rw [gM];conv=>whnf
  exact rf _ _ h ⟨rfl,rfl⟩
theorem X3 {dk:p9} {G':p9} {NS:p9→p9→Option p9} {dD:Int} {q_:p9} {rX:Int} {v:p9} {Q:Hr}  {qf:List I}  (acm:∀ (oT Gz:p9) (qf:List I),NS oT Gz=some v→ry 56 [(1,(.av (q_.map Js) q_.length .shared)),(5,(qG oT (.uniq 1))),(6,(qG Gz (.uniq 1))),(8,(h0 rX))] qf→Q .normal qf []) (qA:ry 56 [(1,(.av (q_.map Js) q_.length .shared)),(5,(qG dk (.own 1))),(6,(qG G' (.uniq 1))),(8,(h0 rX)),(9,(h0 dD))] qf) (h:K9 dk G' NS dD=some v) :
  dQ Tryz.prog Mn 28 0 none O1 qf [] Q:=by
 obtain ⟨rD,rfl⟩:=qA.ex;unfold K9 at h;unfold O1;conv=>whnf
 refine qW h id fun rN h=>?_;rw [rb h0 dk dD rN];conv=>whnf
 obtain ⟨rE,h⟩:=rM h;refine ⟨by first | rfl | simp,by have:=rE;omega,rfl,rE,?_⟩
 erw [PC h0 G' (ix dk dD)];conv=>whnf
 refine qW h id fun Hv h=>?_;erw [RT h0 dk dD Hv];conv=>whnf
 obtain ⟨Kd,h⟩:=rM h;refine ⟨by first | rfl | simp,by have:=Kd;omega,rfl,Kd,?_⟩
 erw [Tz h0 ([]:List Int) (dk.take dD.toNat)];conv=>whnf
 refine qW h id fun KM h=>?_;erw [Xj h0 dk (w (dD+(1:Int))) KM];conv=>whnf
 obtain ⟨Lz,h⟩:=rM h;refine ⟨by first | rfl | simp,by have:=Lz;omega,rfl,Lz,?_⟩
 erw [Tz h0 (([]:List Int)++(dk.take dD.toNat)) (dk.drop (w (dD+(1:Int))).toNat)];conv=>whnf
 exact acm _ _ _ h ⟨rfl,rfl⟩
theorem ahv {q_:p9} {ri:p9→Option p9} {dk:p9} {G':p9} {rX:Int} {v:p9} {Q:Hr}   (JO:∀ (J5:p9) (qf:List I),ri J5=some v→ry 56 [(6,(qG J5 (.uniq 1)))] qf→Q (.exit 2) qf []) {T:List I} (b0:eZ (p8 false [1,1,3,2,1,1,47]) T=qa 56 [(1,(.av (q_.map Js) q_.length .shared)),(5,(qG dk (.uniq 1))),(6,(qG G' (.uniq 1))),(8,(h0 rX))]) (h:JF q_ ri qi dk G' rX=some v) :
  dQ Tryz.prog Mn 28 0 none O2 T [] Q:=by
 unfold O2;obtain ⟨KG,rQ⟩:∃ c,O1=c:=⟨_,rfl⟩;rw [rQ];refine wp_loop b0 ?_;refine .intro (fun m T H=>∃ (dk G':p9) (rX:Int),T=qa 56 [(1,(.av (q_.map Js) q_.length .shared)),(5,(qG dk (.uniq 1))),(6,(qG G' (.uniq 1))),(8,(h0 rX))]∧H=[]∧JF q_ ri m dk G' rX=some v) qi ⟨dk,G',rX,rfl,rfl,h⟩ ?_;clear h b0;rintro m T H ⟨dk,G',rX,rfl,rfl,h⟩;cases m
 ·exact rT h
 rename_i m;rw [JF.eq_2] at h;conv=>whnf
 refine bs h (fun qp h=>?_) fun qp h=>?_
 ·rw [qp];conv=>whnf
  refine bs h (fun qI h=>?_) fun qI h=>?_
  ·rw [qI];(conv=>whnf);refine qW h id fun q9 h=>?_;(conv=>whnf);refine qW h id fun rH h=>?_;rw [rb Js q_ (rX.tmod (q_.length:Int)) rH];(conv=>whnf);refine qW h id fun qU h=>?_;(conv=>whnf);subst rQ;refine X3 ?_ (by exact ⟨rfl,rfl⟩) h;intro oT Gz qf h qA;obtain ⟨rD,rfl⟩:=qA.ex;(conv=>whnf);exact ⟨m,sE m,oT,Gz,(w (rX+(1:Int))),rfl,rfl,h⟩
  ·rw [qI];(conv=>whnf);subst rQ;refine X3 ?_ (by exact ⟨rfl,rfl⟩) h;intro oT Gz qf h qA;obtain ⟨rD,rfl⟩:=qA.ex;(conv=>whnf);exact ⟨m,sE m,oT,Gz,(w (rX+(1:Int))),rfl,rfl,h⟩
 ·rw [qp];conv=>whnf
  exact JO _ _ h ⟨rfl,rfl⟩
theorem ahw {qZ:Int} {q_:p9} {v:p9} (h:OJ qZ q_=some v):qx 28 [(h0 qZ),(.av (q_.map Js) q_.length .shared)] (.av (v.map h0) v.length .shared):=by
 refine qK eG adH rfl (rC (fun _=>rfl) _ _ _) fun Q bp=>?_;have jJ:qH [.tmp 4] Q (fun v=>(qG v .shared)) v:=fun T H bE=>bp _ T H bE;unfold OJ at h;unfold YH;obtain ⟨HN,qD⟩:∃ c,O0=c:=⟨_,rfl⟩;rw [qD];obtain ⟨aar,Mv⟩:∃ c,O2=c:=⟨_,rfl⟩;rw [Mv];conv=>whnf
 subst qD;refine ahu ?_ (by exact rfl) h;intro yn qf h qA;obtain ⟨rD,rfl⟩:=qA.ex;conv=>whnf
 subst Mv;refine ahv ?_ (by exact rfl) h;intro J5 qf h qA;obtain ⟨rD,rfl⟩:=qA.ex;conv=>whnf
 exact qe h jJ rfl rfl

end Go.Proofs.YtkoioidpbbbaiaaGreat.Ab


namespace Go.Proofs.YtkoioidpbbbaiaaGreat.Ab
open Go
set_option maxRecDepth 20000
set_option maxHeartbeats 1000000
theorem agB (i:Nat):qh (i+1)=qh i++[(i:Int)]:=by unfold qh;rw [uW,sP];rfl
theorem UN {n:Nat} (aI:n≤1000) {K:List Int→Option (List Int)}:∀ (m i:Nat),i≤n→n-i<m→K_ (n:Int) K m (qh i) (i:Int)=K (qh n)
 | 0,_,_,h=>absurd h (by omega)
 | m+1,i,hi,hm=>by
   rw [K_];by_cases aR:i<n
   ·rw [if_pos (decide_eq_true (by omega)),qB (by rw [JZ];omega),H7 i (by omega),←agB];exact UN aI m (i+1) (by omega) (by omega)
   ·(obtain rfl:i=n:=by omega);rw [if_neg (by simp)]
theorem acI {A B:List Int} {j:Nat} (aw:j<A.length) (aL:A.length≤1000) (Ix:B.length≤1000) (K:List Int→List Int→Option (List Int)):K9 A B K (j:Int)=K (A.take j++A.drop (j+1)) (B++[A[j]]):=by
 unfold K9;have ab:=List.length_take_le j A;rw [qB (by omega),qB (by omega),qB (by omega),tp,qB (by simp;omega),H7 j (by omega),qB (by omega),tp,qB (by simp;omega),ru aw,tM]
theorem aeF {A B:List Int} {j:Nat} (aw:j<A.length):((B++[A[j]])++(A.take j++A.drop (j+1))).Perm (B++A):=by
 have e:A=A.take j++A[j]::A.drop (j+1):=by rw [←s0 aw,List.take_append_drop]
 rw [sx];refine List.Perm.append_left B ?_;have:=(List.perm_middle (l₁:=A.take j) (a:=A[j]) (l₂:=A.drop (j+1))).symm;rw [←e] at this;exact this
theorem UM {n:Nat} (aI:n≤1000) {Q:List Int} (bp:∀ b∈Q,0≤b∧b≤255) (ao:Q.length≤1000) {K:List Int→Option (List Int)}:∀ (m:Nat) (A B:List Int),A.length<m→(B++A).Perm (qh n) →
  ∃ r,qo n r∧JF Q K m A B (B.length:Int)=K r
 | 0,_,_,h,_=>absurd h (by omega)
 | m+1,A,B,hm,aB=>by
   rw [JF];have hlen:=aB.length_eq;rw [sA,JZ] at hlen;by_cases aQ:0<A.length
   ·rw [if_pos (decide_eq_true (by omega)),H7 B.length (by omega)];have next:∀ j:Nat,j<A.length→∃ r,qo n r∧K9 A B (fun oT Gz=>JF Q K m oT Gz ((B.length+1:Nat):Int)) (j:Int)=K r:=fun j aw=>by
     rw [acI aw (by omega) (by omega)];have:=UM aI bp ao (K:=K) m (A.take j++A.drop (j+1)) (B++[A[j]]) (by simp;omega) ((aeF aw).trans aB);rw [show (B++[A[j]]).length=B.length+1 by simp] at this;exact this
    by_cases a_:0<Q.length
    ·rw [if_pos (decide_eq_true (by omega)),qB (by omega)];(have e1:((B.length:Nat):Int).tmod (Q.length:Int)=((B.length % Q.length:Nat):Int):=by rw [vw (by omega)];omega);have Qy:=uE B.length a_;rw [e1,qB (by omega),qB (by omega)];have af:=bp _ (Je (l:=Q) (i:=((B.length % Q.length:Nat):Int)) (by omega));obtain ⟨v,ad⟩:∃ v:Nat,ix Q ((B.length % Q.length:Nat):Int)=(v:Int):=⟨(ix Q ((B.length % Q.length:Nat):Int)).toNat,by omega⟩;rw [ad] at af ⊢;(have b':(v:Int).tmod (A.length:Int)=((v % A.length:Nat):Int):=by rw [vw (by omega)];omega);rw [qR (n:=(v:Int)) (by omega),b'];exact next _ (uE _ aQ)
    ·rw [if_neg (by simpa using a_)];exact next 0 aQ
   ·rw [if_neg (by simpa using aQ)];obtain rfl:A=[]:=List.length_eq_zero_iff.1 (by omega);rw [sM] at aB;exact ⟨B,JU.2 aB,rfl⟩
theorem aht {n:Nat} (aI:n≤1000) {Q:List Int} (bp:∀ b∈Q,0≤b∧b≤255) (ao:Q.length≤1000):∃ r,qo n r∧OJ (n:Int) Q=some r:=by
 unfold OJ;obtain ⟨r,ab,ae⟩:=UM aI bp ao (K:=fun J5=>some J5) qi (qh n) [] (by rw [JZ];exact Ie (by omega)) (by rw [tM]);refine ⟨r,ab,?_⟩;rw [←ae];exact UN aI (K:=fun yn=>JF Q (fun J5=>some J5) qi yn [] 0) qi 0 (by omega) (Ie (by omega))
theorem ahp (p:qb):OI p=some (decide (rm p=0)):=by
 unfold OI M4;rw [sb];by_cases h:(10:Int)<(p.1.length:Int)
 ·rw [if_pos (decide_eq_true h),decide_eq_false];intro ak;have:=(I_.1 ak).len;omega
 ·rw [if_neg (by simpa using h),Yb (by omega),sb]
theorem UY {l:List Int} {n:Nat} (aI:n≤1000) (k:qo n l):∀ (m i:Nat),i≤n→n-i<m→Lg l (n:Int) (fun _=>some true) m (i:Int)=some true
 | 0,_,_,h=>absurd h (by omega)
 | m+1,i,hi,hm=>by
   rw [Lg];have ao:=k.1;by_cases aR:i<n
   ·have ai:=k.2.2 _ (Je (l:=l) (i:=(i:Int)) (by omega));rw [if_pos (decide_eq_true (by omega)),qB (by omega),if_neg (by simpa using ai.1),qB (by omega),if_neg (by simpa using ai.2),qB (by omega),qB (by omega),tp,Ys (by have:=List.length_take_le i l;omega),sb];rw [if_neg,H7 i (by omega)]
    ·exact UY aI k m (i+1) (by omega) (by omega)
    ·rw [decide_eq_true_eq,ru (by omega)];intro hm;obtain ⟨j,aw,e⟩:=uh hm;rw [List.getElem_take] at e;rw [List.length_take] at aw;have:=(vE k.2.1).1 e;omega
   ·rw [if_neg (by simp;omega)]
theorem ahX {l:List Int} {n:Nat} (aI:n≤1000) (k:qo n l):Nf l (n:Int)=some true:=by
 unfold Nf;rw [if_neg (by simp [k.1])];exact UY aI k qi 0 (by omega) (Ie (by omega))
abbrev Vh (p:qb):Int:=qS p (Jy p)
theorem VE {p:qb} {o:List Int} (h:qY p) (k:qo p.1.length o):rP p o=0:=KS.2 ⟨h,k⟩
theorem X4 {p:qb} {o:List Int} (h:qY p) (k:qo p.1.length o):I6 p o=some (qS p o,0):=by
 have:=h.len;have:=k.1;rw [OK (by omega) (by omega),if_pos (VE h k)]
theorem ahr {p:qb} (h:qY p):M6 p=some (Vh p,true):=by
 have ao:=h.len;have al:=TG p;unfold M6;rw [XU (by omega),sb,R3 (by omega),sb,if_pos (I_.2 h),if_pos (I_.2 h)];simp only;rw [if_neg (by simp),if_neg (by simp),ahX (by omega) al,sb,if_pos rfl,X4 h al,sb,if_pos (by simp),if_pos (by simp),X7 h al,sb];simp
theorem agp (n:Nat) (g:Nat→Int):qE (n+1) g=g 0+qE n fun i=>g (i+1):=by
 induction n with
 | zero=>simp [qE]
 | succ n a8=>rw [qE,a8];simp only [qE];omega
theorem RY:∀ (n:Nat) (g:Nat→Int),qE n (fun i=>g (n-1-i))=qE n g
 | 0,_=>rfl
 | n+1,g=>by
   rw [agp n g,←RY n fun i=>g (i+1)];simp only [qE];rw [show n+1-1-n=0 by omega,Int.add_comm (g 0)];congr 1;refine Kl fun i hi=>?_;rw [show n+1-1-i=n-1-i+1 by omega]
theorem ael (S:List qv) (o:List Int) (a:Nat) (f:qv→Int) (aI:o.length % 2=1):rp S o.reverse a f=-(rp S o a f):=by
 unfold rp;rw [List.length_reverse];have e:-(qE o.length fun i=>if i % 2=a then qy o.length i*f (qt S o i) else 0)=qE o.length fun i => -1*(if i % 2=a then qy o.length i*f (qt S o i) else 0):=by rw [Ov];omega
 rw [e,←RY];refine Kl fun i hi=>?_;have ah:qt S o.reverse (o.length-1-i)=qt S o i:=by
  unfold qt;congr 1;rw [ru (by simp;omega),ru hi,List.getElem_reverse];congr 1;omega
 have aB:qy o.length (o.length-1-i)=-(qy o.length i):=by unfold qy;omega
 by_cases a_:i % 2=a
 ·rw [if_pos (by omega),if_pos a_,ah,aB];grind
 ·rw [if_neg (by omega),if_neg a_];rfl
theorem aaX {p:qb} (h:qY p) {o:List Int} (k:qo p.1.length o):qS p o.reverse=qS p o:=by
 have aI:=h.n;rw [←k.1] at aI;have e:∀ a d,q7 p o.reverse a d=-(q7 p o a d):=fun a d=>ael _ _ _ _ (by omega);have m:∀ x:Int,max (-x) x=max x (-x):=fun x=>Int.max_comm _ _;unfold qS Iu;simp only [e,Int.neg_neg,m]
theorem afU {p:qb} (h:qY p) {o:List Int} (k:qo p.1.length o):o.reverse≠o:=fun e=>by
 have ao:=h.len;have aI:=k.1;have ab:o.reverse[0]'(by simp;omega)=o[o.length-1]:=by rw [List.getElem_reverse];congr 1
 have ae:o.reverse[0]'(by simp;omega)=o[0]'(by omega):=by simp only [e]
 have:=(vE k.2.1).1 (ab.symm.trans ae);omega
theorem agz {α:Type} {l:List α} {x y:α} (aj:x∈l) (aY:y∈l) (bJ:x≠y):2≤l.length:=by
 match l with
 | []=>simp at aj
 | [a]=>simp at aj aY;exact absurd (aj.trans aY.symm) bJ
 | a::b::r=>simp
theorem aba {p:qb} (h:qY p) {o:List Int} (k:qo p.1.length o) (aQ:qS p o=0):2≤Lw p:=by
 unfold Lw;refine agz (x:=o) (y:=o.reverse) (ta.2 ⟨JT.2 k,decide_eq_true aQ⟩) (ta.2 ⟨JT.2 ?_,decide_eq_true ((aaX h k).trans aQ)⟩) (afU h k).symm;exact JU.2 ((List.reverse_perm o).trans (JU.1 k))
end Go.Proofs.YtkoioidpbbbaiaaGreat.Ab


namespace Go.Proofs.YtkoioidpbbbaiaaGreat.Ab
open Go
set_option maxRecDepth 20000
set_option maxHeartbeats 1000000
def Ht (o:List Int):Nat→List qv→List qv
 | 0,S=>S
 | i+1,S=>(Ht o i S).set (ix o ((o.length-1-i:Nat):Int)).toNat (ix (Ht o i S) (ix o (i:Int)))
theorem Lv (o:List Int):∀ (i:Nat) (S:List qv),(Ht o i S).length=S.length
 | 0,_=>rfl
 | i+1,S=>by simp [Ht,Lv o i S]
theorem PT {S:List qv} {o:List Int} (k:qo S.length o) (cp:∀ s∈S,qM s):∀ (i:Nat),i≤o.length→∀ s∈Ht o i S,qM s
 | 0,_=>cp
 | i+1,hi=>fun s ah=>by
   unfold Ht at ah;rcases List.mem_or_eq_of_mem_set ah with ab | ab
   ·exact PT k cp i (by omega) s ab
   ·rw [ab];have ai:=rR k i (by omega);exact PT k cp i (by omega) _ (Je (by rw [Lv];exact ai))
theorem PU {S:List qv} {o:List Int} (k:qo S.length o):∀ (i:Nat),i≤o.length / 2→∀ j,j<o.length→qt (Ht o i S) o j=if o.length-1-j<i then qt S o (o.length-1-j) else qt S o j
 | 0,_,j,_=>by rw [if_neg (by omega)];rfl
 | i+1,hi,j,aw=>by
   have a8:=PU k i (by omega);have ai:=rR k (o.length-1-i) (by omega);have Dt:=rR k j aw;have ad:ix (Ht o i S) (ix o (i:Int))=qt S o i:=by
    have:=a8 i (by omega);rw [if_neg (by omega)] at this;exact this
   have e:qt (Ht o (i+1) S) o j=if ix o (j:Int)=ix o ((o.length-1-i:Nat):Int) then qt S o i else qt (Ht o i S) o j:=by
    show ix ((Ht o i S).set (ix o ((o.length-1-i:Nat):Int)).toNat (ix (Ht o i S) (ix o (i:Int)))) (ix o (j:Int))=_;rw [QD (by rw [Lv];exact ai) Dt.1,ad];rfl
   rw [e,a8 j aw];by_cases gi:j=o.length-1-i
   ·subst gi;rw [if_pos rfl,if_pos (by omega)];congr 1;omega
   ·rw [if_neg fun b'=>gi (Kh k.2.1 aw (by omega) b')];by_cases ab:o.length-1-j<i
    ·rw [if_pos ab,if_pos (by omega)]
    ·rw [if_neg ab,if_neg (by omega)]
theorem NW {S:List qv} {o:List Int} {a:Nat} {f:qv→Int} (aI:o.length % 2=1) (h:∀ j,j<o.length→qt S o (o.length-1-j)=qt S o j):rp S o a f=0:=by
 unfold rp;have e:=RY o.length fun i=>if i % 2=a then qy o.length i*f (qt S o i) else 0;have b':qE o.length (fun i=>if (o.length-1-i) % 2=a then qy o.length (o.length-1-i)*f (qt S o (o.length-1-i)) else 0)=qE o.length fun i => -1*(if i % 2=a then qy o.length i*f (qt S o i) else 0):=Kl fun i hi=>by
  have aB:qy o.length (o.length-1-i)=-(qy o.length i):=by unfold qy;omega
  by_cases a_:i % 2=a
  ·rw [if_pos (by omega),if_pos a_,aB,h i hi];grind
  ·rw [if_neg (by omega),if_neg a_];rfl
 rw [Ov] at b';have dA:=e.symm.trans b';omega
theorem aes {n:Nat} {o:List Int} (k:qo n o) {s:Int} (ah:0≤s∧s<(n:Int)):∃ i:Nat,i<o.length∧ix o (i:Int)=s:=by
 have:s∈o:=(JU.1 k).mem_iff.2 (ME.2 ah)
 obtain ⟨i,hi,e⟩:=uh this;exact ⟨i,hi,by rw [ru hi];exact e⟩
theorem aaj {q:qb} {o:List Int} (h:qY q) (k:qo q.1.length o) (f0:HE q o 0) (f1:HE q o 1):J' q=qh q.1.length:=by
 unfold J';refine tC.2 fun s ah=>?_;obtain ⟨i,hi,e⟩:=aes k (ME.1 ah);have pE:∀ a,a<2→HE q o a:=fun a cu=>by
  rcases (show a=0∨a=1 by omega) with rfl | rfl
  ·exact f0
  ·exact f1
 have a_:=pE (i % 2) (by omega);have ab6:Jz q o (i % 2) i:=Mp.2 ⟨qt q.1 o i,IC h.s (rR k) hi,(QO _ _ _ hi rfl).symm.trans a_.1,(QO _ _ _ hi rfl).symm.trans a_.2⟩;rw [←e];exact PD.2 ⟨o,k,i,hi,rfl,by unfold C9;rw [decide_eq_true (pE (1-i % 2) (by omega)),decide_eq_true ab6];rfl⟩
structure Zc (q:qb) (o:List Int):Prop where
 PN:I6 q o=some (0,0)
 PM:M6 q=some (0,true)
 PJ:∃ f:Int,Kq q=some (f,0)∧2≤f
 PK:K6 q o=some (0,0)
 PL:K8 q=some (qh q.1.length,0)
theorem aa8 {p:qb} (h:qY p) {o:List Int} (k:qo p.1.length o):Zc (Ht o (p.1.length / 2) p.1,p.2) o:=by
 have al:=k.1;have aiJ:=h.len;have ao:(Ht o (p.1.length / 2) p.1).length=p.1.length:=Lv _ _ _;obtain ⟨S,cp⟩:∃ S,S=Ht o (p.1.length / 2) p.1:=⟨_,rfl⟩;have NL:o.length % 2=1:=by have:=h.n;omega
 have NN:∀ j,j<o.length→qt S o (o.length-1-j)=qt S o j:=fun j aw=>by
  have e1:=PU k (p.1.length / 2) (by omega) j aw;have b':=PU k (p.1.length / 2) (by omega) (o.length-1-j) (by omega);rw [←cp] at e1 b';rw [e1,b',show o.length-1-(o.length-1-j)=j by omega];by_cases ab:j<p.1.length / 2
  ·rw [if_pos ab,if_neg (by omega)]
  ·rw [if_neg ab];by_cases ae:o.length-1-j<p.1.length / 2
   ·rw [if_pos ae]
   ·rw [if_neg ae];congr 1;omega
 have ad:qY (S,p.2):=⟨by rw [cp];simp only;rw [ao];exact h.n,by rw [cp];exact PT k h.s _ (by omega),h.lo,h.le,h.hi⟩;rw [←cp] at ao ⊢;have pO:qo (S,p.2).1.length o:=by rw [show (S,p.2).1.length=p.1.length from ao];exact k
 have f0:HE (S,p.2) o 0:=⟨NW NL NN,NW NL NN⟩;have f1:HE (S,p.2) o 1:=⟨NW NL NN,NW NL NN⟩;have ak:qS (S,p.2) o=0:=TQ.2 ⟨f0,f1⟩;have hle:=aam pO;have zc:=TP (S,p.2) (Jy (S,p.2));have af:Vh (S,p.2)=0:=by
  show qS (S,p.2) (Jy (S,p.2))=0;omega
 have Uo:=I_.2 ad;have hlen:(S,p.2).1.length≤1000:=by rw [show (S,p.2).1.length=p.1.length from ao];omega
 have Hh:=VE ad pO;refine ⟨?_,?_,⟨(Lw (S,p.2):Int),?_,?_⟩,?_,?_⟩
 ·rw [X4 ad pO,ak]
 ·rw [ahr ad,af]
 ·rw [XX hlen,if_pos Uo]
 ·have:=aba ad pO ak;omega
 ·obtain ⟨l,e1,b'⟩:=R_ (p:=(S,p.2)) (o:=o) hlen (by omega);rw [if_pos Hh] at e1;unfold K6;rw [e1,sb,(b' Hh).1,PW f0,PW f1];rfl
 ·rw [X1 hlen,if_pos Uo,aaj ad pO f0 f1]
end Go.Proofs.YtkoioidpbbbaiaaGreat.Ab


namespace Go.Proofs.YtkoioidpbbbaiaaGreat.Ab
open Go
noncomputable def Rt:gE :=
 .block 1 (q8 [p0 47 [.nc 7] (.yM 0),qg 48 47,p3 49 6,p3 50 5,qw 51 50 1 .sub,p3 52 8,qm 53 51 52 .sub,q5 54 49 53 1,qg 55 54,p0 56 [.nc 7] (.yM 0),qg 57 56,p3 58 6,p3 59 8,q5 60 58 59 1,qg 61 60,q5 62 57 61 2,p0 63 [.Bs 62] (.zE (.str 2)),q5 64 48 55 2,⟨none,[.jq 64,.jq 63],none,none,.st 2⟩])
noncomputable def Rx:gE :=
 .seq (p2 [p3 41 8,p3 42 5,qw 43 42 2 .quo,qm 44 41 43 .lss] (.cond (.nc 44) .skip (.exit 0))) (.seq Rt (qF [p1 45 8,qP 46 45 1,p1 8 46]))
noncomputable def Ry:gE :=
 p2 [p1 92 10,qw 93 92 0 .eql,p1 94 93,cl 95 [.jq 9] 94 true .mU,cl 96 [.Bs 95,.cv (.int .i64 0)] 94 true (.bin .eql),p0 97 [.Bs 94,.Bs 96,.cv (.bool false)] .pick,p1 98 97,cl 99 [.jq 12] 98 true .mU,p0 100 [.Bs 98,.Bs 99,.cv (.bool false)] .pick,p1 101 100,cl 102 [.jq 11] 101 true .mU,cl 103 [.Bs 102,.cv (.int .i64 0)] 101 true (.bin .eql),p0 104 [.Bs 101,.Bs 103,.cv (.bool false)] .pick,p1 105 104,cl 106 [.jq 14] 105 true .mU,cl 107 [.Bs 106,.cv (.int .i64 0)] 105 true (.bin .eql),p0 108 [.Bs 105,.Bs 107,.cv (.bool false)] .pick,p1 109 108,cl 110 [.jq 13] 109 true .mU,cl 111 [.Bs 110,.cv (.int .i64 2)] 109 true (.bin .geq),p0 112 [.Bs 109,.Bs 111,.cv (.bool false)] .pick,p1 113 112,cl 114 [.jq 16] 113 true .mU,cl 115 [.Bs 114,.cv (.int .i64 0)] 113 true (.bin .eql),p0 116 [.Bs 113,.Bs 115,.cv (.bool false)] .pick,p1 117 116,cl 118 [.jq 15] 117 true .mU,cl 119 [.Bs 118,.cv (.int .i64 0)] 117 true (.bin .eql),p0 120 [.Bs 117,.Bs 119,.cv (.bool false)] .pick,p1 121 120,cl 122 [.jq 18] 121 true .mU,cl 123 [.Bs 122,.cv (.int .i64 0)] 121 true (.bin .eql),p0 124 [.Bs 121,.Bs 123,.cv (.bool false)] .pick,p1 125 124,cl 126 [.jq 17] 125 true .mU,cl 127 [.jq 5] 125 true .mU,⟨some 128,[.cv (.func 32 [] []),.nc 127],some (125,true),none,.call 3⟩,⟨some 129,[.cv (.func 18 [] []),.nc 126,.nc 128],some (125,true),none,.call 3⟩,p0 130 [.Bs 125,.Bs 129,.cv (.bool false)] .pick,p1 131 130,⟨some 132,[.cv (.func 11 [] [])],some (131,true),none,.call 3⟩,p0 133 [.Bs 131,.Bs 132,.cv (.bool false)] .pick,p1 4 133] .ret
noncomputable def Rz:gE :=
 p2 [p0 88 [.Bs 7] (.zE (.str 3)),p0 89 [.cv (.func 24 [] []),.nc 88] (.call 3),p1 87 89,qJ 90 87 0,p0 91 [.Bs 87] (.ext 1),p1 17 90,p1 18 91] Ry
noncomputable def RA:gE :=
 p2 [p0 82 [.nc 7] (.zE (.str 3)),p1 83 6,p0 84 [.cv (.func 21 [] []),.nc 82,.nc 83] (.call 3),p1 81 84,qJ 85 81 0,p0 86 [.Bs 81] (.ext 1),p1 15 85,p1 16 86] Rz
noncomputable def RB:gE :=
 p2 [p0 77 [.nc 7] (.zE (.str 3)),p0 78 [.cv (.func 16 [] []),.nc 77] (.call 3),p1 76 78,qJ 79 76 0,p0 80 [.Bs 76] (.ext 1),p1 13 79,p1 14 80] RA
noncomputable def RC:gE :=
 p2 [p0 72 [.nc 7] (.zE (.str 3)),p0 73 [.cv (.func 27 [] []),.nc 72] (.call 3),p1 71 73,qJ 74 71 0,p0 75 [.Bs 71] (.ext 1),p1 11 74,p1 12 75] RB
noncomputable def RD:gE :=
 p2 [p0 66 [.nc 7] (.other (Oper.mk (some 66) (Op.load 26 (Operand.tmp 7)) 26 "outright.go:107" (Array.mk []) none) 6), p3 67 6, p0 68 [.cv (.func 29 [] []), .nc 66, .nc 67] (.call 3), p1 65 68, qJ 69 65 0, p0 70 [.Bs 65] (.ext 1), p1 9 69, p1 10 70] RC
noncomputable def Oc:gE :=
 .seq (p2 [qd 8 0] (.block 0 (.loop (some (p8 false [5,4,125])) Rx))) RD
noncomputable def RE:gE :=
 .seq (.two [p0 34 [] (.yB 0 2 [.int .i64 0,.int .i64 0] []),p0 35 [.nc 2] (.yM 0),p0 36 [.Bs 35] (.zF .one),p0 37 [.jq 34,.jq 36] (.yt 2 16),p0 38 [.nc 2] (.yM 1),p0 39 [.Bs 38] (.zF (.str 2)),p0 40 [.Bs 37,.Bs 39] (.build [.av [] 0 .full,.int .i64 0,.int .i64 0] [(0,1),(1,2)]),p0 7 [] (.alloc [.av [] 0 .full,.int .i64 0,.int .i64 0]),⟨none,[.nc 7,.jq 40],none,none,.st 3⟩] [p0 34 [] (.yB 0 2 [.int .i64 0,.int .i64 0] []),p0 35 [.nc 2] (.yM 0),p0 36 [.Bs 35] (.zF .one),p0 7 [] (.alloc [.av [] 0 .full,.int .i64 0,.int .i64 0]),p0 37 [.jq 34,.jq 36] (.yt 2 16),p0 38 [.nc 2] (.yM 1),p0 39 [.Bs 38] (.zF (.str 2)),p0 40 [.Bs 37,.Bs 39] (.build [.av [] 0 .full,.int .i64 0,.int .i64 0] [(0,1),(1,2)]),⟨none,[.nc 7,.jq 40],none,none,.st 3⟩]) Oc
noncomputable def Ru:gE :=
 p2 [p3 31 5,p1 32 1,p0 33 [.cv (.func 28 [] []),.nc 31,.nc 32] (.call 3),p1 6 33] RE
noncomputable def Rv:gE :=
 p2 [p0 28 [.nc 2] (.yM 0),qg 29 28,qT 30 29,p1 5 30] Ru
noncomputable def Rw:gE :=
 .seq (p2 [p0 19 [.nc 2] (.zE (.str 3)),p0 20 [.cv (.func 26 [] []),.nc 19] (.call 3),p0 21 [.Bs 20] (.un .not),p1 22 21,cl 23 [.nc 1] 22 false .mU,cl 24 [.jq 23] 22 false .zJ,cl 25 [.Bs 24,.cv (.int .i64 20)] 22 false (.bin .gtr),p0 26 [.Bs 22,.cv (.bool true),.Bs 25] .pick] (.cond (.nc 26) (p2 [p0 27 [.cv (.func 11 [] [])] (.call 3),p1 4 27] .ret) .skip)) Rv
noncomputable def WM:gE :=
 p2 [p0 2 [.jq 0] .yy,p0 4 [.cv (.bool false)] .mU] Rw
theorem adg:ql Go.Proofs.Tryz.prog Py 7=some (WM,134,[.tmp 4]):=by kernel_rfl
end Go.Proofs.YtkoioidpbbbaiaaGreat.Ab


namespace Go.Proofs.YtkoioidpbbbaiaaGreat.Ab
open Go
set_option maxRecDepth 100000
set_option maxHeartbeats 4000000
theorem acM {P:Program} {C:b8} {id rid n:Nat} {o:Oper} {t:TypeId} {e:Operand} {S:List qv} {a b:Int} {H:List ar} (aq:o.op=.load t e) (ab:H[id]?=some (.cells [.ref rid 0 n none 2,h0 a,h0 b])) (ae:H[rid]?=some (.cells (S.flatMap p7))) (aI:S.length=n) (bJ:rid≠id) (ah:bF P t=some 3) (aO:dK P t=true) :
  a3 P C 0 o 6 [.ptr id 0] H=some (.agg [.av (S.flatMap p7) n .shared,h0 a,h0 b],(H.set rid .dead).set id (.cells [.av (S.flatMap p7) n .shared,h0 a,h0 b])):=by
 have aE:=(sa.1 ab).1;unfold a3;rw [aq];show dF P 0 6 t H [.ptr id 0]=_;unfold dF;simp only [ab,List.getElem?_cons_zero];rw [if_pos (sC _),if_pos ⟨sC _,bJ⟩,RP ae aI];show (dy P _ t (.ptr id 0)).map _=_;unfold dy;simp only;rw [sj (by simpa using aE)];simp only;unfold e6;rw [aO];simp only;rw [ah];rfl
theorem Xx {p:qb} {o:List Int} (h:qY p) (k:qo p.1.length o) {vid rid:Nat} (acz:rid≠vid) {Hs:List (Int×Int)→List ar} (ad:∀ S,(Hs S)[vid]?=some (.cells [.ref rid 0 p.1.length none 2,h0 p.2.1,h0 p.2.2])) (ai:∀ S,(Hs S)[rid]?=some (.cells (S.flatMap p7))) (ah:∀ S bL,(Hs S).set rid (.cells (bL.flatMap p7))=Hs bL)
  {Q:cQ→List I→List ar→Prop} (jJ:∀ T H,HC [.tmp 4] (B true) .ret T H→Q .ret T H) {T:List I} {v0 v1 v2 v4 agE Oz agF agG agH agI OA agJ agK agL agM:I} (b0:T=qa 134 [(0,v0),(1,v1),(2,v2),(4,v4),(5,h0 p.1.length),(6,.av (o.map h0) o.length .shared),(7,.ptr vid 0),(19,agE),(26,Oz),(31,agF),(32,agG),(34,agH),(35,agI),(36,OA),(37,agJ),(38,agK),(39,agL),(40,agM)]) :
  dQ Tryz.prog Py 7 0 none Oc T (Hs p.1) Q:=by
 subst b0;have hlen:=h.len;have al:=k.1;unfold Oc;obtain ⟨nv,Iv⟩:∃ c,RD=c:=⟨_,rfl⟩;obtain ⟨a9,ca⟩:∃ c,Rx=c:=⟨_,rfl⟩;rw [Iv,ca];conv=>whnf
 refine .intro (fun m T H=>∃ (i:Nat),i≤p.1.length / 2∧m=p.1.length / 2-i∧T=qa 134 [(5,h0 p.1.length),(6,.av (o.map h0) o.length .shared),(7,.ptr vid 0),(8,h0 i)]∧H=Hs (Ht o i p.1)) (p.1.length / 2) ⟨0,sC _,rfl,rfl,rfl⟩ ?_;rintro m T H ⟨i,hi,rfl,rfl,rfl⟩;subst ca;unfold Rx;obtain ⟨a7,cf⟩:∃ c,Rt=c:=⟨_,rfl⟩;rw [cf];conv=>whnf
 have iN:IntKind.i64.wrap ((p.1.length:Int).tdiv 2)=((p.1.length / 2:Nat):Int):=by rw [Int.tdiv_eq_ediv_of_nonneg (by omega),rY _ (by omega) (by omega)];omega
 refine ⟨by decide,?_⟩;rw [iN];conv=>whnf
 refine Hm (fun aR=>?_) (fun aR=>?_)
 ·subst cf;unfold Rt;conv=>whnf
  refine Ew (ad _) ?_;conv=>whnf
  have Ci:((p.1.length:Int)-1-i)=((p.1.length-1-i:Nat):Int):=by omega
  have aa9:IntKind.i64.wrap (IntKind.i64.wrap ((p.1.length:Int)-1)-i)=((p.1.length-1-i:Nat):Int):=by rw [rY ((p.1.length:Int)-1) (by omega) (by omega),rY _ (by omega) (by omega),Ci]
  rw [aa9];have gM:0≤((p.1.length-1-i:Nat):Int)∧((p.1.length-1-i:Nat):Int)<(o.length:Int):=by omega
  have gN:0≤(i:Int)∧(i:Int)<(o.length:Int):=by omega
  obtain ⟨S,cp⟩:∃ S,S=Ht o i p.1:=⟨_,rfl⟩;have NI:S.length=p.1.length:=by rw [cp,Lv]
  have dC:=rR k (p.1.length-1-i) (by omega);have Dt:=rR k i (by omega);have qp:0≤ix o (i:Int)∧ix o (i:Int)<(S.length:Int):=by omega
  have qI:0≤ix o ((p.1.length-1-i:Nat):Int)∧ix o ((p.1.length-1-i:Nat):Int)<(S.length:Int):=by omega
  rw [←cp];refine ⟨gM,?_⟩;rw [rb h0 o _ gM];conv=>whnf
  refine Ew (ad _) ?_;conv=>whnf
  refine ⟨gN,?_⟩;rw [rb h0 o _ gN];conv=>whnf
  refine ⟨by omega,?_⟩;conv=>whnf
  refine Ew (ai S) ?_;conv=>whnf
  refine MV p7 2 Kj S (ix o (i:Int)) qp rfl ?_;conv=>whnf
  refine JC p7 2 Kj S (ix o (i:Int)) qp 1 rfl ?_;conv=>whnf
  refine ⟨by omega,?_⟩;conv=>whnf
  refine Ew (ai S) ?_;conv=>whnf
  have pE:(S.flatMap p7).length=S.length*2:=HZ p7 2 (fun _=>rfl) S;rw [show 0+(ix o ((p.1.length-1-i:Nat):Int)).toNat*2=(ix o ((p.1.length-1-i:Nat):Int)).toNat*2 by omega];refine Gn (by omega) ?_;conv=>whnf
  refine Gn (by rw [sV];omega) ?_;conv=>whnf
  erw [Oo S (ix o ((p.1.length-1-i:Nat):Int)).toNat (ix S (ix o (i:Int))).1 (ix S (ix o (i:Int))).2 (by omega),ah];have rq:IntKind.i64.wrap ((i:Int)+1)=((i+1:Nat):Int):=by rw [rY _ (by omega) (by omega)];omega
  refine ⟨p.1.length / 2-(i+1),by omega,i+1,by omega,rfl,by rw [rq];rfl,?_⟩;have e1:Ht o (i+1) p.1=S.set (ix o ((p.1.length-1-i:Nat):Int)).toNat (ix S (ix o (i:Int))):=by rw [cp];show (Ht o i p.1).set (ix o ((o.length-1-i:Nat):Int)).toNat _=_;rw [al]
  rw [e1]
 ·obtain rfl:i=p.1.length / 2:=by omega
  conv=>whnf
  subst Iv;unfold RD;obtain ⟨nu,JL⟩:∃ c,RC=c:=⟨_,rfl⟩;rw [JL];conv=>whnf
  have NI:(Ht o (p.1.length / 2) p.1).length=p.1.length:=Lv _ _ _;obtain ⟨PN,PM,⟨f,PJ,aP⟩,PK,PL⟩:=aa8 h k;obtain ⟨S,cp⟩:∃ S,S=Ht o (p.1.length / 2) p.1:=⟨_,rfl⟩;rw [←cp] at NI PN PM PJ PK PL ⊢;have QA:=ad S;rw [←NI] at QA;refine ⟨_,_,fun C=>acM (n:=S.length) rfl QA (ai S) rfl acz (by kernel_rfl) (by kernel_rfl),?_⟩;have aE:vid<((Hs S).set rid .dead).length:=by rw [sV];exact (sa.1 QA).1
  obtain ⟨H2,ch⟩:∃ H2,H2=((Hs S).set rid .dead).set vid (.cells [.av (S.flatMap p7) S.length .shared,h0 p.2.1,h0 p.2.2]):=⟨_,rfl⟩;have aO:H2[vid]?=some (.cells [.av (S.flatMap p7) S.length .shared,h0 p.2.1,h0 p.2.2]):=by rw [ch];exact sj aE
  rw [←ch];conv=>whnf
  refine ⟨qj.pl,_,M7 PN,?_⟩;conv=>whnf
  subst JL;unfold RC;obtain ⟨f',rU⟩:∃ c,RB=c:=⟨_,rfl⟩;rw [rU];conv=>whnf
  refine Ew aO ?_;conv=>whnf
  refine ⟨qj.pl,_,ahs PM,?_⟩;conv=>whnf
  subst rU;unfold RB;obtain ⟨dV,Cr⟩:∃ c,RA=c:=⟨_,rfl⟩;rw [Cr];conv=>whnf
  refine Ew aO ?_;conv=>whnf
  refine ⟨qj.pl,_,XY PJ,?_⟩;conv=>whnf
  subst Cr;unfold RA;obtain ⟨b6,iP⟩:∃ c,Rz=c:=⟨_,rfl⟩;rw [iP];conv=>whnf
  refine Ew aO ?_;conv=>whnf
  refine ⟨qj.pl,_,XZ PK,?_⟩;conv=>whnf
  subst iP;unfold Rz;obtain ⟨bt,eS⟩:∃ c,Ry=c:=⟨_,rfl⟩;rw [eS];conv=>whnf
  refine Ew aO ?_;conv=>whnf
  refine ⟨qj.pl,_,X2 PL,?_⟩;conv=>whnf
  subst eS;unfold Ry;conv=>whnf
  rw [show decide (2≤((f,0):Int×Int).1)=true from decide_eq_true aP];conv=>whnf
  refine ⟨qj.pl,_,ahz (ahx (n:=p.1.length) (by omega)),?_⟩;conv=>whnf
  have aa4:JD (qh S.length) (qh p.1.length)=some true:=by rw [NI];exact ahl (by rw [JZ];omega)
  refine ⟨qj.pl,_,R7 aa4,?_⟩;conv=>whnf
  refine ⟨rfl,_,R2 works,?_⟩;conv=>whnf
  exact jJ _ _ ⟨.inr rfl,_,rfl,_,yW rfl,rfl⟩
theorem aaY (p:qb) {B:List Int} (Ix:∀ b∈B,0≤b∧b≤255):qx 7 [aez p,.av (B.map Js) B.length .shared] (.bool true):=by
 refine qK eG adg rfl rfl fun Q bp=>?_;have jJ:∀ T H,HC [.tmp 4] (.bool true) .ret T H→Q .ret T H:=fun T H bE=>bp _ T H bE;unfold WM;obtain ⟨aao,Mt⟩:∃ c,Rw=c:=⟨_,rfl⟩;rw [Mt];conv=>whnf
 refine ⟨rfl,?_⟩;conv=>whnf
 subst Mt;unfold Rw;obtain ⟨aan,Ms⟩:∃ c,Rv=c:=⟨_,rfl⟩;rw [Ms];conv=>whnf
 refine ⟨qj.pl,_,ahq (ahp p),?_⟩;conv=>whnf
 by_cases ak:rm p=0
 ·rw [decide_eq_true ak];have h:=I_.1 ak;have hlen:=h.len;conv=>whnf
  refine Hm (fun aR=>?_) (fun aR=>?_)
  ·(conv=>whnf);refine ⟨rfl,_,R2 works,?_⟩;(conv=>whnf);exact jJ _ _ ⟨.inr rfl,_,rfl,_,yW rfl,rfl⟩
  ·(conv=>whnf);subst Ms;unfold Rv;obtain ⟨TH,Ja⟩:∃ c,Ru=c:=⟨_,rfl⟩;rw [Ja];(conv=>whnf);subst Ja;unfold Ru;obtain ⟨B9,JA⟩:∃ c,RE=c:=⟨_,rfl⟩;rw [JA];(conv=>whnf);obtain ⟨o,k,aq⟩:=aht (n:=p.1.length) (by omega) Ix (by omega);refine ⟨qj.pl,_,ahw aq,?_⟩;(conv=>whnf);subst JA;unfold RE;obtain ⟨aaq,KJ⟩:∃ c,Oc=c:=⟨_,rfl⟩;rw [KJ];(conv=>whnf);have pE:(p.1.flatMap p7).length=p.1.length*2:=HZ p7 2 (fun _=>rfl) p.1;refine ⟨?_,?_⟩
   ·(conv=>whnf);refine ⟨pE,by omega,?_⟩;(conv=>whnf);refine ⟨rfl,by omega,?_⟩;(conv=>whnf);refine ⟨by omega,?_⟩;(conv=>whnf);rw [sy];subst KJ;refine Xx h k (vid:=1) (rid:=0) (by decide) (Hs:=fun S=>[.cells (S.flatMap p7),.cells [.ref 0 0 p.1.length none 2,h0 p.2.1,h0 p.2.2]]) (fun _=>rfl) (fun _=>rfl) (fun _ _=>rfl) jJ rfl
   ·(conv=>whnf);refine ⟨pE,by omega,?_⟩;(conv=>whnf);refine ⟨rfl,by omega,?_⟩;(conv=>whnf);refine ⟨by omega,?_⟩;(conv=>whnf);rw [sy];subst KJ;refine Xx h k (vid:=0) (rid:=1) (by decide) (Hs:=fun S=>[.cells [.ref 1 0 p.1.length none 2,h0 p.2.1,h0 p.2.2],.cells (S.flatMap p7)]) (fun _=>rfl) (fun _=>rfl) (fun _ _=>rfl) jJ rfl
 ·rw [decide_eq_false ak];conv=>whnf
  refine ⟨rfl,_,R2 works,?_⟩;conv=>whnf
  exact jJ _ _ ⟨.inr rfl,_,rfl,_,yW rfl,rfl⟩
end Go.Proofs.YtkoioidpbbbaiaaGreat.Ab
