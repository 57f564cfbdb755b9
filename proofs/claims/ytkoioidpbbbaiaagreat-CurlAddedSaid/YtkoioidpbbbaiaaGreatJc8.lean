
import Derived.Test.YtkoioidpbbbaiaaGreatJc5
import Derived.Test.YtkoioidpbbbaiaaGreatJc6
import Derived.Test.YtkoioidpbbbaiaaGreatJc7
import Derived.KernelRfl
import Derived.Test.YtkoioidpbbbaiaaGreatProg
set_option linter.unusedSimpArgs false
set_option linter.unusedVariables false
set_option linter.unusedSectionVars false

open Bool renaming and_eq_true→sq,and_true→tt,or_false→vH
open Int renaming le_refl→sQ,tmod_eq_emod_of_nonneg→vA,tmod_lt_of_pos→uG,tmod_nonneg→uF,toNat_natCast→tp
open List renaming append_assoc→sy,append_nil→sN,drop_eq_getElem_cons→s0,exists_cons_of_ne_nil→tL,filter_append→t_,getD_eq_getElem?_getD→sx,getElem?_append_left→si,getElem?_eq_getElem→sj,getElem?_eq_some_iff→sa,getElem?_map→sm,getElem?_set_ne→se,getElem?_set_self→sk,getElem_map→tK,getElem_mem→tO,length_append→sA,length_map→sX,map_append→sJ,map_set→tG,mem_cons→sB,nil_append→tN,range_succ→vD,take_of_length_le→td,take_succ_eq_append_getElem→uo
open Nat renaming le_refl→sd,lt_succ_self→sv,mod_lt→uJ,mul_one→tn,zero_add→sC,zero_le→sE
open Option renaming bind_some→sb
namespace Go.Proofs.YtkoioidpbbbaiaaGreat.Ab
open Go
set_option maxRecDepth 20000
set_option maxHeartbeats 4000000
noncomputable def Z4:gE :=
 p2 [p0 1 [.jq 0] .box,qh 2 0,qh 3 0] (p2 [p0 7 [.nc 1] (.zE (.str 3)),p0 8 [.cv (.func 14 [] []),.nc 7] (.call 3),p1 6 8,qI 9 6 0,p0 10 [.Bs 6] (.ext 1),p1 4 9,p1 5 10] (.seq (p2 [p3 11 5,qE 12 11 0 .neq] (.cond (.nc 12) (p2 [p1 13 5,qh 2 0,p1 3 13] .ret) .skip)) (p2 [p0 14 [.Bs 1] (.zE (.str 3)),p1 15 4,p0 16 [.cv (.func 29 [] []),.nc 14,.nc 15] (.call 3),qI 17 16 0,p0 18 [.Bs 16] (.ext 1),p1 2 17,p1 3 18] .ret)))
theorem aeN:qt Tryz.prog Un 12=some (Z4,19,[.tmp 2,.tmp 3]):=by kernel_rfl
def Lw (p:(qd×(Int×Int))):Option (Int×Int) :=
 (K6 p).bind fun aS =>
 if (decide (aS.2≠(0:Int)))=true then
  some ((0:Int),aS.2)
 else
  (I4 p aS.1).bind fun bj =>
  some (bj.1,bj.2)
theorem Zi {p:(qd×(Int×Int))} {v:(Int×Int)} (h:Lw p=some v):qB 12 [(.agg [(.av (p.1.flatMap p7) p.1.length .shared),(h0 p.2.1),(h0 p.2.2)])] (.tuple [(h0 v.1),(h0 v.2)]):=by
 refine qR eG aeN rfl (JG (p5 rfl (p5 rfl rfl))) fun Q bp=>?_;have jJ:qK [.tmp 2,.tmp 3] Q (fun v=>(.tuple [(h0 v.1),(h0 v.2)])) v:=fun T H bE=>bp _ T H bE;unfold Lw at h;unfold Z4;conv=>whnf
 obtain ⟨aS,gM,h⟩:=p9 h;refine ⟨qa.pl,_,Tx gM,?_⟩;conv=>whnf
 refine bs h (fun gN h=>?_) fun gN h=>?_
 ·rw [gN];conv=>whnf
  exact p8 h jJ rfl rfl
 ·rw [gN];conv=>whnf
  obtain ⟨bj,qx,h⟩:=p9 h;refine ⟨qa.pl,_,KB qx,?_⟩;conv=>whnf
  exact p8 h jJ rfl rfl

def Ty (p:(qd×(Int×Int))) (p':p_→Option (p_×Int)):Nat→p_→Int→p_→Option (p_×Int)
 | 0,_,_,_=>none
 | m+1,s1,s2,dk =>
   if (decide ((0:Int)<(dk.length:Int)))=true then
    (TK p dk).bind fun r5 =>
    if (decide (r5<s2))=true then
     (O8 dk).bind fun H7 =>
     Ty p p' m dk r5 H7
    else
     (O8 dk).bind fun Hp =>
     Ty p p' m s1 s2 Hp
   else
    p' s1
def Zj (p:(qd×(Int×Int))):Option (p_×Int) :=
 (Ki p).bind fun aS =>
 if (decide (aS≠(0:Int)))=true then
  (Ki p).bind fun bj =>
  some ([],bj)
 else
  (Zq (p.1.length:Int)).bind fun eK =>
  (TK p eK).bind fun qW =>
  (O8 eK).bind fun q8 =>
  Ty p (fun yn =>
    some (yn,(0:Int))) qj eK qW q8

def aiq (p:(qd×(Int×Int))):Option (Int×Int) :=
 (Zj p).bind fun aS =>
 if (decide (aS.2≠(0:Int)))=true then
  some ((0:Int),aS.2)
 else
  (Lz p aS.1).bind fun bj =>
  some (bj,(0:Int))

def Tz (p:(qd×(Int×Int))) (p':Int→Option (Int×Int)):Nat→Int→p_→Option (Int×Int)
 | 0,_,_=>none
 | m+1,s1,s2 =>
   if (decide ((0:Int)<(s2.length:Int)))=true then
    (TK p s2).bind fun qW =>
    if (decide (qW=(0:Int)))=true then
     (O8 s2).bind fun q8 =>
     Tz p p' m (w (s1+(1:Int))) q8
    else
     (O8 s2).bind fun r5 =>
     Tz p p' m s1 r5
   else
    p' s1
def ait (p:(qd×(Int×Int))):Option (Int×Int) :=
 (Ki p).bind fun aS =>
 if (decide (aS≠(0:Int)))=true then
  (Ki p).bind fun bj =>
  some ((0:Int),bj)
 else
  (Zq (p.1.length:Int)).bind fun eK =>
  Tz p (fun yn =>
    some (yn,(0:Int))) qj (0:Int) eK
end Go.Proofs.YtkoioidpbbbaiaaGreat.Ab


namespace Go.Proofs.YtkoioidpbbbaiaaGreat.Ab
open Go
set_option maxRecDepth 20000
set_option maxHeartbeats 1000000
def rL (p:qf):List (List Int):=ri p.1.length (ql p.1.length)
theorem Mr {p:qf} {o:List Int}:o∈rL p↔qu p.1.length o:=afI.symm
theorem Rb {p:qf} (h:rj p):(rL p).length≤100000:=WC h.len.2
theorem aaR {p:qf}:(rL p)[0]?=some (ql p.1.length):=WB _ _ (ahS _)
theorem all_cons {p:qf}:∃ r,rL p=ql p.1.length::r:=by
 have:=aaR (p:=p);cases h:rL p with
 | nil=>rw [h] at this;cases this
 | cons a r=>rw [h] at this;exact ⟨r,by rw [Option.some.inj this]⟩
def HJ (p:qf) (b o:List Int):List Int:=if qH p o<qH p b then o else b
def Ib (p:qf):List Int:=((rL p).drop 1).foldl (HJ p) (ql p.1.length)
def RF (p:qf):Nat:=((rL p).filter fun o=>decide (qH p o=0)).length
section
variable {p:qf}
theorem ahQ {α:Type} {l:List α} {j:Nat} (aw:j<l.length):l.take (j+1)=l.take j++[l[j]]:=uo aw
theorem Vc:(rL p).foldl (HJ p) (ql p.1.length)=Ib p:=by
 unfold Ib;obtain ⟨r,ai⟩:=all_cons (p:=p);rw [ai];show List.foldl _ (HJ p _ _) r=_;rw [show HJ p (ql p.1.length) (ql p.1.length)=ql p.1.length by unfold HJ;split <;> rfl];rfl
theorem YW (n:Nat):qu n (ql n):=Nk.2 (.refl _)
theorem aiT (h:rj p) {x y:List Int} (aj:qu p.1.length x) (aY:qu p.1.length y):LB (p,()) x y=some (decide (qH p x<qH p y)):=by
 unfold LB;rw [O5 h aj,sb,O5 h aY,sb]
theorem Sm (h:rj p):∀ (m j:Nat) (b:List Int),1+j≤(rL p).length→(rL p).length-(1+j)<m→b=(((rL p).drop 1).take j).foldl (HJ p) (ql p.1.length)→qu p.1.length b →
  LA (rL p) (LB (p,())) (fun z=>some z) m b (j:Int)=some (Ib p)
 | 0,_,_,_,h,_,_=>absurd h (by omega)
 | m+1,j,b,aw,hm,af,bT=>by
   have adB:=Rb h;rw [LA];have e1:((1:Int)).toNat=1:=rfl;rw [e1];(have el:((rL p).drop 1).length=(rL p).length-1:=by simp);by_cases aR:j<((rL p).drop 1).length
   ·rw [if_pos (decide_eq_true (by omega)),qF (by omega),rJ aR];have kL:((rL p).drop 1)[j]∈rL p:=List.mem_of_mem_drop (tO aR);have al:=Mr.1 kL;rw [aiT h al bT,sb,Ik j (by omega)];have bw:HJ p b ((rL p).drop 1)[j]=(((rL p).drop 1).take (j+1)).foldl (HJ p) (ql p.1.length):=by
     rw [ahQ aR,List.foldl_append,←af];rfl
    by_cases ak:qH p ((rL p).drop 1)[j]<qH p b
    ·rw [if_pos (decide_eq_true ak)];refine Sm h m (j+1) _ (by omega) (by omega) ?_ al;rw [←bw];unfold HJ;rw [if_pos ak]
    ·rw [if_neg (by simpa using ak)];refine Sm h m (j+1) _ (by omega) (by omega) ?_ bT;rw [←bw];unfold HJ;rw [if_neg ak]
   ·rw [if_neg (by simpa using by omega)];rw [td (by omega)] at af;rw [af];rfl
theorem Tw (aB:p.1.length≤1000):K6 p=some (if rz p=0 then (Ib p,0) else ([],rz p)):=by
 unfold K6;rw [TG aB,sb];by_cases h:rz p=0
 ·rw [if_pos h,if_pos h];have ad:=IV.1 h;have ao:=ad.len;simp only;rw [if_neg (by decide),qF (show 0<p.1.length∧p.1.length≤7 by omega)];show (O7 (rL p) (LB (p,()))).bind _=_;obtain ⟨r,ai⟩:=all_cons (p:=p);have aQ:0<(rL p).length:=by rw [ai];simp
  unfold O7;rw [qF (by omega),qF (by omega)];have gb:ix (rL p) (0:Int)=ql p.1.length:=by rw [ai];rfl
  rw [gb];have:=Sm ad qj 0 (ql p.1.length) (by omega) (It (by have:=Rb ad;omega)) rfl (YW _);rw [show ((0:Nat):Int)=0 from rfl] at this;rw [this,sb]
 ·rw [if_neg h,if_neg h];simp only;rw [if_pos (decide_eq_true h)]
theorem ach (q:List Int→Bool) (l:List (List Int)):(l.filter q).length≤l.length:=List.length_filter_le _ _
theorem Vv (h:rj p):∀ (l r:List (List Int)),rL p=r++l→IE (KI (p,())) l ((r.filter fun o=>decide (qH p o=0)).length:Int)=some ((RF p:Int))
 | [],r,e=>by rw [sN] at e;subst e;rfl
 | o::l,r,e=>by
   have adB:=Rb h;have al:qu p.1.length o:=Mr.1 (by rw [e];simp);(have hlen:r.length+(l.length+1)=(rL p).length:=by rw [e];simp);have jM:=ach (fun o=>decide (qH p o=0)) r;have a8:=Vv h l (r++[o]) (by rw [e];simp);rw [t_,sA] at a8;show (KI (p,()) _ o).bind (IE (KI (p,())) l)=_;unfold KI;rw [O5 h al,sb,sb];by_cases ak:qH p o=0
   ·rw [if_pos (decide_eq_true ak),Ik _ (by omega)];rw [show ([o].filter fun o=>decide (qH p o=0)).length=1 by simp [ak]] at a8;exact a8
   ·rw [if_neg (by simpa using ak)];rw [show ([o].filter fun o=>decide (qH p o=0)).length=0 by simp [ak]] at a8;exact a8
theorem air (aB:p.1.length≤1000):MI p=some (if rz p=0 then ((RF p:Int),0) else (0,rz p)):=by
 unfold MI;rw [TG aB,sb];by_cases h:rz p=0
 ·rw [if_pos h,if_pos h];have ad:=IV.1 h;have ao:=ad.len;simp only;rw [if_neg (by decide),qF (show 0<p.1.length∧p.1.length≤7 by omega)];have:=Vv ad (rL p) [] rfl;show (IE (KI (p,())) (rL p) 0).bind _=_;have this:IE (KI (p,())) (rL p) 0=some ((RF p:Int)):=this;rw [this,sb]
 ·rw [if_neg h,if_neg h];simp only;rw [if_pos (decide_eq_true h)]
theorem Vd (p:qf) (E:List (List Int)):∀ (b:List Int),(E.foldl (HJ p) b=b∨E.foldl (HJ p) b∈E)∧qH p (E.foldl (HJ p) b)≤qH p b∧∀ o∈E,qH p (E.foldl (HJ p) b)≤qH p o:=by
 induction E with
 | nil=>intro b;exact ⟨.inl rfl,sQ _,by simp⟩
 | cons a E a8 =>
   intro b;obtain ⟨ab,ae,aF⟩:=a8 (HJ p b a);have af:(HJ p b a=b∨HJ p b a=a)∧qH p (HJ p b a)≤qH p b∧qH p (HJ p b a)≤qH p a:=by
    unfold HJ;split
    ·exact ⟨.inr rfl,by omega,by omega⟩
    ·exact ⟨.inl rfl,by omega,by omega⟩
   rw [List.foldl_cons];refine ⟨?_,by omega,fun o aq=>?_⟩
   ·rcases ab with ab | ab
    ·rcases af.1 with e | e
     ·left;rw [ab,e]
     ·right;rw [ab,e];simp
    ·right;simp [ab]
   ·rcases sB.1 aq with rfl | aq
    ·omega
    ·exact aF o aq
theorem LP (p:qf):qu p.1.length (Ib p):=by
 rw [←Vc];obtain ⟨ab,_,_⟩:=Vd p (rL p) (ql p.1.length);rcases ab with ab | ab
 ·rw [ab];exact YW _
 ·exact Mr.1 ab
theorem Rs {o:List Int} (h:qu p.1.length o):qH p (Ib p)≤qH p o:=by
 rw [←Vc];exact (Vd p (rL p) (ql p.1.length)).2.2 o (Mr.2 h)
theorem Zh (aB:p.1.length≤1000):Lw p=some (if rz p=0 then (qH p (Ib p),0) else (0,rz p)):=by
 unfold Lw;rw [Tw aB,sb];by_cases h:rz p=0
 ·rw [if_pos h,if_pos h];have ad:=IV.1 h;have af:=LP p;simp only;rw [if_neg (by simp),Qw aB (by rw [af.1];have:=ad.len;omega),if_pos (Mt.2 ⟨ad,af⟩)];rfl
 ·rw [if_neg h,if_neg h];simp only;rw [if_pos (decide_eq_true h)]
end
end Go.Proofs.YtkoioidpbbbaiaaGreat.Ab


namespace Go.Proofs.YtkoioidpbbbaiaaGreat.Ab
open Go
set_option maxRecDepth 20000
set_option maxHeartbeats 4000000
def Ht (N:Nat) (H H':List ar):Prop:=H.length≤H'.length∧∀ (j:Nat) (c:List I),N≤j→H[j]?=some (.cells c)→H'[j]?=some (.cells c)
theorem Ht.refl (N:Nat) (H:List ar):Ht N H H:=⟨sd _,fun _ _ _ h=>h⟩
theorem Ht.trans {N:Nat} {H H1 H2:List ar} (h:Ht N H H1) (k:Ht N H1 H2):Ht N H H2:=⟨Nat.le_trans h.1 k.1,fun j c aw ak=>k.2 j c aw (h.2 j c aw ak)⟩
structure Q_ (l N:Nat) (Inv:Nat→List ar→Prop):Prop where
 len:∀ i H,Inv i H→l<N∧N≤H.length
 more:∀ i H Z,Inv i H→Inv i (H++Z)
 set:∀ i H j c dU,Inv i H→N≤j→H[j]?=some (.cells c)→Inv i (H.set j (.cells dU))
def T9 (P:Program) (k:FuncId) (cap:List I) (E:List I):Prop :=
 ∀ (l N:Nat) (Inv:Nat→List ar→Prop),Q_ l N Inv →
   (∀ (i:Nat) (h:i<E.length) (H:List ar),Inv i H→∃ H',Inv (i+1) H'∧Ht N H H'∧Sem P (.yield l) [E[i]] H 0 (.bool true) H') →
   ∀ H,Inv 0 H→∃ H',Inv E.length H'∧Sem P (.fn k) (.yield l::cap) H 0 (.tuple []) H'
structure Io (L:Nat) (b:I) (p:Nat) (U:List Int) (H:List ar):Prop where
 y:H[p]?=some (.cells [.yield L])
 u:H[p+1]?=some (.cells (U.map h0))
 g:H[p+2]?=some (.cells [I9 b p])
theorem Io.set {L p:Nat} {b:I} {U:List Int} {H:List ar} (h:Io L b p U H) (N9:List Int):Io L b p N9 (H.set (p+1) (.cells (N9.map h0))) :=
 ⟨by rw [se (by omega)];exact h.y,sk (sa.1 h.u).1,by rw [se (by omega)];exact h.g⟩
theorem Io.cE {L p N:Nat} {b:I} {U:List Int} {H H':List ar} (h:Io L b p U H) (aB:N≤p) (k:Ht N H H'):Io L b p U H':=⟨k.2 _ _ aB h.y,k.2 _ _ (by omega) h.u,k.2 _ _ (by omega) h.g⟩
theorem ahG {MF MG:I} {Q:cQ→List I→List ar→Prop} {begun:List Int} {i n:Nat} {H:List ar} {L p:Nat} {b:I} {U:List Int} (l_:Io L b p U H) (HA:U.length=7) (hi:i<7) (af:begun.length≤7)
  (dW:∃ H',Io L b p U H'∧Sem Tryz.prog (.fn 71) [.av ((begun++[(i:Int)]).map h0) (begun++[(i:Int)]).length (.uniq 1),b,.ptr p 0,.ptr (p+1) 0,.ptr (p+2) 0] H 0 (.bool true) H' ∧
   Q .normal (qe 52 [(0,Hk begun),(3,.ptr (p+1) 0),(4,.ptr (p+2) 0),(26,h0 n),(27,h0 i),(28,MF),(33,MG),(50,.bool false)]) (H'.set (p+1) (.cells ((U.set i 0).map h0)))) :
  dQ Tryz.prog Lf 71 0 none MA (qe 52 [(0,Hk begun),(3,.ptr (p+1) 0),(4,.ptr (p+2) 0),(7,h0 i),(26,h0 n),(27,h0 i),(28,MF),(33,MG)]) H Q:=by
 obtain ⟨H',ac0,cp,bp⟩:=dW;have fin:∀ dH,dH=qe 52 [(0,Hk begun),(3,.ptr (p+1) 0),(4,.ptr (p+2) 0),(7,h0 i),(8,.bool true),(26,h0 n),(27,h0 i),(28,MF),(33,MG)]→dQ Tryz.prog Lf 71 0 none OM dH H' Q:=by
  rintro _ rfl;unfold OM;conv=>whnf
  refine ⟨by omega,?_⟩;conv=>whnf
  refine Ew ac0.u ?_;conv=>whnf
  rw [show 0+(i:Int).toNat*1=i by omega];refine Gn (by simp;omega) ?_;conv=>whnf
  rw [show (List.map h0 U).set i (I.int IntKind.i64 0)=(U.set i 0).map h0 by rw [tG]];exact bp
 unfold MA;cases begun with
 | nil =>
   (conv=>whnf);refine Ew l_.g ?_;(conv=>whnf);refine ⟨⟨by decide,by decide,by decide⟩,?_⟩;(conv=>whnf);refine ⟨rfl,by decide,?_⟩;(conv=>whnf);refine ⟨by decide,by decide,rfl,?_⟩;(conv=>whnf);refine ⟨_,_,rF cp,?_⟩;(conv=>whnf);exact fin _ rfl
 | cons a l =>
   (conv=>whnf);refine Ew l_.g ?_;(conv=>whnf);refine ⟨⟨rfl,by omega,sQ _⟩,?_⟩;(conv=>whnf);rw [tp,tn,td (by simp)];refine ⟨rfl,by decide,?_⟩;(conv=>whnf);refine ⟨by decide,by omega,by simp,?_⟩;(conv=>whnf);(have e1:List.map h0 (a::l)++[h0 (i:Int)]=((a::l)++[(i:Int)]).map h0:=by simp);(have b':(a::l).length+1=((a::l)++[(i:Int)]).length:=by simp);refine ⟨_,_,rF (by erw [e1,b'];exact cp),?_⟩;(conv=>whnf);exact fin _ rfl
def aaM (L N:Nat) (Inv:Nat→List ar→Prop) (c:Nat) (begun:List Int) (E:List (List Int)):Prop :=
 ∀ (j:Nat) (l:List Int),E[j]?=some l→∀ H:List ar,Inv (c+j) H→∃ H',Inv (c+j+1) H'∧Ht N H H'∧Sem Tryz.prog (.yield L) [Hk (begun++l)] H 0 (.bool true) H'
theorem VP {b:((List (Int×Int))×(Int×Int))×Unit} (qP:b.1.1.length≤7) (iS:0<b.1.1.length) {L N:Nat} {Inv:Nat→List ar→Prop} (kE:Q_ L N Inv) {p:Nat} (aB:N≤p) :
  ∀ (k:Nat) (begun:List Int) (Hy:hE) (U:List Int) (c:Nat),U.length=7→(∀ i,0≤U.getD i 0)→begun.length+k=b.1.1.length→(rH U b.1.1.length).length=k→((Hy=.full∧begun=[])∨Hy=.uniq 1∧begun≠[])→aaM L N Inv c begun (ri k (rH U b.1.1.length)) →
  ∀ H,Inv c H→Io L (.bS [lp b]) p U H→∃ H',Inv (c+(ri k (rH U b.1.1.length)).length) H'∧Ht N H H'∧Sem Tryz.prog (.fn 71) [.av (begun.map h0) begun.length Hy,.bS [lp b],.ptr p 0,.ptr (p+1) 0,.ptr (p+2) 0] H 0 (.bool true) H'
 | 0,begun,Hy,U,c,HA,_,al,ao,CM,ai,H,ag,l_=>by
   obtain ⟨H',acY,acZ,cp⟩:=ai 0 [] rfl H ag;(have bJ:begun≠[]:=fun e=>by subst e;simp at al;omega);have CM:Hy=.uniq 1:=by
    rcases CM with ⟨_,h⟩ | ⟨h,_⟩
    ·exact absurd h bJ
    ·exact h
   subst CM;obtain ⟨a,l,rfl⟩:=tL bJ;rw [sN] at cp;refine ⟨H',acY,acZ,?_⟩;refine rI eG PK rfl cp.1 fun Q bp=>?_;unfold Mz MB;obtain ⟨f',Hv⟩:∃ c,Kb=c:=⟨_,rfl⟩;rw [Hv];(conv=>whnf);rw [decide_eq_true (show (((a::l).length:Nat):Int)=(b.1.1.length:Int) by omega)];(conv=>whnf);refine Ew l_.y ?_;(conv=>whnf);refine ⟨_,_,rF cp,?_⟩;(conv=>whnf);exact bp _ _ _ ⟨.inr rfl,lI.refl _,rfl⟩
 | k+1,begun,Hy,U,c,HA,Ol,al,ao,CM,ai,H,ag,l_=>by
   obtain ⟨n,aI⟩:∃ n,n=b.1.1.length:=⟨_,rfl⟩;have N7:=VP (L:=L) qP iS kE aB k;rw [←aI] at qP iS al ao ai N7 ⊢
   obtain ⟨KG,LV,Lk⟩:=Ps (fun i rO H9=>i<n→Inv (c+Hi k U n i) rO∧Io L (.bS [lp b]) p U rO →
    (Inv (c+Hi k U n (i+1)) H9∧Io L (.bS [lp b]) p U H9∧Ht N rO H9) ∧
    (U.getD i 0=0→∃ H2,Io L (.bS [lp b]) p (U.set i 1) H2∧H9=H2.set (p+1) (.cells (U.map h0))∧Sem Tryz.prog (.fn 71) [.av ((begun++[(i:Int)]).map h0) (begun++[(i:Int)]).length (.uniq 1),.bS [lp b],.ptr p 0,.ptr (p+1) 0,.ptr (p+2) 0] (rO.set (p+1) (.cells ((U.set i 1).map h0))) 0 (.bool true) H2)∧(U.getD i 0≠0→H9=rO)) H (fun i rO=>by
    by_cases aP:i<n∧Inv (c+Hi k U n i) rO∧Io L (.bS [lp b]) p U rO
    ·obtain ⟨hi,aP⟩:=aP;by_cases aQ:U.getD i 0=0
     ·have hm:(i:Int)∈rH U n:=WW.2 ⟨i,hi,aQ,rfl⟩
      obtain ⟨H2,aA,aG,aT⟩:=N7 (begun++[(i:Int)]) (.uniq 1) (U.set i 1) (c+Hi k U n i) (by simpa using HA) (Yx Ol) (by simp;omega) (by rw [Ni (by omega) aQ,List.length_erase_of_mem hm];omega) (.inr ⟨rfl,by simp⟩) (fun j l aw H' b9=>by
       rw [Ni (by omega) aQ] at aw;rw [show c+Hi k U n i+j=c+(Hi k U n i+j) by omega] at b9 ⊢;obtain ⟨hF,bm,cw,e2⟩:=ai _ _ (Wz hi aQ aw) H' b9;refine ⟨hF,bm,cw,?_⟩
       rw [sy];exact e2) (rO.set (p+1) (.cells ((U.set i 1).map h0))) (kE.set _ _ _ _ _ aP.1 (by omega) aP.2.u) (aP.2.set _)
      rw [Ni (by omega) aQ] at aA;have Nd:Io L (.bS [lp b]) p (U.set i 1) H2:=(aP.2.set (U.set i 1)).cE aB aG;refine ⟨H2.set (p+1) (.cells (U.map h0)),fun _ _=>⟨⟨?_,Nd.set U,?_⟩,fun _=>⟨H2,Nd,rfl,aT⟩,fun h=>absurd aQ h⟩⟩
      ·rw [Pv,if_pos aQ,←Nat.add_assoc];exact kE.set _ _ _ _ _ aA (by omega) Nd.u
      ·refine ⟨by have:=aG.1;simp at this ⊢;omega,fun j cs aw ak=>?_⟩;by_cases e:j=p+1
       ·subst e;rw [aP.2.u] at ak;rw [←Option.some.inj ak];exact (Nd.set U).u
       ·rw [se (by omega)];exact aG.2 j cs aw (by rw [se (by omega)];exact ak)
     ·refine ⟨rO,fun _ _=>⟨⟨?_,aP.2,Ht.refl _ _⟩,fun ab=>absurd ab aQ,fun _=>rfl⟩⟩;rw [Pv,if_neg aQ];exact aP.1
    ·exact ⟨rO,fun ab h=>absurd ⟨ab,h⟩ aP⟩)
   have c1:∀ i,i≤n→Inv (c+Hi k U n i) (KG i)∧Io L (.bS [lp b]) p U (KG i)∧Ht N H (KG i):=fun i=>by
    induction i with
    | zero=>intro _;rw [LV];exact ⟨ag,l_,Ht.refl _ _⟩
    | succ i a8 =>
      intro hi;obtain ⟨aA,aG,aT⟩:=a8 (by omega);obtain ⟨⟨bm,cw,e2⟩,_,_⟩:=Lk i (by omega) ⟨aA,aG⟩;exact ⟨bm,cw,aT.trans e2⟩
   have Sa:Hi k U n n=(ri (k+1) (rH U n)).length:=rfl;refine ⟨KG n,by rw [←Sa];exact (c1 n (sd _)).1,(c1 n (sd _)).2.2,?_⟩;refine rI eG PK rfl (I0 (c1 n (sd _)).2.2.1) fun Q bp=>?_;have main:∀ T,T=qe 52 [(0,Hk begun),(1,.bS [lp b]),(2,.ptr p 0),(3,.ptr (p+1) 0),(4,.ptr (p+2) 0),(6,.bool false),(17,.bool false)]→dQ Tryz.prog Lf 71 0 none Kb T H Q:=by
    rintro _ rfl;unfold Kb S6 S5;obtain ⟨bt,eS⟩:∃ c,MA=c:=⟨_,rfl⟩;rw [eS];(conv=>whnf);rw [←aI];refine .intro (fun m T H'=>∃ i:Nat,i≤n∧m=n-i∧T=qe 52 [(0,Hk begun),(3,.ptr (p+1) 0),(4,.ptr (p+2) 0),(26,h0 n),(27,h0 i)]∧H'=KG i) n ⟨0,sE _,rfl,rfl,LV.symm⟩ ?_;rintro m T H' ⟨i,hi,rfl,rfl,rfl⟩;(conv=>whnf);refine HL (fun aR=>?_) (fun aR=>?_)
    ·(have hg:i<n:=by omega);obtain ⟨aA,aG,_⟩:=c1 i hi;obtain ⟨_,a7,a9⟩:=Lk i hg ⟨aA,aG⟩;(conv=>whnf);refine ⟨by omega,?_⟩;(conv=>whnf);refine Ew aG.u ?_;(conv=>whnf);rw [show 0+(i:Int).toNat*1=i by omega];refine Ew (x:=h0 (U.getD i 0)) (by rw [sm,sx,sj (show i<U.length by omega)];rfl) ?_;(conv=>whnf);(have rS:IntKind.i64.wrap ((i:Int)+1)=((i+1:Nat):Int):=by rw [HU _ (by omega) (by omega)];omega);refine HL (fun aQ=>?_) (fun aQ=>?_)
     ·(conv=>whnf);refine ⟨n-(i+1),by omega,i+1,by omega,rfl,by rw [rS];rfl,?_⟩;rw [a9 (by omega)]
     ·(have Oi:U.getD i 0=0:=by have:=Ol i;omega);obtain ⟨H2,Nd,adp,cp⟩:=a7 Oi;(conv=>whnf);refine ⟨by omega,?_⟩;(conv=>whnf);refine Ew aG.u ?_;(conv=>whnf);rw [show 0+(i:Int).toNat*1=i by omega];refine Gn (by simp;omega) ?_;(conv=>whnf);rw [show (List.map h0 U).set i (I.int IntKind.i64 1)=(U.set i 1).map h0 by rw [tG]];subst eS;refine ahG (aG.set (U.set i 1)) (by simpa using HA) (by omega) (by omega) ⟨H2,Nd,cp,?_⟩;(conv=>whnf);refine ⟨n-(i+1),by omega,i+1,by omega,rfl,by rw [rS];rfl,?_⟩;rw [List.set_set,Yv (by omega) Oi,adp]
    ·(obtain rfl:i=n:=by omega);(conv=>whnf);exact bp _ _ _ ⟨.inr rfl,lI.refl _,rfl⟩
   rcases CM with ⟨rfl,rfl⟩ | ⟨rfl,bJ⟩
   ·unfold Mz MB;obtain ⟨f',Hv⟩:∃ c,Kb=c:=⟨_,rfl⟩;rw [Hv];(conv=>whnf);rw [decide_eq_false (show ¬ (((([]:List Int).length:Nat):Int)=(b.1.1.length:Int)) by simp only [List.length_nil];omega)];(conv=>whnf);subst Hv;exact main _ rfl
   ·obtain ⟨a,l,rfl⟩:=tL bJ;unfold Mz MB;obtain ⟨f',Hv⟩:∃ c,Kb=c:=⟨_,rfl⟩;rw [Hv];(conv=>whnf);rw [decide_eq_false (show ¬ ((((a::l).length:Nat):Int)=(b.1.1.length:Int)) by omega)];(conv=>whnf);subst Hv;exact main _ rfl
theorem ahp {b:((List (Int×Int))×(Int×Int))×Unit} (qP:b.1.1.length≤7) (iS:0<b.1.1.length):T9 Tryz.prog 70 [.bS [lp b]] ((ri b.1.1.length (ql b.1.1.length)).map Hk):=by
 intro L N Inv kE ai H ag;have jT:=Wx qP;obtain ⟨H1,bW⟩:∃ H1,H1=((H++[.cells [.yield L]])++[.cells [h0 0,h0 0,h0 0,h0 0,h0 0,h0 0,h0 0]])++[.cells [I9 (.bS [lp b]) H.length]]:=⟨_,rfl⟩;have l1:(H++[ar.cells [I.yield L]]).length=H.length+1:=by simp
 have l2:((H++[ar.cells [I.yield L]])++[ar.cells [I.int IntKind.i64 0,I.int IntKind.i64 0,I.int IntKind.i64 0,I.int IntKind.i64 0,I.int IntKind.i64 0,I.int IntKind.i64 0,I.int IntKind.i64 0]]).length=H.length+2:=by simp
 have l_:Io L (.bS [lp b]) H.length [0,0,0,0,0,0,0] H1:=by
  subst bW;refine ⟨?_,?_,?_⟩
  ·rw [sy,si (by rw [l1];omega)];exact I_ _ _
  ·rw [si (by rw [l2];omega),←l1];exact I_ _ _
  ·rw [←l2];exact I_ _ _
 obtain ⟨H',aA,aG,aT⟩:=VP (b:=b) (L:=L) qP iS kE (kE.len _ _ ag).2 b.1.1.length [] .full [0,0,0,0,0,0,0] 0 rfl (fun i=>by
  rw [sx]
  match i with
  | 0 | 1 | 2 | 3 | 4 | 5 | 6 | i+7=>simp) (by simp) (by rw [jT];simp [ql]) (.inl ⟨rfl,rfl⟩) (fun j l aw H' b9=>by
    rw [jT] at aw;obtain ⟨ab,ae⟩:=sa.1 aw;rw [sC] at b9 ⊢;obtain ⟨H2,bm,cw,e2⟩:=ai j (by simpa using ab) H' b9;rw [tK,ae] at e2
    exact ⟨H2,bm,cw,e2⟩) H1 (by rw [bW,sy,sy];exact kE.more _ _ _ ag) l_
 rw [jT,sC] at aA;refine ⟨H',by rw [sX];exact aA,?_⟩;refine rI eG WJ rfl (I0 (by have:=aG.1;rw [bW] at this;simp at this;omega)) fun Q bp=>?_;rw [bW] at aT;unfold S3 S4;conv=>whnf
 refine Ew (x:=.cells [.a0]) (by simp) ?_;conv=>whnf
 rw [rZ];refine Ew (x:=.cells [I9 (.bS [lp b]) H.length]) (by rw [List.getElem?_append_right (sd _),l1,l2,Nat.sub_self];rfl) ?_;conv=>whnf
 refine ⟨_,_,rF (by rw [l1,l2];exact aT),?_⟩;conv=>whnf
 exact bp _ _ _ ⟨.inl rfl,lI.refl _,rfl⟩
theorem ahj {α:Type} {P:Program} {A:dw} {fn:FuncId} {rl:Option Nat} {k:FuncId} {cap:List I} {t:Nat} {bq:List Nat} {gH ct:Code} {T:List I} {H:List ar} {Q:cQ→List I→List ar→Prop} {f:α→I} {L:List α} (IH:T9 P k cap (L.map f))
  (ax:df T t=.func k [] cap) {Inv:Nat→List ar→Prop} (kE:Q_ H.length (H.length+1) Inv) (aQ:Inv 0 (H++[.loop .ready none fn (T.map I.view) bq gH ct A]))
  (Mo:∀ (i:Nat) (h:i<L.length) (H1:List ar),Inv i H1→∃ H',Inv (i+1) H'∧Ht (H.length+1) H1 H'∧Sem P (.yield H.length) [f L[i]] H1 0 (.bool true) H')
  (hg:inLoop H rl=true) (adA:∀ H',Inv L.length H'→H'[H.length]?=some (.loop .ready none fn (T.map I.view) bq gH ct A)) (bp:∀ H',Inv L.length H'→Q .normal (T.map I.settle) (H'.set H.length .dead)):dQ P A fn 0 rl (.AM (.nc t) bq gH ct) T H Q:=by
 show hI T t _;rw [iQ,ax]
 obtain ⟨H',b9,cp⟩:=IH H.length (H.length+1) Inv kE (fun i h H1 bW=>by
  have aX:i<L.length:=by simpa using h
  obtain ⟨H2,bm,cw,e2⟩:=Mo i aX H1 bW
  exact ⟨H2,bm,cw,by rw [tK];exact e2⟩) _ aQ
 rw [sX] at b9;refine ⟨hg,.tuple [],H',.ready,none,fn,T.map I.view,bq,gH,ct,A,cp,adA _ b9,by decide,bp _ b9⟩
end Go.Proofs.YtkoioidpbbbaiaaGreat.Ab


namespace Go.Proofs.YtkoioidpbbbaiaaGreat.Ab
open Go
noncomputable def Ye:gE :=
 .ov false [p1 7 27]
noncomputable def OQ:gE :=
 p2 [p1 58 11,p1 59 58,cl 60 [.jq 13] 59 true .mU,p0 61 [.Bs 59,.Bs 60,.cv (.bool false)] .pick] (.cond (.nc 61) (qV [p1 62 9,p0 63 [.nc 6,.Bs 62] (.zu 7 1),⟨none,[.jq 63,.cv (.int .i64 1)],none,none,.st 1⟩]) .skip)
noncomputable def OS:gE :=
 p2 [p0 49 [.nc 4] (.zE .one),p3 50 7,p3 51 8,qE 52 51 2 .rem,p1 53 8,p0 54 [.Bs 53] (.yB 1 1 [.int .i64 0] [0]),p0 55 [.cv (.func 60 [] []),.jq 49,.jq 50,.jq 52,.jq 54] (.call 1),p1 48 55,qI 56 48 0,p0 57 [.Bs 48] (.ext 1),p1 12 56,p1 13 57] OQ
noncomputable def Qd:gE :=
 p2 [p0 40 [.nc 4] (.zE .one),p3 41 7,p3 42 8,qE 43 42 2 .rem,p0 44 [.cv (.int .i64 1),.Bs 43] (.bin .sub),p0 45 [.cv (.func 60 [] []),.jq 40,.jq 41,.jq 44,.cv (.av [] 0 .full)] (.call 1),p1 39 45,qI 46 39 0,p0 47 [.Bs 39] (.ext 1),p1 10 46,p1 11 47] OS
noncomputable def Yj:gE :=
 .seq (p2 [p3 35 9,p0 36 [.nc 6,.Bs 35] (.zu 7 1),qi 37 36,qE 38 37 0 .gtr] (.cond (.nc 38) (.exit 3) .skip)) Qd
noncomputable def Th:gE :=
 .block 3 (p2 [p3 32 30,p0 33 [.nc 28,.nc 30] (.kY 1),qi 34 33,p1 8 32,p1 9 34] Yj)
noncomputable def Yi:gE :=
 .block 1 (p2 [p3 28 7,p0 29 [.nc 28] .zJ,qh 30 0] (.block 2 (.loop (some (qc false [4,1,1,2,20,3,55])) (p2 [p0 31 [.nc 30,.nc 29] (.bin .lss)] (.seq (.cond (.nc 31) .skip (.exit 2)) (.seq Th (qV [q2 64 30 1,p1 30 64])))))))
theorem aey:ey Go.Proofs.Tryz.prog Kq (rB Go.Proofs.Tryz.prog 24 0) 0=some Ye:=by kernel_rfl
theorem aeC:ey Go.Proofs.Tryz.prog Kq (rC Go.Proofs.Tryz.prog 24 0) 0=some Yi:=by kernel_rfl
end Go.Proofs.YtkoioidpbbbaiaaGreat.Ab


namespace Go.Proofs.YtkoioidpbbbaiaaGreat.Ab
open Go
set_option maxRecDepth 20000
set_option maxHeartbeats 4000000
def Ks (b:Hf) (o:List Int) (F:List Int) (i:Int):Option (List Int) :=
 qk (0≤ix o i∧ix o i<7) <|
 if 0<ix F (ix o i) then some F else
 (IC b o (w (1-i.tmod 2)) []).bind fun x=>(IC b o (i.tmod 2) [i]).bind fun y =>
 some (if (x.2 && y.2)=true then F.set (ix o i).toNat 1 else F)
theorem H3.r7 {b:Hf} {m j:Nat} {H:List ar} {o cz:ar} (h:H3 b m H) (aw:H[j]?=some o) (hm:∀ es c,o≠.map es c):H3 b m (H.set j cz):=by
 obtain ⟨es,I7,ab,ae⟩:=h;have adC:j≠m:=fun e=>by subst e;rw [ab] at aw;exact hm _ _ (Option.some.inj aw).symm
 refine ⟨es,I7,by rw [se adC];exact ab,fun e he=>?_⟩;obtain ⟨x,id,c,A,aA,aG,aT,br,bg⟩:=ae e he;have h_:j≠id:=fun e=>by subst e;rw [br] at aw;exact hm _ _ (Option.some.inj aw).symm
 exact ⟨x,id,c,A,aA,aG,aT,by rw [se h_];exact br,bg⟩
structure Good (b:Hf) (rW:ar) (F:List Int) (H:List ar):Prop where
 f:H3 b 0 H
 p:H[1]?=some (.cells [rY b 0])
 m:H[2]?=some (.cells (F.map h0))
 l:H[3]?=some rW
 n:F.length=7
theorem Good.ext {b:Hf} {rW:ar} {F:List Int} {H H':List ar} (h:Good b rW F H) (aP:H3 b 0 H') (he:Im 0 H H'):Good b rW F H':=by
 have aF:=(sa.1 h.l).1;exact ⟨aP,by rw [he.2 1 (by omega) (by omega)];exact h.p,by rw [he.2 2 (by omega) (by omega)];exact h.m,by rw [he.2 3 (by omega) aF];exact h.l,h.n⟩
theorem Good.mark {b:Hf} {rW:ar} {F Jy:List Int} {H:List ar} (h:Good b rW F H) (aI:Jy.length=7):Good b rW Jy (H.set 2 (.cells (Jy.map h0))) :=
 ⟨h.f.r7 h.m (fun _ _ e=>by cases e),by rw [se (by omega)];exact h.p,sk (sa.1 h.m).1,by rw [se (by omega)];exact h.l,aI⟩
theorem Im.cE {H H':List ar} (h:Im 0 H H'):Ht 4 H H':=⟨h.1,fun j c aw ak=>by rw [h.2 j (by omega) (sa.1 ak).1];exact ak⟩
theorem ad0 {b:Hf} {o F Jy:List Int} {i:Int} (h:Ks b o F i=some Jy) {rW:ar} {H:List ar} (rP:Good b rW F H) :
  ∃ H',Good b rW Jy H'∧Ht 4 H H'∧(0≤ix o i∧ix o i<7)∧(0<ix F (ix o i)→H'=H) ∧
    (¬ 0<ix F (ix o i)→∃ x y H1 H2,(x.2 && y.2)=true∧Jy=F.set (ix o i).toNat 1∧H'=H2.set 2 (.cells (Jy.map h0))∧Good b rW F H2∧Good b rW F H1 ∧
      Sem Tryz.prog (.fn 60) [rY b 0,.av (o.map h0) o.length .shared,h0 (w (1-i.tmod 2)),.av [] 0 .full] H 0 (.tuple [.av [] 0 .shared,B x.2]) H1 ∧
      Sem Tryz.prog (.fn 60) [rY b 0,.av (o.map h0) o.length .shared,h0 (i.tmod 2),.av [h0 i] 1 (.uniq 1)] H1 0 (.tuple [.av ((y:List qy×Bool).1.flatMap qw) y.1.length .shared,B y.2]) H2 ∨
     (x.2 && y.2)=false∧Jy=F∧H'=H2∧Good b rW F H2∧Good b rW F H1 ∧
      Sem Tryz.prog (.fn 60) [rY b 0,.av (o.map h0) o.length .shared,h0 (w (1-i.tmod 2)),.av [] 0 .full] H 0 (.tuple [.av [] 0 .shared,B (x:List qy×Bool).2]) H1 ∧
      Sem Tryz.prog (.fn 60) [rY b 0,.av (o.map h0) o.length .shared,h0 (i.tmod 2),.av [h0 i] 1 (.uniq 1)] H1 0 (.tuple [.av (y.1.flatMap qw) y.1.length .shared,B y.2]) H2):=by
 unfold Ks at h;obtain ⟨ah,h⟩:=q_ h;by_cases aB:0<ix F (ix o i)
 ·rw [if_pos aB] at h;obtain rfl:=Option.some.inj h;exact ⟨H,rP,Ht.refl _ _,ah,fun _=>rfl,fun aI=>absurd aB aI⟩
 ·rw [if_neg aB] at h;obtain ⟨x,aj,h⟩:=p9 h;obtain ⟨y,aY,h⟩:=p9 h;obtain rfl:=Option.some.inj h;obtain ⟨xf,W6,s1⟩:=ZK aj (m:=0) (lo:=0) (H:=H) (sE _);have e1:Im 0 H (H++[W6]):=⟨by simp,fun j _ aw=>by rw [si aw]⟩;have cf:Good b rW F (H++[W6]):=rP.ext (rP.f.more _) e1;obtain ⟨H2,f2,b',s2⟩:=ZL aY (lo:=0) (sd 0) cf.f;have ca:Good b rW F H2:=cf.ext f2 b';cases af:(x.2 && y.2) with
  | true =>
    rw [if_pos rfl];refine ⟨H2.set 2 (.cells ((F.set (ix o i).toNat 1).map h0)),ca.mark (by rw [List.length_set];exact ca.n),?_,ah,fun h=>absurd h aB,fun _=>⟨x,y,_,H2,.inl ⟨af,rfl,rfl,ca,cf,s1,s2⟩⟩⟩;have k:=(e1.cE).trans b'.cE;refine ⟨by have:=k.1;simpa using this,fun j c aw ak=>by rw [se (by omega)];exact k.2 j c aw ak⟩
  | false =>
    rw [if_neg (by decide)];exact ⟨H2,ca,(e1.cE).trans b'.cE,ah,fun h=>absurd h aB,fun _=>⟨x,y,_,H2,.inr ⟨af,rfl,rfl,ca,cf,s1,s2⟩⟩⟩
theorem ab_ {F:List Int} {k:Int} (al:0≤k∧k<7) (bG:F.length=7):(F.map h0)[0+k.toNat*1]?=some (h0 (ix F k)):=by
 have h:k.toNat<F.length:=by omega
 rw [sC,tn,sm,sj h];simp [ix,sx,sj h]
theorem ahh {b:Hf} {o F Jy:List Int} (aq:o≠[]) (fL:o.length≤1000) (h:IE (Ks b o) (ql o.length) F=some Jy) {gv Gi r2 Jv NQ:I} {H:List ar} (rP:Good b (.loop .ready none 24 (qe 86 [(2,gv),(3,Gi),(4,.ptr 1 0),(5,r2),(6,.ptr 2 0),(23,Jv),(26,NQ)]) [27] (rB Tryz.prog 24 0) (rC Tryz.prog 24 0) Kq) F H) :
  ∃ H',Good b (.loop .ready none 24 (qe 86 [(2,gv),(3,Gi),(4,.ptr 1 0),(5,r2),(6,.ptr 2 0),(23,Jv),(26,NQ)]) [27] (rB Tryz.prog 24 0) (rC Tryz.prog 24 0) Kq) Jy H'∧Ht 4 H H'∧Sem Tryz.prog (.yield 3) [Hk o] H 0 (.bool true) H':=by
 obtain ⟨Hx,Oj,LU,RN⟩:=Pz h;rw [ME] at LU;obtain ⟨n,aI⟩:∃ n,n=o.length:=⟨_,rfl⟩;rw [←aI] at LU fL;obtain ⟨II,V1⟩:∃ II:ar,II=(.loop .busy none 24 (qe 86 [(2,gv),(3,Gi),(4,.ptr 1 0),(5,r2),(6,.ptr 2 0),(23,Jv),(26,NQ)]) [27] (rB Tryz.prog 24 0) (rC Tryz.prog 24 0) Kq):=⟨_,rfl⟩;obtain ⟨PL,Sf⟩:∃ PL:ar,PL=(.loop .ready none 24 (qe 86 [(2,gv),(3,Gi),(4,.ptr 1 0),(5,r2),(6,.ptr 2 0),(23,Jv),(26,NQ)]) [27] (rB Tryz.prog 24 0) (rC Tryz.prog 24 0) Kq):=⟨_,rfl⟩;rw [←Sf] at rP ⊢;have Dl:∀ es c,PL≠.map es c:=fun _ _ e=>by rw [Sf] at e;cases e
 have kM:∀ es c,II≠.map es c:=fun _ _ e=>by rw [V1] at e;cases e
 have acX:Good b II F (H.set 3 II):=⟨rP.f.r7 rP.l Dl,by rw [se (by omega)];exact rP.p,by rw [se (by omega)];exact rP.m,sk (sa.1 rP.l).1,rP.n⟩;have acW:∀ i (hi:i<n),Ks b o (Hx i) (i:Int)=some (Hx (i+1)):=fun i hi=>by
  have:=RN i (by rw [ME];omega);simpa [ql] using this
 classical
 obtain ⟨Hs,gL,Nc⟩:=Ps (fun i rO H9=>i<n→Good b II (Hx i) rO→Good b II (Hx (i+1)) H9∧Ht 4 rO H9∧(0≤ix o i∧ix o i<7)∧(0<ix (Hx i) (ix o i)→H9=rO) ∧
   (¬ 0<ix (Hx i) (ix o i)→∃ x y H1 H2,(x.2 && y.2)=true∧Hx (i+1)=(Hx i).set (ix o i).toNat 1∧H9=H2.set 2 (.cells ((Hx (i+1)).map h0))∧Good b II (Hx i) H2∧Good b II (Hx i) H1 ∧
     Sem Tryz.prog (.fn 60) [rY b 0,.av (o.map h0) o.length .shared,h0 (w (1-(i:Int).tmod 2)),.av [] 0 .full] rO 0 (.tuple [.av [] 0 .shared,B x.2]) H1 ∧
     Sem Tryz.prog (.fn 60) [rY b 0,.av (o.map h0) o.length .shared,h0 ((i:Int).tmod 2),.av [h0 (i:Int)] 1 (.uniq 1)] H1 0 (.tuple [.av ((y:List qy×Bool).1.flatMap qw) y.1.length .shared,B y.2]) H2 ∨
    (x.2 && y.2)=false∧Hx (i+1)=Hx i∧H9=H2∧Good b II (Hx i) H2∧Good b II (Hx i) H1 ∧
     Sem Tryz.prog (.fn 60) [rY b 0,.av (o.map h0) o.length .shared,h0 (w (1-(i:Int).tmod 2)),.av [] 0 .full] rO 0 (.tuple [.av [] 0 .shared,B (x:List qy×Bool).2]) H1 ∧
     Sem Tryz.prog (.fn 60) [rY b 0,.av (o.map h0) o.length .shared,h0 ((i:Int).tmod 2),.av [h0 (i:Int)] 1 (.uniq 1)] H1 0 (.tuple [.av (y.1.flatMap qw) y.1.length .shared,B y.2]) H2)) (H.set 3 II) (fun i rO=>by
  by_cases aO:i<n∧Good b II (Hx i) rO
  ·obtain ⟨H',aA⟩:=ad0 (acW i aO.1) aO.2;exact ⟨H',fun _ _=>aA⟩
  ·exact ⟨rO,fun ab ae=>absurd ⟨ab,ae⟩ aO⟩)
 have c1:∀ i,i≤n→Good b II (Hx i) (Hs i)∧Ht 4 (H.set 3 II) (Hs i):=fun i=>by
  induction i with
  | zero=>intro _;rw [gL,Oj];exact ⟨acX,Ht.refl _ _⟩
  | succ i a8 =>
    intro hi;obtain ⟨aA,aG⟩:=a8 (by omega);obtain ⟨bm,cw,_⟩:=Nc i (by omega) aA;exact ⟨bm,aG.trans cw⟩
 obtain ⟨Lj,Wa⟩:=c1 n (sd _);rw [LU] at Lj;have hlen:H.length≤(Hs n).length:=by have:=Wa.1;simpa using this
 refine ⟨(Hs n).set 3 PL,⟨Lj.f.r7 Lj.l kM,by rw [se (by omega)];exact Lj.p,by rw [se (by omega)];exact Lj.m,sk (sa.1 Lj.l).1,Lj.n⟩,⟨by simpa using hlen,fun j c aw ak=>by rw [se (by omega)];exact Wa.2 j c aw (by rw [se (by omega)];exact ak)⟩,?_⟩;subst Sf;refine Qi eG aey aeC rP.l rfl (I0 (by simpa using hlen)) ?_;obtain ⟨gb,e,mx⟩:=tL aq;have adf:Hk o=.av (o.map h0) o.length (.own 1):=by rw [mx];rfl
 rw [adf];unfold Ye;conv=>whnf
 refine ⟨rfl,rP.l,?_⟩;rw [←V1];unfold Yi;obtain ⟨dV,Cr⟩:∃ c,Th=c:=⟨_,rfl⟩;rw [Cr];conv=>whnf
 rw [←aI];refine .intro (fun m T H'=>∃ i:Nat,i≤n∧m=n-i∧T=qe 86 [(4,.ptr 1 0),(6,.ptr 2 0),(7,.av (o.map h0) n (.own 1)),(28,.av (o.map h0) n .shared),(29,h0 n),(30,h0 i)]∧H'=Hs i) n ⟨0,sE _,rfl,rfl,gL.symm⟩ ?_;rintro m T H' ⟨i,hi,rfl,rfl,rfl⟩;conv=>whnf
 refine HL (fun aR=>?_) (fun aR=>?_)
 ·have hg:i<n:=by omega
  have IG:0≤(i:Int)∧(i:Int)<(o.length:Int):=by omega
  have a:=c1 i hi;obtain ⟨_,_,ah,a7,a9⟩:=Nc i hg a.1;have rS:IntKind.i64.wrap ((i:Int)+1)=((i+1:Nat):Int):=by rw [HU _ (by omega) (by omega)];omega
  subst Cr;unfold Th Yj;obtain ⟨bt,eS⟩:∃ c,Qd=c:=⟨_,rfl⟩;rw [eS];conv=>whnf
  refine ⟨by omega,?_⟩;rw [rG h0 o (i:Int) IG];conv=>whnf
  refine ⟨ah,?_⟩;conv=>whnf
  refine Ew a.1.m ?_;conv=>whnf
  refine Ew (x:=h0 (ix (Hx i) (ix o i))) (ab_ ah a.1.n) ?_;conv=>whnf
  refine HL (fun aB=>?_) (fun aB=>?_)
  ·(conv=>whnf);refine ⟨n-(i+1),by omega,i+1,by omega,rfl,by rw [rS];rfl,?_⟩;rw [a7 aB]
  ·obtain ⟨x,y,H1,H2,a1⟩:=a9 aB;subst eS;rcases a1 with ⟨af,PC,b9,ca,cf,s1,s2⟩ | ⟨af,PC,b9,ca,cf,s1,s2⟩
   ·unfold Qd;obtain ⟨abR,Og⟩:∃ c,OS=c:=⟨_,rfl⟩;rw [Og];(conv=>whnf);refine Ew a.1.p ?_;(conv=>whnf);refine ⟨by decide,?_⟩;(conv=>whnf);rw [←aI] at s1 s2;refine ⟨_,_,rF s1,?_⟩;(conv=>whnf);subst Og;unfold OS;obtain ⟨B8,Of⟩:∃ c,OQ=c:=⟨_,rfl⟩;rw [Of];(conv=>whnf);refine Ew cf.p ?_;(conv=>whnf);refine ⟨by decide,?_⟩;(conv=>whnf);refine ⟨_,_,rF s2,?_⟩;(conv=>whnf);subst Of;unfold OQ;cases aj:x.2 <;> cases aY:y.2 <;> rw [aj,aY] at af
    ·cases af
    ·cases af
    ·cases af
    ·(conv=>whnf);refine ⟨ah,?_⟩;(conv=>whnf);refine Ew ca.m ?_;(conv=>whnf);refine Gn (by rw [sX,ca.n];omega) ?_;(conv=>whnf);refine ⟨n-(i+1),by omega,i+1,by omega,rfl,by rw [rS];rfl,?_⟩;rw [b9,PC,tG,sC,tn]
   ·unfold Qd;obtain ⟨abR,Og⟩:∃ c,OS=c:=⟨_,rfl⟩;rw [Og];(conv=>whnf);refine Ew a.1.p ?_;(conv=>whnf);refine ⟨by decide,?_⟩;(conv=>whnf);rw [←aI] at s1 s2;refine ⟨_,_,rF s1,?_⟩;(conv=>whnf);subst Og;unfold OS;obtain ⟨B8,Of⟩:∃ c,OQ=c:=⟨_,rfl⟩;rw [Of];(conv=>whnf);refine Ew cf.p ?_;(conv=>whnf);refine ⟨by decide,?_⟩;(conv=>whnf);refine ⟨_,_,rF s2,?_⟩;(conv=>whnf);subst Of;unfold OQ;cases aj:x.2 <;> cases aY:y.2 <;> rw [aj,aY] at af
    ·(conv=>whnf);refine ⟨n-(i+1),by omega,i+1,by omega,rfl,by rw [rS];rfl,?_⟩;rw [b9]
    ·(conv=>whnf);refine ⟨n-(i+1),by omega,i+1,by omega,rfl,by rw [rS];rfl,?_⟩;rw [b9]
    ·(conv=>whnf);refine ⟨n-(i+1),by omega,i+1,by omega,rfl,by rw [rS];rfl,?_⟩;rw [b9]
    ·cases af
 ·obtain rfl:i=n:=by omega
  conv=>whnf
  exact ⟨rfl,Lj.l,lI.refl _⟩
end Go.Proofs.YtkoioidpbbbaiaaGreat.Ab


namespace Go.Proofs.YtkoioidpbbbaiaaGreat.Ab
open Go
noncomputable def SM:gE :=
 .ov false [p3 75 14,p3 76 14,q3 77 76,p1 78 14,q3 79 78,p0 80 [.jq 75,.jq 77,.jq 79] (.Bh 1 false true true),p1 81 15,p0 82 [.Bs 81] (.yB 1 1 [.int .i64 0] [0]),p0 83 [.jq 80,.jq 82] (.app 1 8),p1 14 83]
noncomputable def SN:gE :=
 .block 5 (p2 [p3 71 69, p0 72 [.nc 68, .nc 69] (.other (Oper.mk (some 72) (Op.index 91 (Operand.tmp 68) (Operand.tmp 69)) 3 "curl.go:170" (Array.mk []) none) 0), p1 15 71, p1 16 72] (p2 [p1 73 16, qE 74 73 0 .gtr] (.cond (.nc 74) SM .skip)))
noncomputable def SP:gE :=
 .seq (p2 [p0 68 [.Bs 6] (.zE (.arr 7)),qh 69 0] (.block 4 (.loop (some (qc false [14,1,53,2,16])) (p2 [p0 70 [.nc 69,.cv (.int .i64 7)] (.bin .lss)] (.seq (.cond (.nc 70) .skip (.exit 4)) (.seq SN (qV [q2 84 69 1,p1 69 84]))))))) (p2 [p1 85 14,p1 2 85,qh 3 0] .ret)
noncomputable def OJ:gE :=
 .seq (p2 [p0 65 [.nc 6] (.zE (.arr 7)), p0 66 [] (.build [.int .i64 0, .int .i64 0, .int .i64 0, .int .i64 0, .int .i64 0, .int .i64 0, .int .i64 0] []), p0 67 [.Bs 65, .Bs 66] (.other (Oper.mk (some 67) (Op.binOp .eql 91 (Operand.tmp 65) (Operand.tmp 66) 91) 4 "curl.go:166" (Array.mk [Edge.mk 0 Ground.data, Edge.mk 1 Ground.data]) none) 0)] (.cond (.nc 67) (p2 [p0 2 [.cv (.av [] 0 .full)] (.nil 1), qh 3 0] .ret) .skip)) (p2 [p0 14 [.cv (.av [] 0 .full)] (.nil 1)] SP)
noncomputable def PZ:gE :=
 .seq (p2 [p3 22 5,qE 23 22 0 .neq] (.cond (.nc 23) (p2 [p1 24 5,p0 2 [.cv (.av [] 0 .full)] (.nil 1),p1 3 24] .ret) .skip)) (p2 [p0 6 [] (.alloc [.int .i64 0,.int .i64 0,.int .i64 0,.int .i64 0,.int .i64 0,.int .i64 0,.int .i64 0])] (.seq (p2 [p0 25 [.nc 4] (.zE .one),p0 26 [.cv (.func 43 [] []),.jq 25] (.call 9)] (.block 0 (.AM (.nc 26) [27] (rB Go.Proofs.Tryz.prog 24 0) (rC Go.Proofs.Tryz.prog 24 0)))) OJ))
noncomputable def XN:gE :=
 p2 [p0 18 [.Bs 1] (.zE (.str 3)),p0 19 [.cv (.func 40 [] []),.jq 18,.cv (.av [] 0 .full)] (.call 8),p1 17 19,qI 20 17 0,p0 21 [.Bs 17] (.ext 1),p0 4 [] (.alloc [.eI]),⟨none,[.nc 4,.jq 20],none,none,.st 1⟩,p1 5 21] PZ
noncomputable def XM:gE :=
 p2 [p0 1 [.jq 0] .yy,p0 2 [.cv (.av [] 0 .full)] (.nil 1),qh 3 0] XN
theorem aek:qt Go.Proofs.Tryz.prog Kq 24=some (XM,86,[.tmp 2,.tmp 3]):=by kernel_rfl
end Go.Proofs.YtkoioidpbbbaiaaGreat.Ab


namespace Go.Proofs.YtkoioidpbbbaiaaGreat.Ab
open Go
set_option maxRecDepth 20000
set_option maxHeartbeats 4000000
theorem Ys {P:Program} {k:FuncId} {args:List I} {H H':List ar} {lo:Nat} {r:I} (h:Sem P (.fn k) (args.map I.cc) H lo r H'):Sem P (.fn k) args H lo r H':=by
 obtain ⟨aQ,ab,ae⟩:=h;exact ⟨aQ,ab,fun B aa J S w vs ag aI ad=>ae B aa J S w vs ag aI ad.cc⟩
abbrev M4 (p:qf):List I:=[(.agg [(.av (p.1.flatMap p7) p.1.length .shared),(h0 p.2.1),(h0 p.2.2)]),(.av [] 0 .full)]
section
variable {p:qf}
theorem abX {e:Int} {lo:Nat} (h:rV p []=some (none,e)):oV Tryz.prog 8 lo (.fn 40) (M4 p) [] (.tuple [.eI,h0 e]) [] :=
 ⟨_,EB (r:=.tuple [.eI,h0 e]) (H':=[rQ p]) (Ys (args:=M4 p) (by exact Zv h)),by
  show (k9 _ _ _ _ _ _ (.fn 40) (M4 p) [] 0).bind _=_
  rw [EA];rfl⟩
theorem abZ {t:qf×Unit} {e:Int} {lo:Nat} (h:rV p []=some (some t,e)):oV Tryz.prog 8 lo (.fn 40) (M4 p) [] (.tuple [.bS [(.av (p.1.flatMap p7) p.1.length .shared),(h0 p.2.1),(h0 p.2.2),.map 0],h0 0]) [.map [] 0] :=
 ⟨_,EB (r:=.tuple [.ptr 2 0,h0 0]) (H':=[rQ p,.map [] 0,.cells [(.av (p.1.flatMap p7) p.1.length .shared),(h0 p.2.1),(h0 p.2.2),.map 1]]) (Ys (args:=M4 p) (by exact (O4 h).2.2)),by
  show (k9 _ _ _ _ _ _ (.fn 40) (M4 p) [] 0).bind _=_;rw [EA];have e1:ea (bM [rQ p,.map [] 0,.cells [(.av (p.1.flatMap p7) p.1.length .shared),(h0 p.2.1),(h0 p.2.2),.map 1]] 0 1 0 6) [(.av (p.1.flatMap p7) p.1.length .shared),(h0 p.2.1),(h0 p.2.2),.map 1]=some [(.av (p.1.flatMap p7) p.1.length .shared),(h0 p.2.1),(h0 p.2.2),.map 0] :=
   rM (yW (HD (fun _=>p5 rfl (p5 rfl rfl)) _ _ _)) (rM (yW rfl) (rM (yW rfl) (rM rfl I2)))
  have b':bM [rQ p,.map [] 0,.cells [(.av (p.1.flatMap p7) p.1.length .shared),(h0 p.2.1),(h0 p.2.2),.map 1]] 0 1 0 8 (.tuple [.ptr 2 0,h0 0])=some (.tuple [.bS [(.av (p.1.flatMap p7) p.1.length .shared),(h0 p.2.1),(h0 p.2.2),.map 0],h0 0]) :=
   Oe (rM (show (ea (bM [rQ p,.map [] 0,.cells [(.av (p.1.flatMap p7) p.1.length .shared),(h0 p.2.1),(h0 p.2.2),.map 1]] 0 1 0 6) [(.av (p.1.flatMap p7) p.1.length .shared),(h0 p.2.1),(h0 p.2.2),.map 1]).map I.bS=_ by rw [e1];rfl) (rM rfl I2))
  show (match mapM (bM [rQ p,.map [] 0,.cells [(.av (p.1.flatMap p7) p.1.length .shared),(h0 p.2.1),(h0 p.2.2),.map 1]] 0 1 0 8) [],bM [rQ p,.map [] 0,.cells [(.av (p.1.flatMap p7) p.1.length .shared),(h0 p.2.1),(h0 p.2.2),.map 1]] 0 1 0 8 (.tuple [.ptr 2 0,h0 0]) with | some es',some v=>some (v,[]++[ar.map es' 0]) | _,_=>none)=_
  rw [b'];rfl⟩
end
def M_ (b:Hf) (F:List Int) (o:List Int):Option (List Int):=IE (Ks b o) (ql o.length) F
def LO (F:List Int):List Int×Int:=if decide (F=[0,0,0,0,0,0,0])=true then ([],0) else ((ql 7).filter (fun s=>decide (0<ix F s)),0)
def NT (p:qf):Option (List Int×Int) :=
 (rV p []).bind fun r=>match r with
 | (none,q)=>if decide (q≠0)=true then some ([],q) else none
 | (some b,_) =>
   qk (0<b.1.1.length∧b.1.1.length≤7) <|
   (IE (M_ b) (ri b.1.1.length (ql b.1.1.length)) [0,0,0,0,0,0,0]).bind fun F =>
   some (LO F)
theorem aec {n:Nat} {left:List Int}:∀ e∈ri n left,e.length=n:=fun e he=>by
 induction n generalizing left e with
 | zero=>simp [ri] at he;simp [he]
 | succ n a8 =>
   simp only [ri,List.mem_flatMap,List.mem_map] at he;obtain ⟨x,_,l,ao,rfl⟩:=he;simp [a8 l ao]
theorem Good.more {b:Hf} {rW:ar} {F:List Int} {H:List ar} (h:Good b rW F H) (Z:List ar):Good b rW F (H++Z) :=
 h.ext (h.f.more Z) ⟨by simp,fun j _ aw=>by rw [si aw]⟩
theorem Good.ahu {b:Hf} {rW:ar} {F:List Int} {H:List ar} {j:Nat} {c:List I} (dU:List I) (h:Good b rW F H) (aw:4≤j) (ak:H[j]?=some (.cells c)):Good b rW F (H.set j (.cells dU)) :=
 ⟨h.f.r7 ak (fun _ _ e=>by cases e),by rw [se (by omega)];exact h.p,by rw [se (by omega)];exact h.m,by rw [se (by omega)];exact h.l,h.n⟩
theorem YV (n:Nat):ql (n+1)=ql n++[(n:Int)]:=by simp [ql,vD]
theorem ahP {b:Hf} {rW:ar} {F:List Int} {H':List ar} (rP:Good b rW F H') {gv Gi r2 Jv NQ:I} {Q:cQ→List I→List ar→Prop}
  (jJ:∀ T H,H4 [.tmp 2,.tmp 3] (.tuple [.av ((LO F).1.map h0) (LO F).1.length .shared,h0 (LO F).2]) .ret T H→Q .ret T H) :
  dQ Tryz.prog Kq 24 0 none OJ (qe 86 [(2,gv),(3,Gi),(4,.ptr 1 0),(5,r2),(6,.ptr 2 0),(23,Jv),(26,NQ)]) (H'.set 3 .dead) Q:=by
 unfold OJ;obtain ⟨bt,eS⟩:∃ c,SP=c:=⟨_,rfl⟩;rw [eS];have hm:(H'.set 3 .dead)[2]?=some (.cells (F.map h0)):=by rw [se (by omega)];exact rP.m
 have aI:=rP.n;conv=>whnf
 refine Ew hm ?_;conv=>whnf
 refine ⟨by simp [aI],?_⟩;rw [Ww h0 F (fun _=>rfl) aI];conv=>whnf
 refine ⟨_,_,fun C=>W' rfl rfl (aaO .i64 (e:=3) (len:=7) (kd:=.i64) (xs:=F) (ys:=[(0:Int),0,0,0,0,0,0]) (by kernel_rfl) (by kernel_rfl) (by kernel_rfl) (by kernel_rfl) aI rfl),?_⟩;conv=>whnf
 unfold LO at jJ;refine HL (fun bk=>?_) (fun bk=>?_)
 ·rw [decide_eq_true bk] at jJ;conv=>whnf
  exact jJ _ _ (Ix rfl rfl)
 ·rw [decide_eq_false bk] at jJ;conv=>whnf
  subst eS;unfold SP;obtain ⟨a9,ca⟩:∃ c,SN=c:=⟨_,rfl⟩;rw [ca];conv=>whnf
  refine Ew hm ?_;conv=>whnf
  refine ⟨by simp [aI],?_⟩;rw [Ww h0 F (fun _=>rfl) aI];conv=>whnf
  refine .intro (fun m T H=>∃ (i:Nat) (L:List Int) (c:hE),i≤7∧m=7-i∧L=(ql i).filter (fun s=>decide (0<ix F s))∧c=.uniq 1∧T=qe 86 [(14,.av (L.map h0) L.length c),(68,.agg (F.map h0)),(69,h0 i)]∧H=H'.set 3 .dead) 7 ⟨0,[],_,by omega,rfl,rfl,rfl,rfl,rfl⟩ ?_;rintro m T H ⟨i,L,c,hi,rfl,fq,rfl,rfl,rfl⟩;conv=>whnf
  refine HL (fun aR=>?_) (fun aR=>?_)
  ·(have rS:IntKind.i64.wrap ((i:Int)+1)=((i+1:Nat):Int):=by rw [HU _ (by omega) (by omega)];omega);subst ca;unfold SN;obtain ⟨a7,cf⟩:∃ c,SM=c:=⟨_,rfl⟩;rw [cf];(conv=>whnf);refine ⟨_,_,fun C=>afK rfl (aaQ (e:=3) (len:=7) (kd:=.i64) (by kernel_rfl) (by kernel_rfl) (by kernel_rfl) (by kernel_rfl) aI ⟨by omega,aR⟩),?_⟩;(conv=>whnf);refine HL (fun aB=>?_) (fun aB=>?_)
   ·subst cf;unfold SM;have ajT:L.length≤7:=by
     have:=List.length_filter_le (fun s=>decide (0<ix F s)) (ql i);rw [ME] at this;rw [fq];omega
    (conv=>whnf);refine ⟨⟨rfl,by omega,sQ _⟩,?_⟩;(conv=>whnf);rw [tp,tn,td (by simp)];refine ⟨rfl,by decide,?_⟩;(conv=>whnf);refine ⟨by decide,by omega,by simp,?_⟩;(conv=>whnf);refine ⟨7-(i+1),by omega,i+1,_,.uniq 1,by omega,rfl,rfl,rfl,?_,rfl⟩;rw [YV,t_,←fq,show [(i:Int)].filter (fun s=>decide (0<ix F s))=[(i:Int)] by simp [aB],sJ,sA,rS];rfl
   ·(conv=>whnf);refine ⟨7-(i+1),by omega,i+1,L,.uniq 1,by omega,rfl,?_,rfl,by rw [rS];rfl,rfl⟩;rw [YV,t_,←fq,show [(i:Int)].filter (fun s=>decide (0<ix F s))=[] by simp [aB],sN]
  ·(obtain rfl:i=7:=by omega);(conv=>whnf);rw [fq];exact jJ _ _ (Ix rfl rfl)
theorem aiB {p:qf} {v:List Int×Int} (h:NT p=some v):qB 24 [.agg [.av (p.1.flatMap p7) p.1.length .shared,h0 p.2.1,h0 p.2.2]] (.tuple [.av (v.1.map h0) v.1.length .shared,h0 v.2]):=by
 unfold NT at h;obtain ⟨⟨aS,bj⟩,ai,h⟩:=p9 h;refine qR eG aek rfl (JG (p5 (rU (fun _=>rfl) _ _ _) (p5 rfl rfl))) fun Q bp=>?_;have jJ:∀ T H,H4 [.tmp 2,.tmp 3] (.tuple [.av (v.1.map h0) v.1.length .shared,h0 v.2]) .ret T H→Q .ret T H:=fun T H bE=>bp _ T H bE;unfold XM XN;obtain ⟨dV,Cr⟩:∃ c,PZ=c:=⟨_,rfl⟩;rw [Cr];conv=>whnf
 refine ⟨rfl,?_⟩;conv=>whnf
 rcases aS with _ | b
 ·refine ⟨_,_,abX ai,?_⟩;conv=>whnf
  subst Cr;unfold PZ;refine bs h (fun af h=>?_) fun af h=>?_
  ·obtain ⟨b6,iP⟩:∃ c,OJ=c:=⟨_,rfl⟩;rw [iP];rw [show I.int IntKind.i64 bj=h0 bj from rfl];(conv=>whnf);rw [af];(conv=>whnf);obtain rfl:=Option.some.inj h;exact jJ _ _ (Ix rfl rfl)
  ·cases h
 ·obtain ⟨rfl,rfl,_⟩:=O4 ai;refine ⟨_,_,abZ ai,?_⟩;conv=>whnf
  obtain ⟨⟨Di,Ng⟩,h⟩:=q_ h;obtain ⟨F,ao,h⟩:=p9 h;obtain rfl:=Option.some.inj h;subst Cr;unfold PZ;obtain ⟨b6,iP⟩:∃ c,OJ=c:=⟨_,rfl⟩;rw [iP];conv=>whnf
  refine ⟨_,_,call9 (bs:=[lp (p,())]) rfl (p5 (Ii (p,())) rfl) (TH (b:=(p,())) (v:=()) rfl),?_⟩;obtain ⟨bt,eS⟩:∃ c,gE.AM (.nc 26) [27] (rB Tryz.prog 24 0) (rC Tryz.prog 24 0)=c:=⟨_,rfl⟩;rw [eS];conv=>whnf
  subst eS;obtain ⟨Hx,Oj,LU,RN⟩:=Pz ao;obtain ⟨rW,PE⟩:∃ rW:ar,rW=.loop .ready none 24 (qe 86 [(2,I.view (.av [] 0 (.uniq 1))),(3,h0 0),(4,.ptr 1 0),(5,h0 0),(6,.ptr 2 0),(23,B (decide ((0:Int)≠0))),(26,I.view (.func 70 [] [.bS [lp (p,())]]))]) [27] (rB Tryz.prog 24 0) (rC Tryz.prog 24 0) Kq:=⟨_,rfl⟩;have kM:∀ c,rW≠.cells c:=fun c e=>by rw [PE] at e;cases e
  refine ahj (f:=Hk) (ahp (b:=(p,())) Ng Di) (Inv:=fun i H=>Good (p,()) rW (Hx i) H) (by exact rfl) ⟨fun i H rP=>⟨sv _,(sa.1 rP.l).1⟩,fun i H Z rP=>rP.more Z,fun i H j c dU rP aw ak=>rP.ahu dU aw ak⟩ ?_ ?_ (rl:=none) (by exact rfl) ?_ ?_
  ·show Good _ _ (Hx 0) _;rw [Oj,PE];exact ⟨⟨[],0,rfl,fun e he=>absurd he (by simp)⟩,rfl,rfl,rfl,rfl⟩
  ·intro i hi H1 rP;rw [PE] at rP ⊢;exact ahh (So Di _ (tO hi)) (by rw [aec _ (tO hi)];omega) (RN i hi) rP
  ·intro H' rP;rw [PE] at rP;exact rP.l
  ·intro H' rP;rw [LU] at rP;subst iP;exact ahP rP jJ

end Go.Proofs.YtkoioidpbbbaiaaGreat.Ab


namespace Go.Proofs.YtkoioidpbbbaiaaGreat.Ab
open Go
set_option maxRecDepth 20000
set_option maxHeartbeats 1000000
def C9 (p:qf) (o:List Int) (i:Nat):Bool:=decide (ID p o (1-i % 2)) && decide (KH p o (i % 2) i)
abbrev H_:=Nat→Bool
def OZ (p:qf) (o:List Int) (i:Nat) (M:H_):H_:=fun s=>M s || (decide (s=(ix o (i:Int)).toNat) && C9 p o i)
def K1 (p:qf) (o:List Int) (M:H_):Nat→H_
 | 0=>M
 | k+1=>OZ p o k (K1 p o M k)
def allM (p:qf):List (List Int)→H_→H_
 | [],M=>M
 | o::r,M=>allM p r (K1 p o M o.length)
def Ia (p:qf):H_:=allM p (rL p) fun _=>false
theorem Xc {p:qf} {o:List Int} {M:H_} {s:Nat}:∀ {k:Nat},K1 p o M k s=true↔M s=true∨∃ i,i<k∧s=(ix o (i:Int)).toNat∧C9 p o i=true
 | 0=>by simp [K1]
 | k+1=>by
   unfold K1 OZ;rw [Bool.or_eq_true,Xc,sq,decide_eq_true_eq];constructor
   ·rintro ((h | ⟨i,ab,ae⟩) | h)
    ·exact .inl h
    ·exact .inr ⟨i,by omega,ae⟩
    ·exact .inr ⟨k,by omega,h⟩
   ·rintro (h | ⟨i,ab,ae⟩)
    ·exact .inl (.inl h)
    ·by_cases e:i=k
     ·subst e;exact .inr ae
     ·exact .inl (.inr ⟨i,by omega,ae⟩)
theorem Uf {p:qf} {s:Nat}:∀ {E:List (List Int)} {M:H_},allM p E M s=true↔M s=true∨∃ o∈E,∃ i,i<o.length∧s=(ix o (i:Int)).toNat∧C9 p o i=true
 | [],M=>by simp [allM]
 | o::r,M=>by
   unfold allM;rw [Uf,Xc];constructor
   ·rintro ((h | h) | ⟨cz,ab,ae⟩)
    ·exact .inl h
    ·exact .inr ⟨o,by simp,h⟩
    ·exact .inr ⟨cz,by simp [ab],ae⟩
   ·rintro (h | ⟨cz,ab,ae⟩)
    ·exact .inl (.inl h)
    ·rcases sB.1 ab with rfl | ab
     ·exact .inl (.inr ae)
     ·exact .inr ⟨cz,ab,ae⟩
theorem Va {p:qf} {s:Nat}:Ia p s=true↔∃ o,qu p.1.length o∧∃ i,i<o.length∧s=(ix o (i:Int)).toNat∧C9 p o i=true:=by
 unfold Ia;rw [Uf];constructor
 ·rintro (h | ⟨o,ab,ae⟩)
  ·cases h
  ·exact ⟨o,Mr.1 ab,ae⟩
 ·rintro ⟨o,ab,ae⟩;exact .inr ⟨o,Mr.2 ab,ae⟩
theorem abM {p:qf} {s:Nat} (h:Ia p s=true):s<p.1.length:=by
 obtain ⟨o,k,i,hi,rfl,_⟩:=Va.1 h;have:=Ho k i hi;omega
def M9 (p:qf):List Int:=(ql p.1.length).filter fun s=>Ia p s.toNat
def zY (M:H_):List Int:=(List.range 7).map fun s=>if M s=true then 1 else 0
theorem afs (M:H_):(zY M).length=7:=by simp [zY]
theorem WY (M:H_) {s:Nat} (h:s<7):ix (zY M) (s:Int)=if M s=true then 1 else 0:=by
 rw [rJ (by rw [afs];exact h)];simp [zY]
theorem aft (M:H_) {v:Nat} (h:v<7):(zY M).set v 1=zY fun s=>M s || decide (s=v):=by
 apply List.ext_getElem (by simp [zY]);intro j ab ae;rw [List.getElem_set];simp only [zY,tK,List.getElem_range];by_cases e:v=j
 ·subst e;simp
 ·rw [if_neg e]
  have:decide (j=v)=false:=by simp;omega
  rw [this,vH]
section
variable {p:qf} {o:List Int}
theorem abN (h:rj p) (k:qu p.1.length o) {i:Nat} (hi:i<o.length) (M:H_):Ks (p,()) o (zY M) (i:Int)=some (zY (OZ p o i M)):=by
 have adz:=qu.Wy h k;have ai:=Ho k i hi;have aI:=k.1;obtain ⟨v,ad⟩:∃ v:Nat,ix o (i:Int)=(v:Int):=⟨(ix o (i:Int)).toNat,by omega⟩;have hu:OZ p o i M=fun s=>M s || (decide (s=v) && C9 p o i):=by unfold OZ;rw [ad];rfl
 rw [hu];unfold Ks;rw [ad] at ai ⊢;rw [qF (by omega),WY M (by omega)];cases CA:M v with
 | true =>
   rw [if_pos (by simp)];congr 1;unfold zY;refine List.map_congr_left fun s _=>?_;by_cases e:s=v
   ·subst e;simp [CA]
   ·simp [e]
 | false =>
   rw [if_neg (by simp),OY];(have e1:w (1-((i % 2:Nat):Int))=((1-i % 2:Nat):Int):=by rw [qC (by omega)];omega);rw [e1,ZJ h k,sb];unfold C9;rcases ZI h k (a:=i % 2) hi with ⟨s,ab,ae,aF⟩ | ⟨ab,ae⟩
   ·rw [ab,sb,decide_eq_true (Pq.2 ⟨s,ae,aF⟩)];simp only [tt];by_cases aP:ID p o (1-i % 2)
    ·rw [if_pos (decide_eq_true aP),decide_eq_true aP,tp,aft M (by omega)];simp only [tt]
    ·rw [if_neg (by simpa using aP),decide_eq_false aP];simp only [Bool.and_false,vH]
   ·rw [ab,sb,decide_eq_false ae];simp only [Bool.and_false,vH];rw [if_neg (by decide)]
theorem Vu (h:rj p) (k:qu p.1.length o) (M:H_):∀ (m i:Nat),i≤o.length→o.length-i=m→IE (Ks (p,()) o) ((ql o.length).drop i) (zY (K1 p o M i))=some (zY (K1 p o M o.length))
 | 0,i,hi,hm=>by
   (obtain rfl:i=o.length:=by omega);rw [List.drop_of_length_le (by rw [Ls];omega)];rfl
 | m+1,i,hi,hm=>by
   (have aR:i<o.length:=by omega);have e1:(ql o.length).drop i=(i:Int)::(ql o.length).drop (i+1):=by
    rw [s0 (by rw [Ls];omega)];congr 1;rw [←rJ,Sl aR]
   rw [e1];show (Ks (p,()) o (zY (K1 p o M i)) (i:Int)).bind (fun t=>IE (Ks (p,()) o) _ t)=_;rw [abN h k aR,sb];exact Vu h k M m (i+1) (by omega) (by omega)
theorem abO (h:rj p) (k:qu p.1.length o) (M:H_):M_ (p,()) (zY M) o=some (zY (K1 p o M o.length)):=Vu h k M o.length 0 (by omega) rfl
theorem Vw (h:rj p):∀ (E:List (List Int)) (M:H_),(∀ o∈E,qu p.1.length o)→IE (M_ (p,())) E (zY M)=some (zY (allM p E M))
 | [],_,_=>rfl
 | o::r,M,HM=>by
   show (M_ (p,()) (zY M) o).bind (fun t=>IE (M_ (p,())) r t)=_;rw [abO h (HM o (by simp)),sb];exact Vw h r _ fun cz aX=>HM cz (by simp [aX])
theorem abE {p:qf} (h:rj p):LO (zY (Ia p))=(M9 p,0):=by
 have gb:(ql 7).filter (fun s=>decide (0<ix (zY (Ia p)) s))=(ql 7).filter fun s=>Ia p s.toNat:=by
  refine List.filter_congr fun s ah=>?_;have:=Su.1 ah;obtain ⟨v,rfl⟩:∃ v:Nat,s=(v:Int):=⟨s.toNat,by omega⟩;rw [WY _ (by omega),tp];cases Ia p v <;> rfl
 have e1:(ql 7).filter (fun s=>Ia p s.toNat)=M9 p:=by
  unfold M9;have key:∀ r:List Int,(∀ s∈r,(p.1.length:Int)≤s)→r.filter (fun s=>Ia p s.toNat)=[]:=fun r ai=>by
   rw [List.filter_eq_nil_iff];intro s ah af;have:=abM af;have:=ai s ah;omega
  rcases h.n with e | e | e
  ·rw [e,show ql 7=ql 3++[3,4,5,6] from rfl,t_,key [3,4,5,6] (by rw [e];decide),sN]
  ·rw [e,show ql 7=ql 5++[5,6] from rfl,t_,key [5,6] (by rw [e];decide),sN]
  ·rw [e]
 unfold LO;by_cases bk:zY (Ia p)=[0,0,0,0,0,0,0]
 ·rw [if_pos (decide_eq_true bk)];rw [bk] at gb;rw [←e1,←gb];rfl
 ·rw [if_neg (by simpa using bk),gb,e1]
theorem aiA (aB:p.1.length≤1000):NT p=some (if rz p=0 then (M9 p,0) else ([],rz p)):=by
 unfold NT;rw [TG aB,sb];by_cases h:rz p=0
 ·rw [if_pos h,if_pos h];have ad:=IV.1 h;have ao:=ad.len;simp only;rw [qF (show 0<p.1.length∧p.1.length≤7 by omega)];have e:IE (M_ (p,())) (ri p.1.length (ql p.1.length)) [0,0,0,0,0,0,0]=some (zY (Ia p)):=Vw ad (rL p) (fun _=>false) fun o aq=>Mr.1 aq;rw [e,sb,abE ad]
 ·rw [if_neg h,if_neg h];simp only;rw [if_pos (decide_eq_true h)]
end
end Go.Proofs.YtkoioidpbbbaiaaGreat.Ab


namespace Go.Proofs.YtkoioidpbbbaiaaGreat.Ab
open Go
set_option maxRecDepth 20000
set_option maxHeartbeats 4000000
noncomputable def QR:gE :=
 .loop (some (qc false [0,2,3,1,20])) (.seq (p2 [p3 11 5,p3 12 0,q3 13 12,qn 14 11 13 .lss] (.cond (.nc 14) .skip (.exit 0))) (.seq (.block 1 (.seq (rA [p3 17 0,p3 18 5,rv 19 17 18 1,qi 20 19,p3 21 1,p3 22 5,rv 23 21 22 1,qi 24 23,qn 25 20 24 .neq]) (.cond (.nc 25) (p2 [p0 4 [.cv (.bool false)] .mU] .ret) .skip))) (qV [p1 15 5,q2 16 15 1,p1 5 16])))
noncomputable def Z5:gE :=
 p2 [p0 4 [.cv (.bool false)] .mU] (.seq (p2 [p3 6 0,q3 7 6,p3 8 1,q3 9 8,qn 10 7 9 .neq] (.cond (.nc 10) (p2 [p0 4 [.cv (.bool false)] .mU] .ret) .skip)) (.seq (p2 [qh 5 0] (.block 0 QR)) (p2 [p0 4 [.cv (.bool true)] .mU] .ret)))
theorem aeO:qt Tryz.prog Re 18=some (Z5,26,[.tmp 4]):=by kernel_rfl
def O2 (a b:p_) (p':Unit→Option Bool):Nat→Int→Option Bool
 | 0,_=>none
 | m+1,s1 =>
   if (decide (s1<(a.length:Int)))=true then
    qk (0≤s1∧s1<(a.length:Int)) <|
    qk (0≤s1∧s1<(b.length:Int)) <|
    if (decide ((ix a s1)≠(ix b s1)))=true then
     some false
    else
     O2 a b p' m (w (s1+(1:Int)))
   else
    p' ()
def MJ (a b:p_):Option Bool :=
 if (decide ((a.length:Int)≠(b.length:Int)))=true then
  some false
 else
  O2 a b (fun _ =>
    some true) qj (0:Int)
theorem aiu {a:p_} {b:p_} {p':Unit→Option Bool} {s1:Int} {v:Bool} {Q:r1}   (jJ:qK [.tmp 4] Q (fun v=>(B v)) v) (rn:∀ (qb:List I),p' ()=some v→ra 26 [] qb→Q (.exit 0) qb []) {T:List I} (b0:eZ (qc false [0,2,3,1,20]) T=qe 26 [(0,(qS a .shared)),(1,(qS b .shared)),(5,(h0 s1))]) (h:O2 a b p' qj s1=some v) :
  dQ Tryz.prog Re 18 0 none QR T [] Q:=by
 unfold QR;refine wp_loop b0 ?_;refine .intro (fun m T H=>∃ (s1:Int),T=qe 26 [(0,(qS a .shared)),(1,(qS b .shared)),(5,(h0 s1))]∧H=[]∧O2 a b p' m s1=some v) qj ⟨s1,rfl,rfl,h⟩ ?_;clear h b0;rintro m T H ⟨s1,rfl,rfl,h⟩;cases m
 ·exact r0 h
 rename_i m;rw [O2.eq_2] at h;conv=>whnf
 refine bs h (fun gN h=>?_) fun gN h=>?_
 ·rw [gN];conv=>whnf
  refine qD h id fun qx h=>?_;rw [rG h0 a s1 qx];conv=>whnf
  refine qD h id fun qQ h=>?_;rw [rG h0 b s1 qQ];conv=>whnf
  refine bs h (fun qA h=>?_) fun qA h=>?_
  ·rw [qA];(conv=>whnf);exact p8 h jJ rfl rfl
  ·rw [qA];(conv=>whnf);exact ⟨m,sv m,(w (s1+(1:Int))),rfl,rfl,h⟩
 ·rw [gN];conv=>whnf
  exact rn  _ h ⟨rfl,rfl⟩
theorem Zk {a:p_} {b:p_} {v:Bool} (h:MJ a b=some v):qB 18 [(.av (a.map h0) a.length .shared),(.av (b.map h0) b.length .shared)] (B v):=by
 refine qR eG aeO rfl rfl fun Q bp=>?_;have jJ:qK [.tmp 4] Q (fun v=>(B v)) v:=fun T H bE=>bp _ T H bE;unfold MJ at h;unfold Z5;obtain ⟨HK,qJ⟩:∃ c,QR=c:=⟨_,rfl⟩;rw [qJ];conv=>whnf
 refine bs h (fun gM h=>?_) fun gM h=>?_
 ·rw [gM];conv=>whnf
  exact p8 h jJ rfl rfl
 ·rw [gM];conv=>whnf
  subst qJ;refine aiu ?_ ?_ (by exact rfl) h
  ·exact fun T H bE=>jJ T H bE
  ·intro  qb h qo;obtain ⟨re,rfl⟩:=qo.ex;(conv=>whnf);exact p8 h jJ rfl rfl

noncomputable def Z7:gE :=
 p2 [p0 2 [.jq 0] .box,qh 4 0,qh 5 0] (p2 [p0 9 [.Bs 2] (.zE (.str 3)),p1 10 1,p0 11 [.cv (.func 23 [] []),.nc 9,.nc 10] (.call 3),p1 8 11,qI 12 8 0,p0 13 [.Bs 8] (.ext 1),p1 6 12,p1 7 13] (p2 [p1 14 6,q3 15 14,p1 16 7,p1 4 15,p1 5 16] .ret))
theorem aeQ:qt Tryz.prog Ur 21=some (Z7,17,[.tmp 4,.tmp 5]):=by kernel_rfl
def NS (p:(qd×(Int×Int))) (order:p_):Option (Int×Int) :=
 (Ly p order).bind fun aS =>
 some ((aS.1.length:Int),aS.2)
theorem aiy {p:(qd×(Int×Int))} {order:p_} {v:(Int×Int)} (h:NS p order=some v):qB 21 [(.agg [(.av (p.1.flatMap p7) p.1.length .shared),(h0 p.2.1),(h0 p.2.2)]),(.av (order.map h0) order.length .shared)] (.tuple [(h0 v.1),(h0 v.2)]):=by
 refine qR eG aeQ rfl (JG (p5 rfl (p5 rfl rfl))) fun Q bp=>?_;have jJ:qK [.tmp 4,.tmp 5] Q (fun v=>(.tuple [(h0 v.1),(h0 v.2)])) v:=fun T H bE=>bp _ T H bE;unfold NS at h;unfold Z7;conv=>whnf
 obtain ⟨aS,gM,h⟩:=p9 h;refine ⟨qa.pl,_,Zm gM,?_⟩;conv=>whnf
 exact p8 h jJ rfl rfl

def HG (x:(Int×Int)):List I:=[(h0 x.1),(h0 x.2)]
theorem M0 (x:(Int×Int)):(HG x).length=2:=rfl
instance {d:Nat} {x:(Int×Int)}:qa (d+1) (HG x):=⟨(inferInstance:qa (d+1) [(h0 x.1),(h0 x.2)]).pl⟩
noncomputable def Q2:gE :=
 .loop (some (qc false [2,1,3,3,27])) (.seq (p2 [p3 13 8,q2 14 13 1,p3 15 2,q3 16 15,qn 17 14 16 .lss] (.cond (.nc 17) .skip (.exit 0))) (.seq (.block 1 (rA [p0 20 [.nc 7] (.yM 0),p0 21 [.Bs 20] .take,p3 22 2,p3 23 8,rv 24 22 23 1,qi 25 24,p3 26 2,p3 27 8,q2 28 27 1,rv 29 26 28 1,qi 30 29,p0 31 [.Bs 25,.Bs 30] (.build [.int .i64 0,.int .i64 0] [(0,1),(1,1)]),p0 32 [.Bs 31] (.yB 1 2 [.int .i64 0,.int .i64 0] [0]),p0 33 [.jq 21,.jq 32] (.app 2 16),p0 34 [.nc 7] (.yM 0),⟨none,[.jq 34,.jq 33],none,none,.st 1⟩])) (qV [p1 18 8,q2 19 18 2,p1 8 19])))
noncomputable def aas:gE :=
 p2 [p0 6 [] (.alloc [.av [] 0 .full,.int .i64 0,.int .i64 0])] (p2 [p1 9 0,p1 10 1,p0 11 [.Bs 9,.Bs 10] (.build [.int .i64 0,.int .i64 0] [(0,1),(1,1)]),p0 12 [.Bs 11] (.build [.av [] 0 .full,.int .i64 0,.int .i64 0] [(1,2)]),p0 7 [] (.alloc [.av [] 0 .full,.int .i64 0,.int .i64 0]),⟨none,[.nc 7,.jq 12],none,none,.st 3⟩] (.seq (p2 [qh 8 0] (.block 0 Q2)) (p2 [p0 35 [.Bs 7] (.zE (.str 3)),⟨none,[.nc 6,.jq 35],none,none,.st 3⟩] .ret)))
theorem afc:qt Tryz.prog Rl 64=some (aas,36,[.cell 6 (.str 3)]):=by kernel_rfl
def Pb (x:p_) (p':qd→Option (qd×(Int×Int))):Nat→Int→qd→Option (qd×(Int×Int))
 | 0,_,_=>none
 | m+1,s1,s2 =>
   if (decide ((w (s1+(1:Int)))<(x.length:Int)))=true then
    qk (0≤s1∧s1<(x.length:Int)) <|
    qk (0≤(w (s1+(1:Int)))∧(w (s1+(1:Int)))<(x.length:Int)) <|
    qk ((s2.length+1)*16≤140737488355328) <|
    Pb x p' m (w (s1+(2:Int))) (s2++[((ix x s1),(ix x (w (s1+(1:Int)))))])
   else
    p' s2
def Pa (lo hi:Int) (x:p_):Option (qd×(Int×Int)) :=
 Pb x (fun yn =>
   some (yn,(lo,hi))) qj (0:Int) ([]:List (Int×Int))
theorem ai6 {x:p_} {p':qd→Option (qd×(Int×Int))} {s1:Int} {s2:qd} {lo:Int} {hi:Int} {v:(qd×(Int×Int))} {Q:r1}   {rE:hE} (rn:∀ (yn:qd) (qb:List I),p' yn=some v→ra 36 [(6,(.ptr 0 0)),(7,(.ptr 1 0))] qb→Q (.exit 0) qb [ar.cells [(.av [] 0 .full),(h0 (0:Int)),(h0 (0:Int))],ar.cells [(.av (yn.flatMap HG) yn.length .full),(h0 lo),(h0 hi)]]) (Mm:∀ (yn:qd) (qb:List I),p' yn=some v→ra 36 [(6,(.ptr 0 0)),(7,(.ptr 1 0))] qb→Q (.exit 0) qb [ar.cells [(.av [] 0 .full),(h0 (0:Int)),(h0 (0:Int))],ar.cells [(.av (yn.flatMap HG) yn.length (.own 2)),(h0 lo),(h0 hi)]]) (Ig:(rE=hE.full∨rE=(.own 2))) {T:List I} (b0:eZ (qc false [2,1,3,3,27]) T=qe 36 [(2,(qS x .shared)),(6,(.ptr 0 0)),(7,(.ptr 1 0)),(8,(h0 s1))]) (h:Pb x p' qj s1 s2=some v) :
  dQ Tryz.prog Rl 64 0 none Q2 T [ar.cells [(.av [] 0 .full),(h0 (0:Int)),(h0 (0:Int))],ar.cells [(.av (s2.flatMap HG) s2.length rE),(h0 lo),(h0 hi)]] Q:=by
 unfold Q2;refine wp_loop b0 ?_;refine .intro (fun m T H=>∃ (s1:Int) (s2:qd) (rE:hE),(rE=hE.full∨rE=(.own 2))∧T=qe 36 [(2,(qS x .shared)),(6,(.ptr 0 0)),(7,(.ptr 1 0)),(8,(h0 s1))]∧H=[ar.cells [(.av [] 0 .full),(h0 (0:Int)),(h0 (0:Int))],ar.cells [(.av (s2.flatMap HG) s2.length rE),(h0 lo),(h0 hi)]]∧Pb x p' m s1 s2=some v) qj ⟨s1,s2,_,Ig,rfl,rfl,h⟩ ?_;clear h b0;rintro m T H ⟨s1,s2,rE,Ig,rfl,rfl,h⟩;cases m
 ·exact r0 h
 rename_i m;rw [Pb.eq_2] at h;rcases Ig with rfl | rfl
 ·conv=>whnf
  refine bs h (fun gM h=>?_) fun gM h=>?_
  ·rw [gM];(conv=>whnf);refine qD h id fun gN h=>?_;rw [rG h0 x s1 gN];(conv=>whnf);refine qD h id fun qx h=>?_;rw [rG h0 x (w (s1+(1:Int))) qx];(conv=>whnf);obtain ⟨qQ,h⟩:=q_ h;refine ⟨by first | rfl | (simp;done) | exact rf HG _ M0 _,by have:=qQ;omega,by decide,qQ,by first | rfl | (simp;done) | exact rf HG _ M0 _,?_⟩
   erw [HI HG s2 ((ix x s1),(ix x (w (s1+(1:Int)))))];(conv=>whnf);exact ⟨m,sv m,(w (s1+(2:Int))),(s2++[((ix x s1),(ix x (w (s1+(1:Int)))))]),_,(.inr rfl),rfl,rfl,h⟩
  ·rw [gM];(conv=>whnf);exact rn _ _ h ⟨rfl,rfl⟩
 ·conv=>whnf
  refine bs h (fun gM h=>?_) fun gM h=>?_
  ·rw [gM];(conv=>whnf);refine qD h id fun gN h=>?_;rw [rG h0 x s1 gN];(conv=>whnf);refine qD h id fun qx h=>?_;rw [rG h0 x (w (s1+(1:Int))) qx];(conv=>whnf);obtain ⟨qQ,h⟩:=q_ h;refine ⟨by first | rfl | (simp;done) | exact rf HG _ M0 _,by have:=qQ;omega,rfl,qQ,?_⟩
   erw [HI HG s2 ((ix x s1),(ix x (w (s1+(1:Int)))))];(conv=>whnf);exact ⟨m,sv m,(w (s1+(2:Int))),(s2++[((ix x s1),(ix x (w (s1+(1:Int)))))]),_,(.inr rfl),rfl,rfl,h⟩
  ·rw [gM];(conv=>whnf);exact Mm _ _ h ⟨rfl,rfl⟩
theorem TR {lo:Int} {hi:Int} {x:p_} {v:(qd×(Int×Int))} (h:Pa lo hi x=some v):qB 64 [(h0 lo),(h0 hi),(.av (x.map h0) x.length .shared)] (.agg [(.av (v.1.flatMap p7) v.1.length .shared),(h0 v.2.1),(h0 v.2.2)]):=by
 refine qR eG afc rfl (H6 (p5 (HD (fun _=>(p5 rfl (p5 rfl rfl))) _ _ _) (p5 rfl (p5 rfl rfl)))) fun Q bp=>?_;have jJ:qK [.cell 6 (.str 3)] Q (fun v=>(.agg [(qv v.1 .shared),(h0 v.2.1),(h0 v.2.2)])) v:=fun T H bE=>bp _ T H bE;unfold Pa at h;unfold aas;obtain ⟨HK,qJ⟩:∃ c,Q2=c:=⟨_,rfl⟩;rw [qJ];conv=>whnf
 subst qJ;refine ai6 ?_ ?_ (.inl rfl) (by exact rfl) h
 ·intro yn qb h qo;obtain ⟨re,rfl⟩:=qo.ex;conv=>whnf
  exact p8 h jJ rfl rfl
 ·intro yn qb h qo;obtain ⟨re,rfl⟩:=qo.ex;conv=>whnf
  exact p8 h jJ rfl rfl

noncomputable def aac:gE :=
 p2 [p0 0 [] (.alloc [.av [] 0 .full,.int .i64 0,.int .i64 0])] (p2 [p0 1 [.cv (.int .i64 10),.cv (.int .i64 1),.cv (.int .i64 5),.cv (.int .i64 0),.cv (.int .i64 10),.cv (.int .i64 1)] (.yB 6 1 [.int .i64 0] [0,1,2,3,4,5]),p0 2 [.cv (.func 64 [] []),.cv (.int .i64 0),.cv (.int .i64 4),.nc 1] (.call 3),⟨none,[.nc 0,.jq 2],none,none,.st 3⟩] .ret)
theorem aeX:qt Tryz.prog Ux 33=some (aac,3,[.cell 0 (.str 3)]):=by kernel_rfl
def Qy  : Option (qd×(Int×Int)) :=
 (Pa (0:Int) (4:Int) [(10:Int),(1:Int),(5:Int),(0:Int),(10:Int),(1:Int)]).bind fun aS =>
 some aS
theorem aiF  {v:(qd×(Int×Int))} (h:Qy  = some v):qB 33 [] (.agg [(.av (v.1.flatMap p7) v.1.length .shared),(h0 v.2.1),(h0 v.2.2)]):=by
 refine qR eG aeX rfl (H6 (p5 (HD (fun _=>(p5 rfl (p5 rfl rfl))) _ _ _) (p5 rfl (p5 rfl rfl)))) fun Q bp=>?_;have jJ:qK [.cell 0 (.str 3)] Q (fun v=>(.agg [(qv v.1 .shared),(h0 v.2.1),(h0 v.2.2)])) v:=fun T H bE=>bp _ T H bE;unfold Qy at h;unfold aac;conv=>whnf
 obtain ⟨aS,gM,h⟩:=p9 h;refine ⟨(p5 rfl (p5 rfl (p5 rfl rfl))),_,TR gM,?_⟩;conv=>whnf
 exact p8 h jJ rfl rfl

noncomputable def aad:gE :=
 p2 [p0 0 [] (.alloc [.av [] 0 .full,.int .i64 0,.int .i64 0])] (p2 [p0 1 [.cv (.int .i64 3),.cv (.int .i64 0),.cv (.int .i64 5),.cv (.int .i64 0),.cv (.int .i64 8),.cv (.int .i64 0)] (.yB 6 1 [.int .i64 0] [0,1,2,3,4,5]),p0 2 [.cv (.func 64 [] []),.cv (.int .i64 0),.cv (.int .i64 0),.nc 1] (.call 3),⟨none,[.nc 0,.jq 2],none,none,.st 3⟩] .ret)
theorem aeY:qt Tryz.prog Uy 34=some (aad,3,[.cell 0 (.str 3)]):=by kernel_rfl
def Qz  : Option (qd×(Int×Int)) :=
 (Pa (0:Int) (0:Int) [(3:Int),(0:Int),(5:Int),(0:Int),(8:Int),(0:Int)]).bind fun aS =>
 some aS
theorem aiH  {v:(qd×(Int×Int))} (h:Qz  = some v):qB 34 [] (.agg [(.av (v.1.flatMap p7) v.1.length .shared),(h0 v.2.1),(h0 v.2.2)]):=by
 refine qR eG aeY rfl (H6 (p5 (HD (fun _=>(p5 rfl (p5 rfl rfl))) _ _ _) (p5 rfl (p5 rfl rfl)))) fun Q bp=>?_;have jJ:qK [.cell 0 (.str 3)] Q (fun v=>(.agg [(qv v.1 .shared),(h0 v.2.1),(h0 v.2.2)])) v:=fun T H bE=>bp _ T H bE;unfold Qz at h;unfold aad;conv=>whnf
 obtain ⟨aS,gM,h⟩:=p9 h;refine ⟨(p5 rfl (p5 rfl (p5 rfl rfl))),_,TR gM,?_⟩;conv=>whnf
 exact p8 h jJ rfl rfl

noncomputable def aae:gE :=
 p2 [p0 0 [] (.alloc [.av [] 0 .full,.int .i64 0,.int .i64 0])] (p2 [p0 1 [.cv (.int .i64 4),.cv (.int .i64 0),.cv (.int .i64 6),.cv (.int .i64 0),.cv (.int .i64 1),.cv (.int .i64 0),.cv (.int .i64 6),.cv (.int .i64 0),.cv (.int .i64 4),.cv (.int .i64 0)] (.yB 10 1 [.int .i64 0] [0,1,2,3,4,5,6,7,8,9]),p0 2 [.cv (.func 64 [] []),.cv (.int .i64 0),.cv (.int .i64 9),.nc 1] (.call 3),⟨none,[.nc 0,.jq 2],none,none,.st 3⟩] .ret)
theorem aeZ:qt Tryz.prog Uz 35=some (aae,3,[.cell 0 (.str 3)]):=by kernel_rfl
def QA  : Option (qd×(Int×Int)) :=
 (Pa (0:Int) (9:Int) [(4:Int),(0:Int),(6:Int),(0:Int),(1:Int),(0:Int),(6:Int),(0:Int),(4:Int),(0:Int)]).bind fun aS =>
 some aS
theorem aiJ  {v:(qd×(Int×Int))} (h:QA  = some v):qB 35 [] (.agg [(.av (v.1.flatMap p7) v.1.length .shared),(h0 v.2.1),(h0 v.2.2)]):=by
 refine qR eG aeZ rfl (H6 (p5 (HD (fun _=>(p5 rfl (p5 rfl rfl))) _ _ _) (p5 rfl (p5 rfl rfl)))) fun Q bp=>?_;have jJ:qK [.cell 0 (.str 3)] Q (fun v=>(.agg [(qv v.1 .shared),(h0 v.2.1),(h0 v.2.2)])) v:=fun T H bE=>bp _ T H bE;unfold QA at h;unfold aae;conv=>whnf
 obtain ⟨aS,gM,h⟩:=p9 h;refine ⟨(p5 rfl (p5 rfl (p5 rfl rfl))),_,TR gM,?_⟩;conv=>whnf
 exact p8 h jJ rfl rfl

noncomputable def aaf:gE :=
 p2 [p0 2 [.cv (.av [] 0 .full)] (.nil 1)] (p2 [p1 3 0,p1 2 3] .ret)
theorem ae0:qt Tryz.prog UA 36=some (aaf,4,[.tmp 2]):=by kernel_rfl
def IL (x:p_):Option p_ :=
 some x
theorem JJ {x:p_} {v:p_} (h:IL x=some v):qB 36 [(.av (x.map h0) x.length .shared)] (.av (v.map h0) v.length .shared):=by
 refine qR eG ae0 rfl (rU (fun _=>rfl) _ _ _) fun Q bp=>?_;have jJ:qK [.tmp 2] Q (fun v=>(qS v .shared)) v:=fun T H bE=>bp _ T H bE;unfold IL at h;unfold aaf;conv=>whnf
 exact p8 h jJ rfl rfl

noncomputable def aag:gE :=
 p2 [p0 2 [.cv (.av [] 0 .full)] (.nil 3)] (p2 [p1 3 0,p1 2 3] .ret)
theorem ae1:qt Tryz.prog UB 37=some (aag,4,[.tmp 2]):=by kernel_rfl
def NY (x:(List (Int×(Int×Int)))):Option (List (Int×(Int×Int))) :=
 some x
theorem TE {x:(List (Int×(Int×Int)))} {v:(List (Int×(Int×Int)))} (h:NY x=some v):qB 37 [(.av (x.flatMap qw) x.length .shared)] (.av (v.flatMap qw) v.length .shared):=by
 refine qR eG ae1 rfl (HD (fun _=>(p5 rfl (p5 rfl (p5 rfl rfl)))) _ _ _) fun Q bp=>?_;have jJ:qK [.tmp 2] Q (fun v=>(.av (v.flatMap qw) v.length .shared)) v:=fun T H bE=>bp _ T H bE;unfold NY at h;unfold aag;conv=>whnf
 exact p8 h jJ rfl rfl

noncomputable def aah:gE :=
 p2 [p0 6 [] (.alloc [.int .i64 0,.int .i64 0,.int .i64 0])] (p2 [p1 7 0,p1 8 1,p1 9 2,p0 10 [.Bs 8,.Bs 9] (.build [.int .i64 0,.int .i64 0] [(0,1),(1,1)]),p0 11 [.Bs 7,.Bs 10] (.build [.int .i64 0,.int .i64 0,.int .i64 0] [(0,1),(1,2)]),⟨none,[.nc 6,.jq 11],none,none,.st 3⟩] .ret)
theorem ae2:qt Tryz.prog UC 38=some (aah,12,[.cell 6 (.str 3)]):=by kernel_rfl
def NZ (Qj pull more:Int):Option (Int×(Int×Int)) :=
 some (Qj,(pull,more))
theorem TF {Qj:Int} {pull:Int} {more:Int} {v:(Int×(Int×Int))} (h:NZ Qj pull more=some v):qB 38 [(h0 Qj),(h0 pull),(h0 more)] (.agg [(h0 v.1),(h0 v.2.1),(h0 v.2.2)]):=by
 refine qR eG ae2 rfl (H6 (p5 rfl (p5 rfl (p5 rfl rfl)))) fun Q bp=>?_;have jJ:qK [.cell 6 (.str 3)] Q (fun v=>(.agg [(h0 v.1),(h0 v.2.1),(h0 v.2.2)])) v:=fun T H bE=>bp _ T H bE;unfold NZ at h;unfold aah;conv=>whnf
 exact p8 h jJ rfl rfl
end Go.Proofs.YtkoioidpbbbaiaaGreat.Ab


namespace Go.Proofs.YtkoioidpbbbaiaaGreat.Ab
open Go
set_option maxRecDepth 100000
set_option maxHeartbeats 4000000
noncomputable def Z3:gE :=
 p2 [p0 0 [.cv (.bool false)] .mU] (p2 [p0 34 [.cv (.func 33 [] [])] (.call 3),p0 35 [.cv (.func 34 [] [])] (.call 3),p0 36 [.cv (.func 35 [] [])] (.call 3),p0 1 [] (.alloc [.av [] 0 .full,.int .i64 0,.int .i64 0]),p0 2 [] (.alloc [.av [] 0 .full,.int .i64 0,.int .i64 0]),p0 3 [] (.alloc [.av [] 0 .full,.int .i64 0,.int .i64 0]),⟨none,[.nc 1,.jq 34],none,none,.st 3⟩,⟨none,[.nc 2,.jq 35],none,none,.st 3⟩,⟨none,[.nc 3,.jq 36],none,none,.st 3⟩] (.seq (rA [p0 38 [.nc 3] (.zE (.str 3)),p0 39 [.cv (.int .i64 1),.cv (.int .i64 0),.cv (.int .i64 2),.cv (.int .i64 3),.cv (.int .i64 4)] (.yB 5 1 [.int .i64 0] [0,1,2,3,4]),p0 40 [.cv (.func 36 [] []),.nc 39] (.call 3),p0 41 [.cv (.func 30 [] []),.nc 38,.nc 40,.cv (.int .i64 0)] (.call 3),p1 37 41,qI 42 37 0,qI 43 37 1,qI 44 37 2,p1 4 42,p1 5 43,p1 6 44]) (.seq (rA [p0 46 [.nc 1] (.zE (.str 3)),p0 47 [.cv (.int .i64 1),.cv (.int .i64 0),.cv (.int .i64 2)] (.yB 3 1 [.int .i64 0] [0,1,2]),p0 48 [.cv (.func 36 [] []),.nc 47] (.call 3),p0 49 [.cv (.func 30 [] []),.nc 46,.nc 48,.cv (.int .i64 5)] (.call 3),p1 45 49,qI 50 45 0,qI 51 45 1,qI 52 45 2,p1 7 50,p1 8 51,p1 9 52]) (.seq (rA [p0 54 [.nc 1] (.zE (.str 3)),p0 55 [.cv (.int .i64 1),.cv (.int .i64 0),.cv (.int .i64 2)] (.yB 3 1 [.int .i64 0] [0,1,2]),p0 56 [.cv (.func 36 [] []),.nc 55] (.call 3),p0 57 [.cv (.func 29 [] []),.nc 54,.nc 56] (.call 3),p1 53 57,qI 58 53 0,qI 59 53 1,p1 10 58,p1 11 59]) (.seq (rA [p0 61 [.Bs 1] (.zE (.str 3)),p0 62 [.cv (.int .i64 0),.cv (.int .i64 1),.cv (.int .i64 1)] (.yB 3 1 [.int .i64 0] [0,1,2]),p0 63 [.cv (.func 36 [] []),.nc 62] (.call 3),p0 64 [.cv (.func 29 [] []),.nc 61,.nc 63] (.call 3),p1 60 64,qI 65 60 0,qI 66 60 1,p1 12 65,p1 13 66]) (p2 [p0 68 [.nc 2] (.zE (.str 3)),p0 69 [.cv (.func 12 [] []),.nc 68] (.call 3),p1 67 69,qI 70 67 0,p0 71 [.Bs 67] (.ext 1),p1 14 70,p1 15 71] (p2 [p0 73 [.nc 2] (.zE (.str 3)),p0 74 [.cv (.func 14 [] []),.nc 73] (.call 3),p1 72 74,qI 75 72 0,p0 76 [.Bs 72] (.ext 1),p1 16 75,p1 17 76] (p2 [p0 78 [.nc 3] (.zE (.str 3)),p0 79 [.cv (.func 16 [] []),.nc 78] (.call 3),p1 77 79,qI 80 77 0,p0 81 [.Bs 77] (.ext 1),p1 18 80,p1 19 81] (.seq (rA [p0 83 [.nc 2] (.zE (.str 3)),p0 84 [.cv (.int .i64 0),.cv (.int .i64 2),.cv (.int .i64 1)] (.yB 3 1 [.int .i64 0] [0,1,2]),p0 85 [.cv (.func 36 [] []),.nc 84] (.call 3),p0 86 [.cv (.func 38 [] []),.cv (.int .i64 0),.cv (.int .i64 5),.cv (.int .i64 0)] (.call 3),p0 87 [.Bs 86] (.yB 1 3 [.int .i64 0,.int .i64 0,.int .i64 0] [0]),p0 88 [.cv (.func 37 [] []),.nc 87] (.call 3),p0 89 [.cv (.func 19 [] []),.nc 83,.nc 85,.nc 88] (.call 3),p1 82 89,qI 90 82 0,qI 91 82 1,p1 20 90,p1 21 91]) (.seq (rA [p0 93 [.nc 2] (.zE (.str 3)),p0 94 [.cv (.int .i64 0),.cv (.int .i64 2),.cv (.int .i64 1)] (.yB 3 1 [.int .i64 0] [0,1,2]),p0 95 [.cv (.func 36 [] []),.nc 94] (.call 3),p0 96 [.cv (.func 38 [] []),.cv (.int .i64 2),.cv (.int .i64 1),.cv (.int .i64 0)] (.call 3),p0 97 [.Bs 96] (.yB 1 3 [.int .i64 0,.int .i64 0,.int .i64 0] [0]),p0 98 [.cv (.func 37 [] []),.nc 97] (.call 3),p0 99 [.cv (.func 19 [] []),.nc 93,.nc 95,.nc 98] (.call 3),p1 92 99,qI 100 92 0,qI 101 92 1,p1 22 100,p1 23 101]) (.seq (rA [p0 103 [.nc 2] (.zE (.str 3)),p0 104 [.cv (.int .i64 0),.cv (.int .i64 2),.cv (.int .i64 1)] (.yB 3 1 [.int .i64 0] [0,1,2]),p0 105 [.cv (.func 36 [] []),.nc 104] (.call 3),p0 106 [.cv (.func 38 [] []),.cv (.int .i64 0),.cv (.int .i64 101),.cv (.int .i64 0)] (.call 3),p0 107 [.Bs 106] (.yB 1 3 [.int .i64 0,.int .i64 0,.int .i64 0] [0]),p0 108 [.cv (.func 37 [] []),.nc 107] (.call 3),p0 109 [.cv (.func 19 [] []),.nc 103,.nc 105,.nc 108] (.call 3),p1 102 109,qI 110 102 0,qI 111 102 1,p1 24 110,p1 25 111]) (.seq (rA [p0 113 [.Bs 3] (.zE (.str 3)),p0 114 [.cv (.int .i64 1),.cv (.int .i64 0),.cv (.int .i64 2),.cv (.int .i64 3),.cv (.int .i64 4)] (.yB 5 1 [.int .i64 0] [0,1,2,3,4]),p0 115 [.cv (.func 36 [] []),.nc 114] (.call 3),p0 116 [.cv (.func 21 [] []),.nc 113,.nc 115] (.call 3),p1 112 116,qI 117 112 0,qI 118 112 1,p1 26 117,p1 27 118]) (.seq (rA [p0 120 [.nc 2] (.zE (.str 3)),p0 121 [.cv (.int .i64 0),.cv (.int .i64 2),.cv (.int .i64 1)] (.yB 3 1 [.int .i64 0] [0,1,2]),p0 122 [.cv (.func 36 [] []),.nc 121] (.call 3),p0 123 [.cv (.func 23 [] []),.nc 120,.nc 122] (.call 3),p1 119 123,qI 124 119 0,qI 125 119 1,p1 28 124,p1 29 125]) (p2 [p0 127 [.nc 2] (.zE (.str 3)),p0 128 [.cv (.func 24 [] []),.nc 127] (.call 3),p1 126 128,qI 129 126 0,p0 130 [.Bs 126] (.ext 1),p1 30 129,p1 31 130] (.seq (p2 [p1 131 6,qE 132 131 0 .neq,p1 133 132,cl 134 [.jq 9] 133 false .mU,cl 135 [.Bs 134,.cv (.int .i64 3)] 133 false (.bin .neq),p0 136 [.Bs 133,.cv (.bool true),.Bs 135] .pick,p1 137 136,cl 138 [.jq 11] 137 false .mU,cl 139 [.Bs 138,.cv (.int .i64 0)] 137 false (.bin .neq),p0 140 [.Bs 137,.cv (.bool true),.Bs 139] .pick,p1 141 140,cl 142 [.jq 13] 141 false .mU,cl 143 [.Bs 142,.cv (.int .i64 16)] 141 false (.bin .neq),p0 144 [.Bs 141,.cv (.bool true),.Bs 143] .pick,p1 145 144,cl 146 [.jq 15] 145 false .mU,cl 147 [.Bs 146,.cv (.int .i64 0)] 145 false (.bin .neq),p0 148 [.Bs 145,.cv (.bool true),.Bs 147] .pick,p1 149 148,cl 150 [.jq 17] 149 false .mU,cl 151 [.Bs 150,.cv (.int .i64 0)] 149 false (.bin .neq),p0 152 [.Bs 149,.cv (.bool true),.Bs 151] .pick,p1 153 152,cl 154 [.jq 19] 153 false .mU,cl 155 [.Bs 154,.cv (.int .i64 0)] 153 false (.bin .neq),p0 156 [.Bs 153,.cv (.bool true),.Bs 155] .pick,p1 157 156,cl 158 [.jq 21] 157 false .mU,cl 159 [.Bs 158,.cv (.int .i64 0)] 157 false (.bin .neq),p0 160 [.Bs 157,.cv (.bool true),.Bs 159] .pick,p1 161 160,cl 162 [.jq 23] 161 false .mU,cl 163 [.Bs 162,.cv (.int .i64 23)] 161 false (.bin .neq),p0 164 [.Bs 161,.cv (.bool true),.Bs 163] .pick,p1 165 164,cl 166 [.jq 25] 165 false .mU,cl 167 [.Bs 166,.cv (.int .i64 3)] 165 false (.bin .neq),p0 168 [.Bs 165,.cv (.bool true),.Bs 167] .pick,p1 169 168,cl 170 [.jq 27] 169 false .mU,cl 171 [.Bs 170,.cv (.int .i64 0)] 169 false (.bin .neq),p0 172 [.Bs 169,.cv (.bool true),.Bs 171] .pick,p1 173 172,cl 174 [.jq 29] 173 false .mU,cl 175 [.Bs 174,.cv (.int .i64 0)] 173 false (.bin .neq),p0 176 [.Bs 173,.cv (.bool true),.Bs 175] .pick,p1 177 176,cl 178 [.jq 31] 177 false .mU,cl 179 [.Bs 178,.cv (.int .i64 0)] 177 false (.bin .neq),p0 180 [.Bs 177,.cv (.bool true),.Bs 179] .pick] (.cond (.nc 180) (p2 [p0 0 [.cv (.bool false)] .mU] .ret) .skip)) (.seq (rA [p0 182 [.Bs 2] (.zE (.str 3)),p0 183 [.cv (.int .i64 0),.cv (.int .i64 2),.cv (.int .i64 1)] (.yB 3 1 [.int .i64 0] [0,1,2]),p0 184 [.cv (.func 36 [] []),.nc 183] (.call 3),p1 185 28,p0 186 [.cv (.func 20 [] []),.nc 182,.nc 184,.nc 185] (.call 3),p1 181 186,qI 187 181 0,qI 188 181 1,p1 32 187,p1 33 188]) (p2 [p1 189 4,qE 190 189 (-4) .eql,p1 191 190,cl 192 [.jq 5] 191 true .mU,cl 193 [.Bs 192,.cv (.int .i64 2)] 191 true (.bin .eql),p0 194 [.Bs 191,.Bs 193,.cv (.bool false)] .pick,p1 195 194,cl 196 [.jq 10] 195 true .mU,cl 197 [.Bs 196,.cv (.int .i64 9)] 195 true (.bin .eql),p0 198 [.Bs 195,.Bs 197,.cv (.bool false)] .pick,p1 199 198,cl 200 [.jq 14] 199 true .mU,cl 201 [.Bs 200,.cv (.int .i64 2)] 199 true (.bin .eql),p0 202 [.Bs 199,.Bs 201,.cv (.bool false)] .pick,p1 203 202,cl 204 [.jq 16] 203 true .mU,⟨some 205,[.cv (.int .i64 0),.cv (.int .i64 2),.cv (.int .i64 1)],some (203,true),none,.yB 3 1 [.int .i64 0] [0,1,2]⟩,⟨some 206,[.cv (.func 36 [] []),.nc 205],some (203,true),none,.call 3⟩,⟨some 207,[.cv (.func 18 [] []),.nc 204,.nc 206],some (203,true),none,.call 3⟩,p0 208 [.Bs 203,.Bs 207,.cv (.bool false)] .pick,p1 209 208,cl 210 [.jq 18] 209 true .mU,cl 211 [.Bs 210,.cv (.int .i64 8)] 209 true (.bin .eql),p0 212 [.Bs 209,.Bs 211,.cv (.bool false)] .pick,p1 213 212,cl 214 [.jq 20] 213 true .mU,cl 215 [.Bs 214,.cv (.int .i64 1)] 213 true (.bin .eql),p0 216 [.Bs 213,.Bs 215,.cv (.bool false)] .pick,p1 217 216,cl 218 [.jq 26] 217 true .mU,cl 219 [.Bs 218,.cv (.int .i64 2)] 217 true (.bin .eql),p0 220 [.Bs 217,.Bs 219,.cv (.bool false)] .pick,p1 221 220,cl 222 [.jq 33] 221 true .mU,cl 223 [.Bs 222,.cv (.int .i64 0)] 221 true (.bin .eql),p0 224 [.Bs 221,.Bs 223,.cv (.bool false)] .pick,p1 225 224,cl 226 [.jq 32] 225 true .mU,cl 227 [.Bs 226,.cv (.int .i64 1)] 225 true (.bin .eql),p0 228 [.Bs 225,.Bs 227,.cv (.bool false)] .pick,p1 229 228,cl 230 [.jq 30] 229 true .mU,⟨some 231,[.cv (.int .i64 0),.cv (.int .i64 1),.cv (.int .i64 2)],some (229,true),none,.yB 3 1 [.int .i64 0] [0,1,2]⟩,⟨some 232,[.cv (.func 36 [] []),.nc 231],some (229,true),none,.call 3⟩,⟨some 233,[.cv (.func 18 [] []),.nc 230,.nc 232],some (229,true),none,.call 3⟩,p0 234 [.Bs 229,.Bs 233,.cv (.bool false)] .pick,p1 0 234] .ret)))))))))))))))))
theorem aeM:qt Tryz.prog Uk 11=some (Z3,235,[.tmp 0]):=by kernel_rfl
def H0  : Option Bool :=
 (Qy).bind fun aS =>
 (Qz).bind fun bj =>
 (QA).bind fun eK =>
 (IL [(1:Int),(0:Int),(2:Int),(3:Int),(4:Int)]).bind fun qW =>
 (JI eK qW (0:Int)).bind fun q8 =>
 (IL [(1:Int),(0:Int),(2:Int)]).bind fun r5 =>
 (JI aS r5 (5:Int)).bind fun H7 =>
 (IL [(1:Int),(0:Int),(2:Int)]).bind fun Hp =>
 (I4 aS Hp).bind fun HZ =>
 (IL [(0:Int),(1:Int),(1:Int)]).bind fun Iw =>
 (I4 aS Iw).bind fun I3 =>
 (Lw bj).bind fun Js =>
 (K6 bj).bind fun Kw =>
 (MI eK).bind fun Lq =>
 (IL [(0:Int),(2:Int),(1:Int)]).bind fun Mv =>
 (NZ (0:Int) (5:Int) (0:Int)).bind fun J_ =>
 (NY [J_]).bind fun J' =>
 (Kh bj Mv J').bind fun IJ =>
 (IL [(0:Int),(2:Int),(1:Int)]).bind fun Ox =>
 (NZ (2:Int) (1:Int) (0:Int)).bind fun Oy =>
 (NY [Oy]).bind fun Mw =>
 (Kh bj Ox Mw).bind fun Oz =>
 (IL [(0:Int),(2:Int),(1:Int)]).bind fun Mx =>
 (NZ (0:Int) (101:Int) (0:Int)).bind fun NA =>
 (NY [NA]).bind fun PT =>
 (Kh bj Mx PT).bind fun PU =>
 (IL [(1:Int),(0:Int),(2:Int),(3:Int),(4:Int)]).bind fun PV =>
 (NS eK PV).bind fun OA =>
 (IL [(0:Int),(2:Int),(1:Int)]).bind fun PW =>
 (Ly bj PW).bind fun OB =>
 (NT bj).bind fun OC =>
 if (decide (q8.2.2≠(0:Int)))=true then
  some false
 else
  if (decide (H7.2.2≠(3:Int)))=true then
   some false
  else
   if (decide (HZ.2≠(0:Int)))=true then
    some false
   else
    if (decide (I3.2≠(16:Int)))=true then
     some false
    else
     if (decide (Js.2≠(0:Int)))=true then
      some false
     else
      if (decide (Kw.2≠(0:Int)))=true then
       some false
      else
       if (decide (Lq.2≠(0:Int)))=true then
        some false
       else
        if (decide (IJ.2≠(0:Int)))=true then
         some false
        else
         if (decide (Oz.2≠(23:Int)))=true then
          some false
         else
          if (decide (PU.2≠(3:Int)))=true then
           some false
          else
           if (decide (OA.2≠(0:Int)))=true then
            some false
           else
            if (decide (OB.2≠(0:Int)))=true then
             some false
            else
             if (decide (OC.2≠(0:Int)))=true then
              some false
             else
              (IL [(0:Int),(2:Int),(1:Int)]).bind fun PX =>
              (Lx bj PX OB.1).bind fun OD =>
              if (decide (q8.1=(-4:Int)))=true then
               if (decide (q8.2.1=(2:Int)))=true then
                if (decide (HZ.1=(9:Int)))=true then
                 if (decide (Js.1=(2:Int)))=true then
                  (IL [(0:Int),(2:Int),(1:Int)]).bind fun NB =>
                  (MJ Kw.1 NB).bind fun OE =>
                  if OE=true then
                   if (decide (Lq.1=(8:Int)))=true then
                    if (decide (IJ.1=(1:Int)))=true then
                     if (decide (OA.1=(2:Int)))=true then
                      if (decide (OD.2=(0:Int)))=true then
                       if (decide (OD.1=(1:Int)))=true then
                        (IL [(0:Int),(1:Int),(2:Int)]).bind fun PY =>
                        (MJ OC.1 PY).bind fun Xp =>
                        some Xp
                       else
                        some false
                      else
                       some false
                     else
                      some false
                    else
                     some false
                   else
                    some false
                  else
                   some false
                 else
                  some false
                else
                 some false
               else
                some false
              else
               some false
theorem Iz  {v:Bool} (h:H0  = some v):qB 11 [] (B v):=by
 refine qR eG aeM rfl rfl fun Q bp=>?_;have jJ:qK [.tmp 0] Q (fun v=>(B v)) v:=fun T H bE=>bp _ T H bE;unfold H0 at h;unfold Z3;conv=>whnf
 obtain ⟨aS,gM,h⟩:=p9 h;refine ⟨rfl,_,aiF gM,?_⟩;conv=>whnf
 obtain ⟨bj,gN,h⟩:=p9 h;refine ⟨rfl,_,aiH gN,?_⟩;conv=>whnf
 obtain ⟨eK,qx,h⟩:=p9 h;refine ⟨rfl,_,aiJ qx,?_⟩;conv=>whnf
 obtain ⟨qW,qQ,h⟩:=p9 h;refine ⟨(p5 rfl rfl),_,JJ qQ,Hj,?_⟩;conv=>whnf
 obtain ⟨q8,qA,h⟩:=p9 h;refine ⟨qa.pl,_,Hw qA,Ir rfl,?_⟩;conv=>whnf
 obtain ⟨r5,q5,h⟩:=p9 h;refine ⟨(p5 rfl rfl),_,JJ q5,Hj,?_⟩;conv=>whnf
 obtain ⟨H7,qP,h⟩:=p9 h;refine ⟨qa.pl,_,Hw qP,Ir rfl,?_⟩;conv=>whnf
 obtain ⟨Hp,qT,h⟩:=p9 h;refine ⟨(p5 rfl rfl),_,JJ qT,Hj,?_⟩;conv=>whnf
 obtain ⟨HZ,qN,h⟩:=p9 h;refine ⟨qa.pl,_,KB qN,Ir rfl,?_⟩;conv=>whnf
 obtain ⟨Iw,r3,h⟩:=p9 h;refine ⟨(p5 rfl rfl),_,JJ r3,Hj,?_⟩;conv=>whnf
 obtain ⟨I3,IX,h⟩:=p9 h;refine ⟨qa.pl,_,KB IX,Ir rfl,?_⟩;conv=>whnf
 obtain ⟨Js,I',h⟩:=p9 h;refine ⟨qa.pl,_,Zi I',?_⟩;conv=>whnf
 obtain ⟨Kw,Iu,h⟩:=p9 h;refine ⟨qa.pl,_,Tx Iu,?_⟩;conv=>whnf
 obtain ⟨Lq,Ja,h⟩:=p9 h;refine ⟨qa.pl,_,ais Ja,?_⟩;conv=>whnf
 obtain ⟨Mv,Jb,h⟩:=p9 h;refine ⟨(p5 rfl rfl),_,JJ Jb,Hj,?_⟩;conv=>whnf
 obtain ⟨J_,Jc,h⟩:=p9 h;refine ⟨(p5 rfl (p5 rfl (p5 rfl rfl))),_,TF Jc,Ir rfl,?_⟩;conv=>whnf
 obtain ⟨J',KK,h⟩:=p9 h;refine ⟨(p5 rfl rfl),_,TE KK,Ir rfl,?_⟩;conv=>whnf
 obtain ⟨IJ,Jd,h⟩:=p9 h;refine ⟨qa.pl,_,TB Jd,Ir rfl,?_⟩;conv=>whnf
 obtain ⟨Ox,KL,h⟩:=p9 h;refine ⟨(p5 rfl rfl),_,JJ KL,Hj,?_⟩;conv=>whnf
 obtain ⟨Oy,KM,h⟩:=p9 h;refine ⟨(p5 rfl (p5 rfl (p5 rfl rfl))),_,TF KM,Ir rfl,?_⟩;conv=>whnf
 obtain ⟨Mw,L1,h⟩:=p9 h;refine ⟨(p5 rfl rfl),_,TE L1,Ir rfl,?_⟩;conv=>whnf
 obtain ⟨Oz,JT,h⟩:=p9 h;refine ⟨qa.pl,_,TB JT,Ir rfl,?_⟩;conv=>whnf
 obtain ⟨Mx,JU,h⟩:=p9 h;refine ⟨(p5 rfl rfl),_,JJ JU,Hj,?_⟩;conv=>whnf
 obtain ⟨NA,Je,h⟩:=p9 h;refine ⟨(p5 rfl (p5 rfl (p5 rfl rfl))),_,TF Je,Ir rfl,?_⟩;conv=>whnf
 obtain ⟨PT,Jf,h⟩:=p9 h;refine ⟨(p5 rfl rfl),_,TE Jf,Ir rfl,?_⟩;conv=>whnf
 obtain ⟨PU,Jg,h⟩:=p9 h;refine ⟨qa.pl,_,TB Jg,Ir rfl,?_⟩;conv=>whnf
 obtain ⟨PV,KN,h⟩:=p9 h;refine ⟨(p5 rfl rfl),_,JJ KN,Hj,?_⟩;conv=>whnf
 obtain ⟨OA,L2,h⟩:=p9 h;refine ⟨qa.pl,_,aiy L2,Ir rfl,?_⟩;conv=>whnf
 obtain ⟨PW,L3,h⟩:=p9 h;refine ⟨(p5 rfl rfl),_,JJ L3,Hj,?_⟩;conv=>whnf
 obtain ⟨OB,JV,h⟩:=p9 h;refine ⟨qa.pl,_,Zm JV,Ir rfl,?_⟩;conv=>whnf
 obtain ⟨OC,JW,h⟩:=p9 h;refine ⟨qa.pl,_,aiB JW,?_⟩;conv=>whnf
 refine bs h (fun Jh h=>?_) fun Jh h=>?_
 ·rw [Jh];conv=>whnf
  exact p8 h jJ rfl rfl
 ·rw [Jh];conv=>whnf
  refine bs h (fun Ji h=>?_) fun Ji h=>?_
  ·rw [Ji];(conv=>whnf);exact p8 h jJ rfl rfl
  ·rw [Ji];(conv=>whnf);refine bs h (fun Jj h=>?_) fun Jj h=>?_
   ·rw [Jj];(conv=>whnf);exact p8 h jJ rfl rfl
   ·rw [Jj];(conv=>whnf);refine bs h (fun JX h=>?_) fun JX h=>?_
    ·rw [JX];(conv=>whnf);exact p8 h jJ rfl rfl
    ·rw [JX];(conv=>whnf);refine bs h (fun JY h=>?_) fun JY h=>?_
     ·rw [JY];(conv=>whnf);exact p8 h jJ rfl rfl
     ·rw [JY];(conv=>whnf);refine bs h (fun JZ h=>?_) fun JZ h=>?_
      ·rw [JZ];(conv=>whnf);exact p8 h jJ rfl rfl
      ·rw [JZ];(conv=>whnf);refine bs h (fun J0 h=>?_) fun J0 h=>?_
       ·rw [J0];(conv=>whnf);exact p8 h jJ rfl rfl
       ·rw [J0];(conv=>whnf);refine bs h (fun J1 h=>?_) fun J1 h=>?_
        ·rw [J1];(conv=>whnf);exact p8 h jJ rfl rfl
        ·rw [J1];(conv=>whnf);refine bs h (fun IF h=>?_) fun IF h=>?_
         ·rw [IF];(conv=>whnf);exact p8 h jJ rfl rfl
         ·rw [IF];(conv=>whnf);refine bs h (fun Jk h=>?_) fun Jk h=>?_
          ·rw [Jk];(conv=>whnf);exact p8 h jJ rfl rfl
          ·rw [Jk];(conv=>whnf);refine bs h (fun KO h=>?_) fun KO h=>?_
           ·rw [KO];(conv=>whnf);exact p8 h jJ rfl rfl
           ·rw [KO];(conv=>whnf);refine bs h (fun Jl h=>?_) fun Jl h=>?_
            ·rw [Jl];(conv=>whnf);exact p8 h jJ rfl rfl
            ·rw [Jl];(conv=>whnf);refine bs h (fun J2 h=>?_) fun J2 h=>?_
             ·rw [J2];(conv=>whnf);exact p8 h jJ rfl rfl
             ·rw [J2];(conv=>whnf);obtain ⟨PX,Jm,h⟩:=p9 h;refine ⟨(p5 rfl rfl),_,JJ Jm,Hj,?_⟩;(conv=>whnf);obtain ⟨OD,KP,h⟩:=p9 h;refine ⟨qa.pl,_,aix KP,Ir rfl,?_⟩;(conv=>whnf);refine bs h (fun J3 h=>?_) fun J3 h=>?_
              ·rw [J3];(conv=>whnf);refine bs h (fun KQ h=>?_) fun KQ h=>?_
               ·rw [KQ];(conv=>whnf);refine bs h (fun Jn h=>?_) fun Jn h=>?_
                ·rw [Jn];(conv=>whnf);refine bs h (fun Jo h=>?_) fun Jo h=>?_
                 ·rw [Jo];(conv=>whnf);obtain ⟨NB,KR,h⟩:=p9 h;refine ⟨(p5 rfl rfl),_,JJ KR,?_⟩;(conv=>whnf);obtain ⟨OE,KS,h⟩:=p9 h;refine ⟨qa.pl,_,Zk KS,?_⟩;(conv=>whnf);cases OE
                  ·(conv=>whnf);replace h:=rr rfl h;exact p8 h jJ rfl rfl
                  ·(conv=>whnf);replace h:=rq rfl h;refine bs h (fun J4 h=>?_) fun J4 h=>?_
                   ·rw [J4];(conv=>whnf);refine bs h (fun L4 h=>?_) fun L4 h=>?_
                    ·rw [L4];(conv=>whnf);refine bs h (fun L5 h=>?_) fun L5 h=>?_
                     ·rw [L5];(conv=>whnf);refine bs h (fun L6 h=>?_) fun L6 h=>?_
                      ·rw [L6];(conv=>whnf);refine bs h (fun J5 h=>?_) fun J5 h=>?_
                       ·rw [J5];(conv=>whnf);obtain ⟨PY,KT,h⟩:=p9 h;refine ⟨(p5 rfl rfl),_,JJ KT,?_⟩;(conv=>whnf);obtain ⟨Xp,KU,h⟩:=p9 h;refine ⟨qa.pl,_,Zk KU,?_⟩;(conv=>whnf);exact p8 h jJ rfl rfl
                       ·rw [J5];(conv=>whnf);exact p8 h jJ rfl rfl
                      ·rw [L6];(conv=>whnf);exact p8 h jJ rfl rfl
                     ·rw [L5];(conv=>whnf);exact p8 h jJ rfl rfl
                    ·rw [L4];(conv=>whnf);exact p8 h jJ rfl rfl
                   ·rw [J4];(conv=>whnf);exact p8 h jJ rfl rfl
                 ·rw [Jo];(conv=>whnf);exact p8 h jJ rfl rfl
                ·rw [Jn];(conv=>whnf);exact p8 h jJ rfl rfl
               ·rw [KQ];(conv=>whnf);exact p8 h jJ rfl rfl
              ·rw [J3];(conv=>whnf);exact p8 h jJ rfl rfl
end Go.Proofs.YtkoioidpbbbaiaaGreat.Ab


namespace Go.Proofs.YtkoioidpbbbaiaaGreat.Ab
open Go
set_option maxRecDepth 20000
set_option maxHeartbeats 1000000
def PQ:qf:=([(10,1),(5,0),(10,1)],(0,4))
def HY:qf:=([(3,0),(5,0),(8,0)],(0,0))
def Nn:qf:=([(4,0),(6,0),(1,0),(6,0),(4,0)],(0,9))
theorem aiE:Qy=some PQ:=by decide +kernel
theorem aiG:Qz=some HY:=by decide +kernel
theorem aiI:QA=some Nn:=by decide +kernel
theorem aif:JI Nn [1,0,2,3,4] 0=some (-4,2,0):=by
 rw [TC (by decide) (by decide)];decide +kernel
theorem aih:JI PQ [1,0,2] 5=some (0,0,3):=by
 rw [TC (by decide) (by decide)];decide +kernel
theorem aid:I4 PQ [1,0,2]=some (9,0):=by
 rw [Qw (by decide) (by decide)];decide +kernel
theorem aie:I4 PQ [0,1,1]=some (0,16):=by
 rw [Qw (by decide) (by decide)];decide +kernel
theorem ah3:Lw HY=some (2,0):=by
 rw [Zh (by decide)];decide +kernel
theorem ah4:K6 HY=some ([0,2,1],0):=by
 rw [Tw (by decide)];decide +kernel
theorem ah5:MI Nn=some (8,0):=by
 rw [air (by decide)];decide +kernel
theorem ah8:Kh HY [0,2,1] [(0,(5,0))]=some (1,0):=by
 rw [TA (by decide) (by decide) (by decide)];decide +kernel
theorem ah9:Kh HY [0,2,1] [(2,(1,0))]=some (0,23):=by
 rw [TA (by decide) (by decide) (by decide)];decide +kernel
theorem ah_:Kh HY [0,2,1] [(0,(101,0))]=some (0,3):=by
 rw [TA (by decide) (by decide) (by decide)];decide +kernel
theorem RD {p:qf} {o:List Int} {a i t:Nat} (ab:¬ ID p o a) (ae:i<o.length) (aF:i % 2=a) (ba:t<2121) (bP:JB p o a i (JH t)):JA p o a=1:=by
 unfold JA;rw [if_neg ab,if_pos ⟨i,ae,aF,t,ba,bP⟩]
theorem acI {p:qf} {o:List Int} {a:Nat} (ab:ID p o a):JA p o a=0:=by
 unfold JA;rw [if_pos ab]
theorem aia:NS Nn [1,0,2,3,4]=some (2,0):=by
 unfold NS;obtain ⟨l,ab,ae⟩:=Zl (p:=Nn) (o:=[1,0,2,3,4]) (by decide) (by decide);have HM:r4 Nn [1,0,2,3,4]=0:=by decide +kernel
 rw [if_pos HM] at ab;rw [ab,sb,(ae HM).1];rw [RD (i:=0) (t:=1014) (by decide +kernel) (by decide) (by decide) (by decide) (by decide +kernel),RD (i:=1) (t:=1016) (by decide +kernel) (by decide) (by decide) (by decide) (by decide +kernel)];rfl
theorem aib:∃ l,Ly HY [0,2,1]=some (l,0)∧Lx HY [0,2,1] l=some (1,0):=by
 obtain ⟨l,ab,ae⟩:=Zl (p:=HY) (o:=[0,2,1]) (by decide) (by decide);have HM:r4 HY [0,2,1]=0:=by decide +kernel
 rw [if_pos HM] at ab;obtain ⟨aF,ba,bP⟩:=ae HM;have ao:l.length=1:=by
  rw [aF,RD (i:=0) (t:=1015) (by decide +kernel) (by decide) (by decide) (by decide) (by decide +kernel),acI (by decide +kernel)]
 refine ⟨l,ab,?_⟩;rw [aiv (by decide) (by decide) (by omega),if_pos HM,if_pos ba,if_neg (by omega),ao];rfl
theorem aic:NT HY=some ([0,1,2],0):=by
 have af:∀ (s t:Nat) (o:List Int),qu 3 o→s=(ix o 0).toNat→t<2121→JB HY o 0 0 (JH t)→ID HY o 1→o.length=3→Ia HY s=true:=fun s t o ab ae aF ba bP bQ =>
  Va.2 ⟨o,ab,0,by omega,ae,by
   unfold C9;rw [sq,decide_eq_true_eq,decide_eq_true_eq]
   exact ⟨bP,t,aF,ba⟩⟩
 have de:Ia HY 0=true:=af 0 1018 [0,1,2] (by decide) (by decide) (by decide) (by decide +kernel) (by decide +kernel) rfl;have bm:Ia HY 1=true:=af 1 1018 [1,0,2] (by decide) (by decide) (by decide) (by decide +kernel) (by decide +kernel) rfl;have cw:Ia HY 2=true:=af 2 1015 [2,0,1] (by decide) (by decide) (by decide) (by decide +kernel) (by decide +kernel) rfl;have e:M9 HY=[0,1,2]:=by
  unfold M9;show List.filter (fun s:Int=>Ia HY s.toNat) [0,1,2]=[0,1,2];refine List.filter_eq_self.2 fun s ah=>?_;simp only [sB,List.not_mem_nil,or_false] at ah;rcases ah with rfl | rfl | rfl
  ·exact de
  ·exact bm
  ·exact cw
 rw [aiA (by decide),e,if_pos (by decide +kernel)]
theorem ah6:MJ [0,2,1] [0,2,1]=some true:=by decide +kernel
theorem ah7:MJ [0,1,2] [0,1,2]=some true:=by decide +kernel
theorem works:H0=some true:=by
 obtain ⟨l,ab,ae⟩:=aib;unfold H0;simp only [aiE,aiG,aiI,IL,NY,NZ,sb,aif,aih,aid,aie,ah3,ah4,ah5,ah8,ah9,ah_,aia,aic,ab,ae,ah6,ah7];simp only [decide_eq_true_eq,ne_eq,not_true_eq_false,if_false,if_true]
end Go.Proofs.YtkoioidpbbbaiaaGreat.Ab


namespace Go.Proofs.YtkoioidpbbbaiaaGreat.Ab
open Go
set_option maxRecDepth 20000
set_option maxHeartbeats 4000000
noncomputable def ZZ:gE :=
 p2 [p0 1 [.jq 0] .box,p0 2 [.cv (.bool false)] .mU] (p2 [qz 3 1 0,qi 4 3,q3 5 4,qE 6 5 10 .gtr,p1 2 6] .ret)
theorem aeI:qt Tryz.prog Uh 10=some (ZZ,7,[.tmp 2]):=by kernel_rfl
def NR (p:(qd×(Int×Int))):Option Bool :=
 some (decide ((10:Int)<(p.1.length:Int)))
theorem aip {p:(qd×(Int×Int))} {v:Bool} (h:NR p=some v):qB 10 [(.agg [(.av (p.1.flatMap p7) p.1.length .shared),(h0 p.2.1),(h0 p.2.2)])] (B v):=by
 refine qR eG aeI rfl rfl fun Q bp=>?_;have jJ:qK [.tmp 2] Q (fun v=>(B v)) v:=fun T H bE=>bp _ T H bE;unfold NR at h;unfold ZZ;conv=>whnf
 exact p8 h jJ rfl rfl

def Gy (p:(qd×(Int×Int))):Option Bool :=
 (NR p).bind fun aS =>
 if aS=true then
  (H0).bind fun bj =>
  some bj
 else
  (Lw p).bind fun eK =>
  (aiq p).bind fun qW =>
  (K6 p).bind fun q8 =>
  (Zj p).bind fun r5 =>
  (MI p).bind fun H7 =>
  (ait p).bind fun Hp =>
  if (decide (eK.1=qW.1))=true then
   if (decide (eK.2=qW.2))=true then
    (MJ q8.1 r5.1).bind fun HZ =>
    if HZ=true then
     if (decide (q8.2=r5.2))=true then
      if (decide (H7.1=Hp.1))=true then
       if (decide (H7.2=Hp.2))=true then
        (H0).bind fun Iw =>
        some Iw
       else
        some false
      else
       some false
     else
      some false
    else
     some false
   else
    some false
  else
   some false

def Zu (p:(qd×(Int×Int))) (order:p_) (l:(List (Int×(Int×Int)))):Option Bool :=
 (NR p).bind fun aS =>
 if aS=true then
  (H0).bind fun bj =>
  some bj
 else
  if (decide ((10:Int)<(order.length:Int)))=true then
   (H0).bind fun eK =>
   some eK
  else
   if (decide ((10:Int)<(l.length:Int)))=true then
    (H0).bind fun qW =>
    some qW
   else
    (Kh p order l).bind fun q8 =>
    (Lx p order l).bind fun r5 =>
    (NS p order).bind fun H7 =>
    (aiz p order).bind fun Hp =>
    (Ly p order).bind fun HZ =>
    if (decide (q8.1≠r5.1))=true then
     some false
    else
     if (decide (q8.2≠r5.2))=true then
      some false
     else
      if (decide (H7.1≠Hp.1))=true then
       some false
      else
       if (decide (H7.2≠Hp.2))=true then
        some false
       else
        if (decide (HZ.2≠Hp.2))=true then
         some false
        else
         if (decide ((10:Int)<(HZ.1.length:Int)))=true then
          some false
         else
          if (decide (Hp.2≠(0:Int)))=true then
           if (decide ((HZ.1.length:Int)=(0:Int)))=true then
            (H0).bind fun Iw =>
            some Iw
           else
            some false
          else
           (Lx p order HZ.1).bind fun I3 =>
           if (decide (I3.2=(0:Int)))=true then
            if (decide (I3.1=Hp.1))=true then
             (H0).bind fun Js =>
             some Js
            else
             some false
           else
            some false

end Go.Proofs.YtkoioidpbbbaiaaGreat.Ab


namespace Go.Proofs.YtkoioidpbbbaiaaGreat.Ab
open Go
set_option maxRecDepth 20000
set_option maxHeartbeats 1000000
abbrev Xd (p:qf):I:=.agg [.av (p.1.flatMap p7) p.1.length .shared,h0 p.2.1,h0 p.2.2]
end Go.Proofs.YtkoioidpbbbaiaaGreat.Ab


namespace Go.Proofs.YtkoioidpbbbaiaaGreat.Ab
open Go
set_option maxRecDepth 20000
set_option maxHeartbeats 4000000
noncomputable def Z8:gE :=
 p2 [p0 1 [.jq 0] .box,p0 2 [.cv (.bool false)] .mU] (p2 [p0 3 [.nc 1] (.zE (.str 3)),p0 4 [.cv (.func 10 [] []),.nc 3] (.call 3),p0 5 [.Bs 4] (.un .not),p1 6 5,cl 7 [.Bs 1] 6 true (.zE (.str 3)),⟨some 8,[.cv (.func 46 [] []),.nc 7],some (6,true),none,.call 3⟩,cl 9 [.Bs 8,.cv (.int .i64 0)] 6 true (.bin .eql),p0 10 [.Bs 6,.Bs 9,.cv (.bool false)] .pick,p1 2 10] .ret)
theorem aeR:qt Tryz.prog Us 26=some (Z8,11,[.tmp 2]):=by kernel_rfl
def K8 (p:(qd×(Int×Int))):Option Bool :=
 (NR p).bind fun aS =>
 if aS=true then
  some false
 else
  (Ki p).bind fun bj =>
  some (decide (bj=(0:Int)))
theorem IA {p:(qd×(Int×Int))} {v:Bool} (h:K8 p=some v):qB 26 [(.agg [(.av (p.1.flatMap p7) p.1.length .shared),(h0 p.2.1),(h0 p.2.2)])] (B v):=by
 refine qR eG aeR rfl rfl fun Q bp=>?_;have jJ:qK [.tmp 2] Q (fun v=>(B v)) v:=fun T H bE=>bp _ T H bE;unfold K8 at h;unfold Z8;conv=>whnf
 obtain ⟨aS,gM,h⟩:=p9 h;refine ⟨qa.pl,_,aip gM,?_⟩;conv=>whnf
 cases aS
 ·conv=>whnf
  replace h:=rr rfl h;obtain ⟨bj,gN,h⟩:=p9 h;refine ⟨qa.pl,_,TJ gN,?_⟩;conv=>whnf
  exact p8 h jJ rfl rfl
 ·conv=>whnf
  replace h:=rq rfl h;exact p8 h jJ rfl rfl

noncomputable def Q1:gE :=
 .loop (some (qc false [0,2,3,1,32])) (.seq (p2 [p3 10 5,p3 11 1,qn 12 10 11 .lss] (.cond (.nc 12) .skip (.exit 0))) (.seq (.block 1 (.seq (rA [p3 15 0,p3 16 5,rv 17 15 16 1,qi 18 17,qE 19 18 0 .lss,p1 20 19,cl 21 [.nc 0] 20 false .mU,cl 22 [.nc 5] 20 false .mU,cl 23 [.Bs 21,.Bs 22] 20 false (.kY 1),cl 24 [.Bs 23] 20 false (.zE .one),cl 25 [.nc 1] 20 false .mU,cl 26 [.Bs 24,.Bs 25] 20 false (.bin .geq),p0 27 [.nc 20,.cv (.bool true),.Bs 26] .pick,p1 28 27,cl 29 [.nc 0] 28 false .mU,cl 30 [.nc 5] 28 false .mU,⟨some 31,[.jq 29,.jq 30],some (28,false),none,.Bh 1 false true false⟩,cl 32 [.nc 0] 28 false .mU,cl 33 [.nc 5] 28 false .mU,cl 34 [.Bs 32,.Bs 33] 28 false (.kY 1),cl 35 [.Bs 34] 28 false (.zE .one),⟨some 36,[.cv (.func 72 [] []),.nc 31,.nc 35],some (28,false),none,.call 3⟩,p0 37 [.nc 28,.cv (.bool true),.Bs 36] .pick]) (.cond (.nc 37) (p2 [p0 4 [.cv (.bool false)] .mU] .ret) .skip))) (qV [p1 13 5,q2 14 13 1,p1 5 14])))
noncomputable def aar:gE :=
 p2 [p0 4 [.cv (.bool false)] .mU] (.seq (p2 [p3 6 0,q3 7 6,p3 8 1,qn 9 7 8 .neq] (.cond (.nc 9) (p2 [p0 4 [.cv (.bool false)] .mU] .ret) .skip)) (.seq (p2 [qh 5 0] (.block 0 Q1)) (p2 [p0 4 [.cv (.bool true)] .mU] .ret)))
theorem afb:qt Tryz.prog Rk 62=some (aar,38,[.tmp 4]):=by kernel_rfl
def MS (l:p_) (rK:Int) (p':Unit→Option Bool):Nat→Int→Option Bool
 | 0,_=>none
 | m+1,s1 =>
   if (decide (s1<rK))=true then
    qk (0≤s1∧s1<(l.length:Int)) <|
    if (decide ((ix l s1)<(0:Int)))=true then
     some false
    else
     qk (0≤s1∧s1<(l.length:Int)) <|
     if (decide (rK≤(ix l s1)))=true then
      some false
     else
      qk (0≤s1∧s1≤(l.length:Int)) <|
      qk (0≤s1∧s1<(l.length:Int)) <|
      (MU (l.take s1.toNat) (ix l s1)).bind fun aS =>
      if aS=true then
       some false
      else
       MS l rK p' m (w (s1+(1:Int)))
   else
    p' ()
def O' (l:p_) (rK:Int):Option Bool :=
 if (decide ((l.length:Int)≠rK))=true then
  some false
 else
  MS l rK (fun _ =>
    some true) qj (0:Int)
theorem ai4 {l:p_} {rK:Int} {p':Unit→Option Bool} {s1:Int} {v:Bool} {Q:r1}   (jJ:qK [.tmp 4] Q (fun v=>(B v)) v) (rn:∀ (qb:List I),p' ()=some v→ra 38 [] qb→Q (.exit 0) qb []) {T:List I} (b0:eZ (qc false [0,2,3,1,32]) T=qe 38 [(0,(qS l .shared)),(1,(h0 rK)),(5,(h0 s1))]) (h:MS l rK p' qj s1=some v) :
  dQ Tryz.prog Rk 62 0 none Q1 T [] Q:=by
 unfold Q1;refine wp_loop b0 ?_;refine .intro (fun m T H=>∃ (s1:Int),T=qe 38 [(0,(qS l .shared)),(1,(h0 rK)),(5,(h0 s1))]∧H=[]∧MS l rK p' m s1=some v) qj ⟨s1,rfl,rfl,h⟩ ?_;clear h b0;rintro m T H ⟨s1,rfl,rfl,h⟩;cases m
 ·exact r0 h
 rename_i m;rw [MS.eq_2] at h;conv=>whnf
 refine bs h (fun gN h=>?_) fun gN h=>?_
 ·rw [gN];conv=>whnf
  refine qD h id fun qx h=>?_;rw [rG h0 l s1 qx];conv=>whnf
  refine bs h (fun qQ h=>?_) fun qQ h=>?_
  ·rw [qQ];(conv=>whnf);exact p8 h jJ rfl rfl
  ·rw [qQ];(conv=>whnf);refine qD h id fun qA h=>?_;rw [rG h0 l s1 qA];(conv=>whnf);refine bs h (fun q5 h=>?_) fun q5 h=>?_
   ·rw [q5];(conv=>whnf);exact p8 h jJ rfl rfl
   ·rw [q5];(conv=>whnf);refine qD h id fun qP h=>?_;erw [Tn h0 l s1 qP];(conv=>whnf);refine qD h id fun qT h=>?_;rw [rG h0 l s1 qT];(conv=>whnf);obtain ⟨aS,qN,h⟩:=p9 h;refine ⟨qa.pl,_,ZR qN,Hj,?_⟩;(conv=>whnf);cases aS
    ·(conv=>whnf);replace h:=rr rfl h;exact ⟨m,sv m,(w (s1+(1:Int))),rfl,rfl,h⟩
    ·(conv=>whnf);replace h:=rq rfl h;exact p8 h jJ rfl rfl
 ·rw [gN];conv=>whnf
  exact rn  _ h ⟨rfl,rfl⟩
theorem ai5 {l:p_} {rK:Int} {v:Bool} (h:O' l rK=some v):qB 62 [(.av (l.map h0) l.length .shared),(h0 rK)] (B v):=by
 refine qR eG afb rfl rfl fun Q bp=>?_;have jJ:qK [.tmp 4] Q (fun v=>(B v)) v:=fun T H bE=>bp _ T H bE;unfold O' at h;unfold aar;obtain ⟨HK,qJ⟩:∃ c,Q1=c:=⟨_,rfl⟩;rw [qJ];conv=>whnf
 refine bs h (fun gM h=>?_) fun gM h=>?_
 ·rw [gM];conv=>whnf
  exact p8 h jJ rfl rfl
 ·rw [gM];conv=>whnf
  subst qJ;refine ai4 ?_ ?_ (by exact rfl) h
  ·exact fun T H bE=>jJ T H bE
  ·intro  qb h qo;obtain ⟨re,rfl⟩:=qo.ex;(conv=>whnf);exact p8 h jJ rfl rfl

noncomputable def Z9:gE :=
 p2 [p0 1 [.jq 0] .box,qh 2 0,p0 3 [.cv (.bool false)] .mU] (p2 [p0 11 [.nc 1] (.zE (.str 3)),p0 12 [.cv (.func 12 [] []),.nc 11] (.call 3),p1 10 12,qI 13 10 0,p0 14 [.Bs 10] (.ext 1),p1 4 13,p1 5 14] (p2 [p0 16 [.nc 1] (.zE (.str 3)),p0 17 [.cv (.func 14 [] []),.nc 16] (.call 3),p1 15 17,qI 18 15 0,p0 19 [.Bs 15] (.ext 1),p1 6 18,p1 7 19] (.seq (p2 [p1 20 5,qE 21 20 0 .neq,p1 22 21,cl 23 [.jq 7] 22 false .mU,cl 24 [.Bs 23,.cv (.int .i64 0)] 22 false (.bin .neq),p0 25 [.Bs 22,.cv (.bool true),.Bs 24] .pick,p1 26 25,cl 27 [.nc 6] 26 false .mU,cl 28 [.nc 1] 26 false (.yM 0),cl 29 [.Bs 28] 26 false (.zE .one),cl 30 [.jq 29] 26 false .zJ,⟨some 31,[.cv (.func 62 [] []),.nc 27,.nc 30],some (26,false),none,.call 3⟩,cl 32 [.Bs 31] 26 false (.un .not),p0 33 [.Bs 26,.cv (.bool true),.Bs 32] .pick] (.cond (.nc 33) (p2 [p1 34 4,p1 2 34,p0 3 [.cv (.bool false)] .mU] .ret) .skip)) (p2 [p0 36 [.nc 1] (.zE (.str 3)),p3 37 6,p0 38 [.cv (.func 29 [] []),.nc 36,.nc 37] (.call 3),p1 35 38,qI 39 35 0,p0 40 [.Bs 35] (.ext 1),p1 8 39,p1 9 40] (p2 [p3 41 4,p1 42 9,qE 43 42 0 .eql,p1 44 43,cl 45 [.jq 8] 44 true .mU,cl 46 [.nc 4] 44 true .mU,cl 47 [.Bs 45,.Bs 46] 44 true (.bin .eql),p0 48 [.Bs 44,.Bs 47,.cv (.bool false)] .pick,p1 49 48,cl 50 [.Bs 1] 49 true (.zE (.str 3)),cl 51 [.jq 6] 49 true .mU,⟨some 52,[.cv (.func 39 [] []),.nc 50,.nc 51],some (49,true),none,.call 3⟩,cl 53 [.jq 4] 49 true .mU,cl 54 [.Bs 52,.Bs 53] 49 true (.bin .eql),p0 55 [.Bs 49,.Bs 54,.cv (.bool false)] .pick,p1 2 41,p1 3 55] .ret)))))
theorem aeS:qt Tryz.prog Ut 27=some (Z9,56,[.tmp 2,.tmp 3]):=by kernel_rfl
def Ky (p:(qd×(Int×Int))):Option (Int×Bool) :=
 (Lw p).bind fun aS =>
 (K6 p).bind fun bj =>
 if (decide (aS.2≠(0:Int)))=true then
  some (aS.1,false)
 else
  if (decide (bj.2≠(0:Int)))=true then
   some (aS.1,false)
  else
   (O' bj.1 (p.1.length:Int)).bind fun eK =>
   if eK=true then
    (I4 p bj.1).bind fun qW =>
    if (decide (qW.2=(0:Int)))=true then
     if (decide (qW.1=aS.1))=true then
      (Lz p bj.1).bind fun q8 =>
      some (aS.1,(decide (q8=aS.1)))
     else
      some (aS.1,false)
    else
     some (aS.1,false)
   else
    some (aS.1,false)
theorem r8 {p:(qd×(Int×Int))} {v:(Int×Bool)} (h:Ky p=some v):qB 27 [(.agg [(.av (p.1.flatMap p7) p.1.length .shared),(h0 p.2.1),(h0 p.2.2)])] (.tuple [(h0 v.1),(B v.2)]):=by
 refine qR eG aeS rfl (JG (p5 rfl (p5 rfl rfl))) fun Q bp=>?_;have jJ:qK [.tmp 2,.tmp 3] Q (fun v=>(.tuple [(h0 v.1),(B v.2)])) v:=fun T H bE=>bp _ T H bE;unfold Ky at h;unfold Z9;conv=>whnf
 obtain ⟨aS,gM,h⟩:=p9 h;refine ⟨qa.pl,_,Zi gM,?_⟩;conv=>whnf
 obtain ⟨bj,gN,h⟩:=p9 h;refine ⟨qa.pl,_,Tx gN,?_⟩;conv=>whnf
 refine bs h (fun qx h=>?_) fun qx h=>?_
 ·rw [qx];conv=>whnf
  exact p8 h jJ rfl rfl
 ·rw [qx];conv=>whnf
  refine bs h (fun qQ h=>?_) fun qQ h=>?_
  ·rw [qQ];(conv=>whnf);exact p8 h jJ rfl rfl
  ·rw [qQ];(conv=>whnf);obtain ⟨eK,qA,h⟩:=p9 h;refine ⟨qa.pl,_,ai5 qA,?_⟩;(conv=>whnf);cases eK
   ·(conv=>whnf);replace h:=rr rfl h;exact p8 h jJ rfl rfl
   ·(conv=>whnf);replace h:=rq rfl h;obtain ⟨qW,q5,h⟩:=p9 h;refine ⟨qa.pl,_,KB q5,?_⟩;(conv=>whnf);refine bs h (fun qP h=>?_) fun qP h=>?_
    ·rw [qP];(conv=>whnf);refine bs h (fun qT h=>?_) fun qT h=>?_
     ·rw [qT];(conv=>whnf);obtain ⟨q8,qN,h⟩:=p9 h;refine ⟨qa.pl,_,Zt qN,?_⟩;(conv=>whnf);exact p8 h jJ rfl rfl
     ·rw [qT];(conv=>whnf);exact p8 h jJ rfl rfl
    ·rw [qP];(conv=>whnf);exact p8 h jJ rfl rfl

noncomputable def QT:gE :=
 .loop (some (qc false [0,2,3,3,48])) (.seq (p2 [p3 10 7,p3 11 0,qn 12 10 11 .lss] (.cond (.nc 12) .skip (.exit 0))) (.seq (.block 1 (qV [p1 15 5,p3 16 7,p0 17 [.Bs 16] (.yB 1 1 [.int .i64 0] [0]),p0 18 [.jq 15,.jq 17] (.app 1 8),p1 5 18])) (qV [p1 13 7,q2 14 13 1,p1 7 14])))
noncomputable def QU:gE :=
 p2 [p1 38 6,p3 39 5,p3 40 9,rv 41 39 40 1,qi 42 41,p0 43 [.Bs 42] (.yB 1 1 [.int .i64 0] [0]),p0 44 [.jq 38,.jq 43] (.app 1 8),p1 6 44] (rA [p0 45 [] (.yB 0 1 [.int .i64 0] []),p3 46 5,p3 47 9,p0 48 [.jq 46,.jq 47] (.Bh 1 false true false),p0 49 [.jq 45,.jq 48] (.app 1 8),p3 50 5,p3 51 9,q2 52 51 1,p0 53 [.jq 50,.jq 52] (.Bh 1 true false false),p0 54 [.jq 49,.jq 53] (.app 1 8),p1 5 54])
noncomputable def QV:gE :=
 .loop (some (qc false [1,1,3,2,1,1,47])) (.seq (p2 [p3 19 5,q3 20 19,qE 21 20 0 .gtr] (.cond (.nc 21) .skip (.exit 2))) (.seq (.block 3 (p2 [qh 9 0] (.seq (p2 [p3 24 1,q3 25 24,qE 26 25 0 .gtr] (.cond (.nc 26) (qV [p3 27 1,p3 28 8,p3 29 1,q3 30 29,qn 31 28 30 .rem,rv 32 27 31 1,qi 33 32,p0 34 [.Bs 33] (.conv .i64),p3 35 5,q3 36 35,qn 37 34 36 .rem,p1 9 37]) .skip)) QU))) (qV [p1 22 8,q2 23 22 1,p1 8 23])))
noncomputable def Z_:gE :=
 p2 [p0 4 [.cv (.av [] 0 .full)] (.nil 1)] (p2 [p0 5 [.cv (.av [] 0 .full)] (.nil 1),p0 6 [.cv (.av [] 0 .full)] (.nil 1)] (.seq (p2 [qh 7 0] (.block 0 QT)) (.seq (p2 [qh 8 0] (.block 2 QV)) (p2 [p1 55 6,p1 4 55] .ret))))
theorem aeT:qt Tryz.prog Ob 28=some (Z_,56,[.tmp 4]):=by kernel_rfl
def ML (rK:Int) (p':p_→Option p_):Nat→p_→Int→Option p_
 | 0,_,_=>none
 | m+1,s1,s2 =>
   if (decide (s2<rK))=true then
    qk ((s1.length+1)*8≤140737488355328) <|
    ML rK p' m (s1++[s2]) (w (s2+(1:Int)))
   else
    p' s1
def MK (dk G':p_) (PJ:p_→p_→Option p_) (dD:Int):Option p_ :=
 qk (0≤dD∧dD<(dk.length:Int)) <|
 qk ((G'.length+1)*8≤140737488355328) <|
 qk (0≤dD∧dD≤(dk.length:Int)) <|
 qk ((([]:List Int).length+(dk.take dD.toNat).length)*8≤140737488355328) <|
 qk (0≤(w (dD+(1:Int)))∧(w (dD+(1:Int)))≤(dk.length:Int)) <|
 qk (((([]:List Int)++(dk.take dD.toNat)).length+(dk.drop (w (dD+(1:Int))).toNat).length)*8≤140737488355328) <|
 PJ ((([]:List Int)++(dk.take dD.toNat))++(dk.drop (w (dD+(1:Int))).toNat)) (G'++[(ix dk dD)])
def Kz (qs:p_) (rm:p_→Option p_):Nat→p_→p_→Int→Option p_
 | 0,_,_,_=>none
 | m+1,dk,G',Hg =>
   if (decide ((0:Int)<(dk.length:Int)))=true then
    if (decide ((0:Int)<(qs.length:Int)))=true then
     qk ((qs.length:Int)≠0) <|
     qk (0≤(Hg.tmod (qs.length:Int))∧(Hg.tmod (qs.length:Int))<(qs.length:Int)) <|
     qk ((dk.length:Int)≠0) <|
     MK dk G' (fun oT Gz =>
       Kz qs rm m oT Gz (w (Hg+(1:Int)))) ((w (ix qs (Hg.tmod (qs.length:Int)))).tmod (dk.length:Int))
    else
     MK dk G' (fun oT Gz =>
       Kz qs rm m oT Gz (w (Hg+(1:Int)))) (0:Int)
   else
    rm G'
def NV (rK:Int) (qs:p_):Option p_ :=
 ML rK (fun yn =>
   Kz qs (fun Lb =>
     some Lb) qj yn ([]:List Int) (0:Int)) qj ([]:List Int) (0:Int)
theorem aiC {rK:Int} {p':p_→Option p_} {s1:p_} {s2:Int} {qs:p_} {v:p_} {Q:r1}   (rn:∀ (yn:p_) (qb:List I),p' yn=some v→ra 56 [(1,(.av (qs.map q4) qs.length .shared)),(5,(qS yn (.uniq 1))),(6,(.av [] 0 (.uniq 1)))] qb→Q (.exit 0) qb []) {T:List I} (b0:eZ (qc false [0,2,3,3,48]) T=qe 56 [(0,(h0 rK)),(1,(.av (qs.map q4) qs.length .shared)),(5,(qS s1 (.uniq 1))),(6,(.av [] 0 (.uniq 1))),(7,(h0 s2))]) (h:ML rK p' qj s1 s2=some v) :
  dQ Tryz.prog Ob 28 0 none QT T [] Q:=by
 unfold QT;refine wp_loop b0 ?_;refine .intro (fun m T H=>∃ (s1:p_) (s2:Int),T=qe 56 [(0,(h0 rK)),(1,(.av (qs.map q4) qs.length .shared)),(5,(qS s1 (.uniq 1))),(6,(.av [] 0 (.uniq 1))),(7,(h0 s2))]∧H=[]∧ML rK p' m s1 s2=some v) qj ⟨s1,s2,rfl,rfl,h⟩ ?_;clear h b0;rintro m T H ⟨s1,s2,rfl,rfl,h⟩;cases m
 ·exact r0 h
 rename_i m;rw [ML.eq_2] at h;conv=>whnf
 refine bs h (fun gM h=>?_) fun gM h=>?_
 ·rw [gM];conv=>whnf
  obtain ⟨gN,h⟩:=q_ h;refine ⟨by first | rfl | simp,by have:=gN;omega,rfl,gN,?_⟩
  erw [U6 h0 s1 s2];conv=>whnf
  exact ⟨m,sv m,(s1++[s2]),(w (s2+(1:Int))),rfl,rfl,h⟩
 ·rw [gM];conv=>whnf
  exact rn _ _ h ⟨rfl,rfl⟩
theorem Zo {dk:p_} {G':p_} {PJ:p_→p_→Option p_} {dD:Int} {qs:p_} {Hg:Int} {v:p_} {Q:r1}  {qb:List I}  (ady:∀ (oT Gz:p_) (qb:List I),PJ oT Gz=some v→ra 56 [(1,(.av (qs.map q4) qs.length .shared)),(5,(qS oT (.uniq 1))),(6,(qS Gz (.uniq 1))),(8,(h0 Hg))] qb→Q .normal qb []) (qo:ra 56 [(1,(.av (qs.map q4) qs.length .shared)),(5,(qS dk (.own 1))),(6,(qS G' (.uniq 1))),(8,(h0 Hg)),(9,(h0 dD))] qb) (h:MK dk G' PJ dD=some v) :
  dQ Tryz.prog Ob 28 0 none QU qb [] Q:=by
 obtain ⟨re,rfl⟩:=qo.ex;unfold MK at h;unfold QU;conv=>whnf
 refine qD h id fun qT h=>?_;rw [rG h0 dk dD qT];conv=>whnf
 obtain ⟨qN,h⟩:=q_ h;refine ⟨by first | rfl | simp,by have:=qN;omega,rfl,qN,?_⟩
 erw [U6 h0 G' (ix dk dD)];conv=>whnf
 refine qD h id fun r3 h=>?_;erw [Tn h0 dk dD r3];conv=>whnf
 obtain ⟨IX,h⟩:=q_ h;refine ⟨by first | rfl | simp,by have:=IX;omega,rfl,IX,?_⟩
 erw [U5 h0 ([]:List Int) (dk.take dD.toNat)];conv=>whnf
 refine qD h id fun I' h=>?_;erw [YB h0 dk (w (dD+(1:Int))) I'];conv=>whnf
 obtain ⟨Iu,h⟩:=q_ h;refine ⟨by first | rfl | simp,by have:=Iu;omega,rfl,Iu,?_⟩
 erw [U5 h0 (([]:List Int)++(dk.take dD.toNat)) (dk.drop (w (dD+(1:Int))).toNat)];conv=>whnf
 exact ady _ _ _ h ⟨rfl,rfl⟩
theorem aiD {qs:p_} {rm:p_→Option p_} {dk:p_} {G':p_} {Hg:Int} {v:p_} {Q:r1}   (KW:∀ (Lb:p_) (qb:List I),rm Lb=some v→ra 56 [(6,(qS Lb (.uniq 1)))] qb→Q (.exit 2) qb []) {T:List I} (b0:eZ (qc false [1,1,3,2,1,1,47]) T=qe 56 [(1,(.av (qs.map q4) qs.length .shared)),(5,(qS dk (.uniq 1))),(6,(qS G' (.uniq 1))),(8,(h0 Hg))]) (h:Kz qs rm qj dk G' Hg=some v) :
  dQ Tryz.prog Ob 28 0 none QV T [] Q:=by
 unfold QV;obtain ⟨Lh,rb⟩:∃ c,QU=c:=⟨_,rfl⟩;rw [rb];refine wp_loop b0 ?_;refine .intro (fun m T H=>∃ (dk G':p_) (Hg:Int),T=qe 56 [(1,(.av (qs.map q4) qs.length .shared)),(5,(qS dk (.uniq 1))),(6,(qS G' (.uniq 1))),(8,(h0 Hg))]∧H=[]∧Kz qs rm m dk G' Hg=some v) qj ⟨dk,G',Hg,rfl,rfl,h⟩ ?_;clear h b0;rintro m T H ⟨dk,G',Hg,rfl,rfl,h⟩;cases m
 ·exact r0 h
 rename_i m;rw [Kz.eq_2] at h;conv=>whnf
 refine bs h (fun qx h=>?_) fun qx h=>?_
 ·rw [qx];conv=>whnf
  refine bs h (fun qQ h=>?_) fun qQ h=>?_
  ·rw [qQ];(conv=>whnf);refine qD h id fun qA h=>?_;(conv=>whnf);refine qD h id fun q5 h=>?_;rw [rG q4 qs (Hg.tmod (qs.length:Int)) q5];(conv=>whnf);refine qD h id fun qP h=>?_;(conv=>whnf);subst rb;refine Zo ?_ (by exact ⟨rfl,rfl⟩) h;intro oT Gz qb h qo;obtain ⟨re,rfl⟩:=qo.ex;(conv=>whnf);exact ⟨m,sv m,oT,Gz,(w (Hg+(1:Int))),rfl,rfl,h⟩
  ·rw [qQ];(conv=>whnf);subst rb;refine Zo ?_ (by exact ⟨rfl,rfl⟩) h;intro oT Gz qb h qo;obtain ⟨re,rfl⟩:=qo.ex;(conv=>whnf);exact ⟨m,sv m,oT,Gz,(w (Hg+(1:Int))),rfl,rfl,h⟩
 ·rw [qx];conv=>whnf
  exact KW _ _ h ⟨rfl,rfl⟩
theorem KA {rK:Int} {qs:p_} {v:p_} (h:NV rK qs=some v):qB 28 [(h0 rK),(.av (qs.map q4) qs.length .shared)] (.av (v.map h0) v.length .shared):=by
 refine qR eG aeT rfl (rU (fun _=>rfl) _ _ _) fun Q bp=>?_;have jJ:qK [.tmp 4] Q (fun v=>(qS v .shared)) v:=fun T H bE=>bp _ T H bE;unfold NV at h;unfold Z_;obtain ⟨HK,qJ⟩:∃ c,QT=c:=⟨_,rfl⟩;rw [qJ];obtain ⟨abS,Oh⟩:∃ c,QV=c:=⟨_,rfl⟩;rw [Oh];conv=>whnf
 subst qJ;refine aiC ?_ (by exact rfl) h;intro yn qb h qo;obtain ⟨re,rfl⟩:=qo.ex;conv=>whnf
 subst Oh;refine aiD ?_ (by exact rfl) h;intro Lb qb h qo;obtain ⟨re,rfl⟩:=qo.ex;conv=>whnf
 exact p8 h jJ rfl rfl

noncomputable def aab:gE :=
 p2 [qh 2 0] (p2 [p3 3 0,p1 4 0,p0 5 [.Bs 4] (.un .neg),p0 6 [.jq 3,.jq 5] .max,p1 2 6] .ret)
theorem aeW:qt Tryz.prog Uw 31=some (aab,7,[.tmp 2]):=by kernel_rfl
def NW (n:Int):Option Int :=
 some (max n (w (-n)))
theorem IB {n:Int} {v:Int} (h:NW n=some v):qB 31 [(h0 n)] (h0 v):=by
 refine qR eG aeW rfl rfl fun Q bp=>?_;have jJ:qK [.tmp 2] Q (fun v=>(h0 v)) v:=fun T H bE=>bp _ T H bE;unfold NW at h;unfold aab;conv=>whnf
 exact p8 h jJ rfl rfl
end Go.Proofs.YtkoioidpbbbaiaaGreat.Ab


namespace Go.Proofs.YtkoioidpbbbaiaaGreat.Ab
open Go
set_option maxRecDepth 20000
set_option maxHeartbeats 1000000
theorem ahT (i:Nat):ql (i+1)=ql i++[(i:Int)]:=by unfold ql;rw [vD,sJ];rfl
theorem Wi {n:Nat} (aI:n≤1000) {K:List Int→Option (List Int)}:∀ (m i:Nat),i≤n→n-i<m→ML (n:Int) K m (ql i) (i:Int)=K (ql n)
 | 0,_,_,h=>absurd h (by omega)
 | m+1,i,hi,hm=>by
   rw [ML];by_cases aR:i<n
   ·rw [if_pos (decide_eq_true (by omega)),qF (by rw [Ls];omega),Ik i (by omega),←ahT];exact Wi aI m (i+1) (by omega) (by omega)
   ·(obtain rfl:i=n:=by omega);rw [if_neg (by simp)]
theorem adW {A B:List Int} {j:Nat} (aw:j<A.length) (aL:A.length≤1000) (JC:B.length≤1000) (K:List Int→List Int→Option (List Int)):MK A B K (j:Int)=K (A.take j++A.drop (j+1)) (B++[A[j]]):=by
 unfold MK;have ab:=List.length_take_le j A;rw [qF (by omega),qF (by omega),qF (by omega),tp,qF (by simp;omega),Ik j (by omega),qF (by omega),tp,qF (by simp;omega),rJ aw,tN]
theorem afT {A B:List Int} {j:Nat} (aw:j<A.length):((B++[A[j]])++(A.take j++A.drop (j+1))).Perm (B++A):=by
 have e:A=A.take j++A[j]::A.drop (j+1):=by rw [←s0 aw,List.take_append_drop]
 rw [sy];refine List.Perm.append_left B ?_;have:=(List.perm_middle (l₁:=A.take j) (a:=A[j]) (l₂:=A.drop (j+1))).symm;rw [←e] at this;exact this
theorem Wh {n:Nat} (aI:n≤1000) {Q:List Int} (bp:∀ b∈Q,0≤b∧b≤255) (ao:Q.length≤1000) {K:List Int→Option (List Int)}:∀ (m:Nat) (A B:List Int),A.length<m→(B++A).Perm (ql n) →
  ∃ r,qu n r∧Kz Q K m A B (B.length:Int)=K r
 | 0,_,_,h,_=>absurd h (by omega)
 | m+1,A,B,hm,aB=>by
   rw [Kz];have hlen:=aB.length_eq;rw [sA,Ls] at hlen;by_cases aQ:0<A.length
   ·rw [if_pos (decide_eq_true (by omega)),Ik B.length (by omega)];have next:∀ j:Nat,j<A.length→∃ r,qu n r∧MK A B (fun oT Gz=>Kz Q K m oT Gz ((B.length+1:Nat):Int)) (j:Int)=K r:=fun j aw=>by
     rw [adW aw (by omega) (by omega)];have:=Wh aI bp ao (K:=K) m (A.take j++A.drop (j+1)) (B++[A[j]]) (by simp;omega) ((afT aw).trans aB);rw [show (B++[A[j]]).length=B.length+1 by simp] at this;exact this
    by_cases a_:0<Q.length
    ·rw [if_pos (decide_eq_true (by omega)),qF (by omega)];(have e1:((B.length:Nat):Int).tmod (Q.length:Int)=((B.length % Q.length:Nat):Int):=by rw [vA (by omega)];omega);have Sg:=uJ B.length a_;rw [e1,qF (by omega),qF (by omega)];have af:=bp _ (JD (l:=Q) (i:=((B.length % Q.length:Nat):Int)) (by omega));obtain ⟨v,ad⟩:∃ v:Nat,ix Q ((B.length % Q.length:Nat):Int)=(v:Int):=⟨(ix Q ((B.length % Q.length:Nat):Int)).toNat,by omega⟩;rw [ad] at af ⊢;(have b':(v:Int).tmod (A.length:Int)=((v % A.length:Nat):Int):=by rw [vA (by omega)];omega);rw [qC (n:=(v:Int)) (by omega),b'];exact next _ (uJ _ aQ)
    ·rw [if_neg (by simpa using a_)];exact next 0 aQ
   ·rw [if_neg (by simpa using aQ)];obtain rfl:A=[]:=List.length_eq_zero_iff.1 (by omega);rw [sN] at aB;exact ⟨B,Nk.2 aB,rfl⟩
theorem Zn {n:Nat} (aI:n≤1000) {Q:List Int} (bp:∀ b∈Q,0≤b∧b≤255) (ao:Q.length≤1000):∃ r,qu n r∧NV (n:Int) Q=some r:=by
 unfold NV;obtain ⟨r,ab,ae⟩:=Wh aI bp ao (K:=fun Lb=>some Lb) qj (ql n) [] (by rw [Ls];exact It (by omega)) (by rw [tN]);refine ⟨r,ab,?_⟩;rw [←ae];exact Wi aI (K:=fun yn=>Kz Q (fun Lb=>some Lb) qj yn [] 0) qj 0 (by omega) (It (by omega))
theorem O3 (p:qf):K8 p=some (decide (rz p=0)):=by
 unfold K8 NR;rw [sb];by_cases h:(10:Int)<(p.1.length:Int)
 ·rw [if_pos (decide_eq_true h),decide_eq_false];intro ak;have:=(IV.1 ak).len;omega
 ·rw [if_neg (by simpa using h),Zz (by omega),sb]
theorem Wq {l:List Int} {n:Nat} (aI:n≤1000) (k:qu n l):∀ (m i:Nat),i≤n→n-i<m→MS l (n:Int) (fun _=>some true) m (i:Int)=some true
 | 0,_,_,h=>absurd h (by omega)
 | m+1,i,hi,hm=>by
   rw [MS];have ao:=k.1;by_cases aR:i<n
   ·have ai:=k.2.2 _ (JD (l:=l) (i:=(i:Int)) (by omega));rw [if_pos (decide_eq_true (by omega)),qF (by omega),if_neg (by simpa using ai.1),qF (by omega),if_neg (by simpa using ai.2),qF (by omega),qF (by omega),tp,ZQ (by have:=List.length_take_le i l;omega),sb];rw [if_neg,Ik i (by omega)]
    ·exact Wq aI k m (i+1) (by omega) (by omega)
    ·rw [decide_eq_true_eq,rJ (by omega)];intro hm;obtain ⟨j,aw,e⟩:=List.getElem_of_mem hm;rw [List.getElem_take] at e;rw [List.length_take] at aw;have:=(List.getElem_inj k.2.1).1 e;omega
   ·rw [if_neg (by simp;omega)]
theorem ai3 {l:List Int} {n:Nat} (aI:n≤1000) (k:qu n l):O' l (n:Int)=some true:=by
 unfold O';rw [if_neg (by simp [k.1])];exact Wq aI k qj 0 (by omega) (It (by omega))
abbrev HW (p:qf):Int:=qH p (Ib p)
theorem Xb {p:qf} {o:List Int} (h:rj p) (k:qu p.1.length o):r4 p o=0:=Mt.2 ⟨h,k⟩
theorem Qx {p:qf} {o:List Int} (h:rj p) (k:qu p.1.length o):I4 p o=some (qH p o,0):=by
 have:=h.len;have:=k.1;rw [Qw (by omega) (by omega),if_pos (Xb h k)]
theorem TD {p:qf} {o:List Int} (h:rj p) (k:qu p.1.length o) {d:Int} (a1:p.2.1≤d∧d≤p.2.2):JI p o d=some (q6 p o 0 d,q6 p o 1 d,0):=by
 have:=h.len;have:=k.1;rw [TC (by omega) (by omega),if_pos (Xb h k),if_pos a1]
theorem NU {p:qf} (h:rj p):Ky p=some (HW p,true):=by
 have ao:=h.len;have al:=LP p;unfold Ky;rw [Zh (by omega),sb,Tw (by omega),sb,if_pos (IV.2 h),if_pos (IV.2 h)];simp only;rw [if_neg (by simp),if_neg (by simp),ai3 (by omega) al,sb,if_pos rfl,Qx h al,sb,if_pos (by simp),if_pos (by simp),Zs h al,sb];simp
theorem ahI (n:Nat) (g:Nat→Int):qO (n+1) g=g 0+qO n fun i=>g (i+1):=by
 induction n with
 | zero=>simp [qO]
 | succ n a8=>rw [qO,a8];simp only [qO];omega
theorem YL:∀ (n:Nat) (g:Nat→Int),qO n (fun i=>g (n-1-i))=qO n g
 | 0,_=>rfl
 | n+1,g=>by
   rw [ahI n g,←YL n fun i=>g (i+1)];simp only [qO];rw [show n+1-1-n=0 by omega,Int.add_comm (g 0)];congr 1;refine Kx fun i hi=>?_;rw [show n+1-1-i=n-1-i+1 by omega]
theorem Zp {n:Int} (h:-1000000≤n∧n≤1000000):NW n=some (max n (-n)):=by
 unfold NW;rw [qC (by omega)]
end Go.Proofs.YtkoioidpbbbaiaaGreat.Ab


namespace Go.Proofs.YtkoioidpbbbaiaaGreat.Ab
open Go
set_option maxRecDepth 20000
set_option maxHeartbeats 4000000
noncomputable def Q8:gE :=
 .loop (some (qc false [1,1,3,1,5,4,177])) (.seq (p2 [p3 74 14,p0 75 [.nc 5] (.yM 0),qi 76 75,q3 77 76,qn 78 74 77 .lss] (.cond (.nc 78) .skip (.exit 0))) (.seq (.block 1 (rA [p0 81 [.nc 13] (.yM 0),p0 82 [.Bs 81] .take,p0 83 [.nc 5] (.yM 0),p0 84 [.Bs 83] (.zF .one),p3 85 14,rv 86 84 85 2,qz 87 86 0,p0 88 [.Bs 87] (.zF .one),p3 89 11,p0 90 [.nc 5] (.yM 0),p0 91 [.Bs 90] (.zF .one),p3 92 14,rv 93 91 92 2,qz 94 93 1,p0 95 [.Bs 94] (.zF .one),qn 96 89 95 .mul,qn 97 88 96 .add,p0 98 [.nc 5] (.yM 0),p0 99 [.Bs 98] (.zF .one),p3 100 14,rv 101 99 100 2,qz 102 101 1,p0 103 [.Bs 102] (.zF .one),p0 104 [.Bs 97,.Bs 103] (.build [.int .i64 0,.int .i64 0] [(0,1),(1,1)]),p0 105 [.Bs 104] (.yB 1 2 [.int .i64 0,.int .i64 0] [0]),p0 106 [.jq 82,.jq 105] (.app 2 16),p0 107 [.nc 13] (.yM 0),⟨none,[.jq 107,.jq 106],none,none,.st 1⟩])) (qV [p1 79 14,q2 80 79 1,p1 14 80])))
noncomputable def aaF:gE :=
 p2 [p0 5 [.jq 0] .yy,p0 10 [.cv (.bool false)] .mU] (.seq (p2 [p0 28 [.nc 5] (.zE (.str 3)),p0 29 [.cv (.func 26 [] []),.nc 28] (.call 3),p0 30 [.Bs 29] (.un .not),p1 31 30,cl 32 [.nc 1] 31 false .mU,cl 33 [.jq 32] 31 false .zJ,cl 34 [.Bs 33,.cv (.int .i64 20)] 31 false (.bin .gtr),p0 35 [.Bs 31,.cv (.bool true),.Bs 34] .pick] (.cond (.nc 35) (p2 [p0 36 [.cv (.func 11 [] [])] (.call 3),p1 10 36] .ret) .skip)) (p2 [p1 37 4,p0 38 [.Bs 37] (.conv .i64),p0 39 [.nc 5] (.yM 1),qz 40 39 0,qi 41 40,q2 42 41 1,qn 43 38 42 .rem,p1 11 43] (p2 [p0 44 [.nc 5] (.yM 0),qi 45 44,p0 46 [.nc 5] (.yM 1),qz 47 46 0,qi 48 47,p1 49 2,p0 50 [.Bs 49] (.conv .i64),qn 51 48 50 .sub,p0 52 [.cv (.int .i64 0),.jq 51] .max,p0 53 [.nc 5] (.yM 1),qz 54 53 1,qi 55 54,p1 56 3,p0 57 [.Bs 56] (.conv .i64),qn 58 55 57 .add,p0 59 [.cv (.int .i64 50),.jq 58] .min,p0 60 [.Bs 52,.Bs 59] (.build [.int .i64 0,.int .i64 0] [(0,1),(1,1)]),p0 61 [.Bs 45,.Bs 60] (.build [.av [] 0 .full,.int .i64 0,.int .i64 0] [(0,1),(1,2)]),p0 12 [] (.alloc [.av [] 0 .full,.int .i64 0,.int .i64 0]),⟨none,[.nc 12,.jq 61],none,none,.st 3⟩] (p2 [p0 62 [.nc 5] (.yM 1),qz 63 62 0,qi 64 63,p3 65 11,qn 66 64 65 .sub,p0 67 [.nc 5] (.yM 1),qz 68 67 1,qi 69 68,p3 70 11,qn 71 69 70 .sub,p0 72 [.Bs 66,.Bs 71] (.build [.int .i64 0,.int .i64 0] [(0,1),(1,1)]),p0 73 [.Bs 72] (.build [.av [] 0 .full,.int .i64 0,.int .i64 0] [(1,2)]),p0 13 [] (.alloc [.av [] 0 .full,.int .i64 0,.int .i64 0]),⟨none,[.nc 13,.jq 73],none,none,.st 3⟩] (.seq (p2 [qh 14 0] (.block 0 Q8)) (p2 [p0 108 [.nc 5] (.yM 0),qi 109 108,q3 110 109,p1 111 1,p0 112 [.cv (.func 28 [] []),.nc 110,.nc 111] (.call 3),p1 15 112] (p2 [p0 114 [.nc 5] (.zE (.str 3)),p0 115 [.cv (.func 27 [] []),.nc 114] (.call 3),p1 113 115,qI 116 113 0,p0 117 [.Bs 113] (.ext 1),p1 16 116,p1 17 117] (p2 [p0 119 [.nc 12] (.zE (.str 3)),p0 120 [.cv (.func 27 [] []),.nc 119] (.call 3),p1 118 120,qI 121 118 0,p0 122 [.Bs 118] (.ext 1),p1 18 121,p1 19 122] (p2 [p0 124 [.Bs 5] (.zE (.str 3)),p3 125 15,p0 126 [.cv (.func 29 [] []),.nc 124,.nc 125] (.call 3),p1 123 126,qI 127 123 0,p0 128 [.Bs 123] (.ext 1),p1 20 127,p1 21 128] (p2 [p0 130 [.Bs 12] (.zE (.str 3)),p3 131 15,p0 132 [.cv (.func 29 [] []),.nc 130,.nc 131] (.call 3),p1 129 132,qI 133 129 0,p0 134 [.Bs 129] (.ext 1),p1 22 133,p1 23 134] (.seq (p2 [p1 135 17,p0 136 [.Bs 135] (.un .not),p1 137 136,cl 138 [.jq 19] 137 false .mU,cl 139 [.Bs 138] 137 false (.un .not),p0 140 [.Bs 137,.cv (.bool true),.Bs 139] .pick,p1 141 140,cl 142 [.jq 21] 141 false .mU,cl 143 [.Bs 142,.cv (.int .i64 0)] 141 false (.bin .neq),p0 144 [.Bs 141,.cv (.bool true),.Bs 143] .pick,p1 145 144,cl 146 [.jq 23] 145 false .mU,cl 147 [.Bs 146,.cv (.int .i64 0)] 145 false (.bin .neq),p0 148 [.Bs 145,.cv (.bool true),.Bs 147] .pick,p1 149 148,cl 150 [.jq 18] 149 false .mU,cl 151 [.nc 16] 149 false .mU,cl 152 [.Bs 150,.Bs 151] 149 false (.bin .lss),p0 153 [.Bs 149,.cv (.bool true),.Bs 152] .pick,p1 154 153,cl 155 [.jq 22] 154 false .mU,cl 156 [.nc 20] 154 false .mU,cl 157 [.Bs 155,.Bs 156] 154 false (.bin .lss),p0 158 [.Bs 154,.cv (.bool true),.Bs 157] .pick] (.cond (.nc 158) (p2 [p0 10 [.cv (.bool false)] .mU] .ret) .skip)) (.seq (p2 [p0 159 [.nc 13] (.zE (.str 3)),p0 160 [.cv (.func 26 [] []),.nc 159] (.call 3),p0 161 [.Bs 160] (.un .not)] (.cond (.nc 161) (p2 [p0 162 [.cv (.func 11 [] [])] (.call 3),p1 10 162] .ret) .skip)) (p2 [p0 164 [.nc 13] (.zE (.str 3)),p0 165 [.cv (.func 27 [] []),.nc 164] (.call 3),p1 163 165,qI 166 163 0,p0 167 [.Bs 163] (.ext 1),p1 24 166,p1 25 167] (p2 [p0 169 [.Bs 13] (.zE (.str 3)),p1 170 15,p0 171 [.cv (.func 29 [] []),.nc 169,.nc 170] (.call 3),p1 168 171,qI 172 168 0,p0 173 [.Bs 168] (.ext 1),p1 26 172,p1 27 173] (p2 [p1 174 25,p1 175 174,cl 176 [.jq 24] 175 true .mU,cl 177 [.jq 16] 175 true .mU,cl 178 [.Bs 176,.Bs 177] 175 true (.bin .eql),p0 179 [.Bs 175,.Bs 178,.cv (.bool false)] .pick,p1 180 179,cl 181 [.jq 27] 180 true .mU,cl 182 [.Bs 181,.cv (.int .i64 0)] 180 true (.bin .eql),p0 183 [.Bs 180,.Bs 182,.cv (.bool false)] .pick,p1 184 183,cl 185 [.jq 26] 184 true .mU,cl 186 [.jq 20] 184 true .mU,cl 187 [.Bs 185,.Bs 186] 184 true (.bin .eql),p0 188 [.Bs 184,.Bs 187,.cv (.bool false)] .pick,p1 189 188,⟨some 190,[.cv (.func 11 [] [])],some (189,true),none,.call 3⟩,p0 191 [.Bs 189,.Bs 190,.cv (.bool false)] .pick,p1 10 191] .ret)))))))))))))))
theorem afp:qt Tryz.prog Rr 9=some (aaF,192,[.tmp 10]):=by kernel_rfl
def MZ (p:(qd×(Int×Int))) (rT:Int) (p':qd→Option Bool):Nat→Int→qd→Option Bool
 | 0,_,_=>none
 | m+1,s1,s2 =>
   if (decide (s1<(p.1.length:Int)))=true then
    qk (0≤s1∧s1<(p.1.length:Int)) <|
    qk (0≤s1∧s1<(p.1.length:Int)) <|
    qk (0≤s1∧s1<(p.1.length:Int)) <|
    qk ((s2.length+1)*16≤140737488355328) <|
    MZ p rT p' m (w (s1+(1:Int))) (s2++[((w ((ix p.1 s1).1+(w (((w rT).tmod (w (p.2.1+(1:Int))))*(ix p.1 s1).2)))),(ix p.1 s1).2)])
   else
    p' s2
def QO (p:(qd×(Int×Int))) (qs:p_) (low high rT:Int):Option Bool :=
 (K8 p).bind fun aS =>
 if aS=true then
  if (decide ((20:Int)<(qs.length:Int)))=true then
   (H0).bind fun bj =>
   some bj
  else
   qk ((w (p.2.1+(1:Int)))≠0) <|
   MZ p rT (fun yn =>
     (NV (p.1.length:Int) qs).bind fun eK =>
     (Ky p).bind fun qW =>
     (Ky (p.1,((max (0:Int) (w (p.2.1-(w low)))),(min (50:Int) (w (p.2.2+(w high))))))).bind fun q8 =>
     (I4 p eK).bind fun r5 =>
     (I4 (p.1,((max (0:Int) (w (p.2.1-(w low)))),(min (50:Int) (w (p.2.2+(w high)))))) eK).bind fun H7 =>
     if qW.2=true then
      if q8.2=true then
       if (decide (r5.2≠(0:Int)))=true then
        some false
       else
        if (decide (H7.2≠(0:Int)))=true then
         some false
        else
         if (decide (q8.1<qW.1))=true then
          some false
         else
          if (decide (H7.1<r5.1))=true then
           some false
          else
           (K8 (yn,((w (p.2.1-((w rT).tmod (w (p.2.1+(1:Int)))))),(w (p.2.2-((w rT).tmod (w (p.2.1+(1:Int))))))))).bind fun Hp =>
           if Hp=true then
            (Ky (yn,((w (p.2.1-((w rT).tmod (w (p.2.1+(1:Int)))))),(w (p.2.2-((w rT).tmod (w (p.2.1+(1:Int))))))))).bind fun HZ =>
            (I4 (yn,((w (p.2.1-((w rT).tmod (w (p.2.1+(1:Int)))))),(w (p.2.2-((w rT).tmod (w (p.2.1+(1:Int)))))))) eK).bind fun Iw =>
            if HZ.2=true then
             if (decide (HZ.1=qW.1))=true then
              if (decide (Iw.2=(0:Int)))=true then
               if (decide (Iw.1=r5.1))=true then
                (H0).bind fun I3 =>
                some I3
               else
                some false
              else
               some false
             else
              some false
            else
             some false
           else
            (H0).bind fun Js =>
            some Js
      else
       some false
     else
      some false) qj (0:Int) ([]:List (Int×Int))
 else
  (H0).bind fun Mx =>
  some Mx
theorem ajp {p:(qd×(Int×Int))} {rT:Int} {p':qd→Option Bool} {s1:Int} {s2:qd} {qs:p_} {low:Int} {high:Int} {v:Bool} {Q:r1}   {rE:hE} (rn:∀ (yn:qd) (qb:List I),p' yn=some v→ra 192 [(1,(.av (qs.map q4) qs.length .shared)),(5,(.bS [(qv p.1 .shared),(h0 p.2.1),(h0 p.2.2)])),(12,(.ptr 0 0)),(13,(.ptr 1 0))] qb→Q (.exit 0) qb [ar.cells [(qv p.1 .shared),(h0 (max (0:Int) (w (p.2.1-(w low))))),(h0 (min (50:Int) (w (p.2.2+(w high)))))],ar.cells [(.av (yn.flatMap HG) yn.length .full),(h0 (w (p.2.1-((w rT).tmod (w (p.2.1+(1:Int))))))),(h0 (w (p.2.2-((w rT).tmod (w (p.2.1+(1:Int)))))))]]) (Mm:∀ (yn:qd) (qb:List I),p' yn=some v→ra 192 [(1,(.av (qs.map q4) qs.length .shared)),(5,(.bS [(qv p.1 .shared),(h0 p.2.1),(h0 p.2.2)])),(12,(.ptr 0 0)),(13,(.ptr 1 0))] qb→Q (.exit 0) qb [ar.cells [(qv p.1 .shared),(h0 (max (0:Int) (w (p.2.1-(w low))))),(h0 (min (50:Int) (w (p.2.2+(w high)))))],ar.cells [(.av (yn.flatMap HG) yn.length (.own 2)),(h0 (w (p.2.1-((w rT).tmod (w (p.2.1+(1:Int))))))),(h0 (w (p.2.2-((w rT).tmod (w (p.2.1+(1:Int)))))))]]) (Ig:(rE=hE.full∨rE=(.own 2))) {T:List I} (b0:eZ (qc false [1,1,3,1,5,4,177]) T=qe 192 [(1,(.av (qs.map q4) qs.length .shared)),(5,(.bS [(qv p.1 .shared),(h0 p.2.1),(h0 p.2.2)])),(11,(h0 ((w rT).tmod (w (p.2.1+(1:Int)))))),(12,(.ptr 0 0)),(13,(.ptr 1 0)),(14,(h0 s1))]) (h:MZ p rT p' qj s1 s2=some v) :
  dQ Tryz.prog Rr 9 0 none Q8 T [ar.cells [(qv p.1 .shared),(h0 (max (0:Int) (w (p.2.1-(w low))))),(h0 (min (50:Int) (w (p.2.2+(w high)))))],ar.cells [(.av (s2.flatMap HG) s2.length rE),(h0 (w (p.2.1-((w rT).tmod (w (p.2.1+(1:Int))))))),(h0 (w (p.2.2-((w rT).tmod (w (p.2.1+(1:Int)))))))]] Q:=by
 unfold Q8;refine wp_loop b0 ?_;refine .intro (fun m T H=>∃ (s1:Int) (s2:qd) (rE:hE),(rE=hE.full∨rE=(.own 2))∧T=qe 192 [(1,(.av (qs.map q4) qs.length .shared)),(5,(.bS [(qv p.1 .shared),(h0 p.2.1),(h0 p.2.2)])),(11,(h0 ((w rT).tmod (w (p.2.1+(1:Int)))))),(12,(.ptr 0 0)),(13,(.ptr 1 0)),(14,(h0 s1))]∧H=[ar.cells [(qv p.1 .shared),(h0 (max (0:Int) (w (p.2.1-(w low))))),(h0 (min (50:Int) (w (p.2.2+(w high)))))],ar.cells [(.av (s2.flatMap HG) s2.length rE),(h0 (w (p.2.1-((w rT).tmod (w (p.2.1+(1:Int))))))),(h0 (w (p.2.2-((w rT).tmod (w (p.2.1+(1:Int)))))))]]∧MZ p rT p' m s1 s2=some v) qj ⟨s1,s2,_,Ig,rfl,rfl,h⟩ ?_;clear h b0;rintro m T H ⟨s1,s2,rE,Ig,rfl,rfl,h⟩;cases m
 ·exact r0 h
 rename_i m;rw [MZ.eq_2] at h;rcases Ig with rfl | rfl
 ·conv=>whnf
  refine bs h (fun qA h=>?_) fun qA h=>?_
  ·rw [qA];(conv=>whnf);refine qD h id fun q5 h=>?_;rw [r6 p7 2 q' p.1 s1 q5];(conv=>whnf);refine qD h id fun qP h=>?_;rw [r6 p7 2 q' p.1 s1 qP];(conv=>whnf);refine qD h id fun qT h=>?_;rw [r6 p7 2 q' p.1 s1 qT];(conv=>whnf);obtain ⟨qN,h⟩:=q_ h;refine ⟨by first | rfl | (simp;done) | exact rf HG _ M0 _,by have:=qN;omega,by decide,qN,by first | rfl | (simp;done) | exact rf HG _ M0 _,?_⟩
   erw [HI HG s2 ((w ((ix p.1 s1).1+(w (((w rT).tmod (w (p.2.1+(1:Int))))*(ix p.1 s1).2)))),(ix p.1 s1).2)];(conv=>whnf);exact ⟨m,sv m,(w (s1+(1:Int))),(s2++[((w ((ix p.1 s1).1+(w (((w rT).tmod (w (p.2.1+(1:Int))))*(ix p.1 s1).2)))),(ix p.1 s1).2)]),_,(.inr rfl),rfl,rfl,h⟩
  ·rw [qA];(conv=>whnf);exact rn _ _ h ⟨rfl,rfl⟩
 ·conv=>whnf
  refine bs h (fun qA h=>?_) fun qA h=>?_
  ·rw [qA];(conv=>whnf);refine qD h id fun q5 h=>?_;rw [r6 p7 2 q' p.1 s1 q5];(conv=>whnf);refine qD h id fun qP h=>?_;rw [r6 p7 2 q' p.1 s1 qP];(conv=>whnf);refine qD h id fun qT h=>?_;rw [r6 p7 2 q' p.1 s1 qT];(conv=>whnf);obtain ⟨qN,h⟩:=q_ h;refine ⟨by first | rfl | (simp;done) | exact rf HG _ M0 _,by have:=qN;omega,rfl,qN,?_⟩
   erw [HI HG s2 ((w ((ix p.1 s1).1+(w (((w rT).tmod (w (p.2.1+(1:Int))))*(ix p.1 s1).2)))),(ix p.1 s1).2)];(conv=>whnf);exact ⟨m,sv m,(w (s1+(1:Int))),(s2++[((w ((ix p.1 s1).1+(w (((w rT).tmod (w (p.2.1+(1:Int))))*(ix p.1 s1).2)))),(ix p.1 s1).2)]),_,(.inr rfl),rfl,rfl,h⟩
  ·rw [qA];(conv=>whnf);exact Mm _ _ h ⟨rfl,rfl⟩
theorem ajq {p:(qd×(Int×Int))} {qs:p_} {low:Int} {high:Int} {rT:Int} {v:Bool} (h:QO p qs low high rT=some v):qB 9 [(.agg [(.av (p.1.flatMap p7) p.1.length .shared),(h0 p.2.1),(h0 p.2.2)]),(.av (qs.map q4) qs.length .shared),(q4 low),(q4 high),(q4 rT)] (B v):=by
 refine qR eG afp rfl rfl fun Q bp=>?_;have jJ:qK [.tmp 10] Q (fun v=>(B v)) v:=fun T H bE=>bp _ T H bE;unfold QO at h;unfold aaF;obtain ⟨HK,qJ⟩:∃ c,Q8=c:=⟨_,rfl⟩;rw [qJ];conv=>whnf
 refine ⟨rfl,?_⟩;conv=>whnf
 obtain ⟨aS,gM,h⟩:=p9 h;refine ⟨qa.pl,_,IA gM,?_⟩;conv=>whnf
 cases aS
 ·conv=>whnf
  replace h:=rr rfl h;obtain ⟨Mx,Jo,h⟩:=p9 h;refine ⟨rfl,_,Iz Jo,?_⟩;conv=>whnf
  exact p8 h jJ rfl rfl
 ·conv=>whnf
  replace h:=rq rfl h;refine bs h (fun gN h=>?_) fun gN h=>?_
  ·rw [gN];(conv=>whnf);obtain ⟨bj,qx,h⟩:=p9 h;refine ⟨rfl,_,Iz qx,?_⟩;(conv=>whnf);exact p8 h jJ rfl rfl
  ·rw [gN];(conv=>whnf);refine qD h id fun qQ h=>?_;(conv=>whnf);subst qJ;refine ajp ?_ ?_ (.inl rfl) (by exact rfl) h
   ·intro yn qb h qo;obtain ⟨re,rfl⟩:=qo.ex;(conv=>whnf);obtain ⟨eK,r3,h⟩:=p9 h;refine ⟨qa.pl,_,KA r3,?_⟩;(conv=>whnf);obtain ⟨qW,IX,h⟩:=p9 h;refine ⟨qa.pl,_,r8 IX,?_⟩;(conv=>whnf);obtain ⟨q8,I',h⟩:=p9 h;refine ⟨qa.pl,_,r8 I',?_⟩;(conv=>whnf);obtain ⟨r5,Iu,h⟩:=p9 h;refine ⟨qa.pl,_,KB Iu,?_⟩;(conv=>whnf);obtain ⟨H7,Ja,h⟩:=p9 h;refine ⟨qa.pl,_,KB Ja,?_⟩;(conv=>whnf);refine bs h (fun Jb h=>?_) fun Jb h=>?_
    ·rw [Jb];(conv=>whnf);refine bs h (fun Jc h=>?_) fun Jc h=>?_
     ·rw [Jc];(conv=>whnf);refine bs h (fun KK h=>?_) fun KK h=>?_
      ·rw [KK];(conv=>whnf);exact p8 h jJ rfl rfl
      ·rw [KK];(conv=>whnf);refine bs h (fun Jd h=>?_) fun Jd h=>?_
       ·rw [Jd];(conv=>whnf);exact p8 h jJ rfl rfl
       ·rw [Jd];(conv=>whnf);refine bs h (fun KL h=>?_) fun KL h=>?_
        ·rw [KL];(conv=>whnf);exact p8 h jJ rfl rfl
        ·rw [KL];(conv=>whnf);refine bs h (fun KM h=>?_) fun KM h=>?_
         ·rw [KM];(conv=>whnf);exact p8 h jJ rfl rfl
         ·rw [KM];(conv=>whnf);obtain ⟨Hp,L1,h⟩:=p9 h;refine ⟨qa.pl,_,IA L1,?_⟩;(conv=>whnf);cases Hp
          ·(conv=>whnf);replace h:=rr rfl h;obtain ⟨Js,L3,h⟩:=p9 h;refine ⟨rfl,_,Iz L3,?_⟩;(conv=>whnf);exact p8 h jJ rfl rfl
          ·(conv=>whnf);replace h:=rq rfl h;obtain ⟨HZ,JT,h⟩:=p9 h;refine ⟨qa.pl,_,r8 JT,?_⟩;(conv=>whnf);obtain ⟨Iw,JU,h⟩:=p9 h;refine ⟨qa.pl,_,KB JU,?_⟩;(conv=>whnf);refine bs h (fun Je h=>?_) fun Je h=>?_
           ·rw [Je];(conv=>whnf);refine bs h (fun Jf h=>?_) fun Jf h=>?_
            ·rw [Jf];(conv=>whnf);refine bs h (fun Jg h=>?_) fun Jg h=>?_
             ·rw [Jg];(conv=>whnf);refine bs h (fun KN h=>?_) fun KN h=>?_
              ·rw [KN];(conv=>whnf);obtain ⟨I3,L2,h⟩:=p9 h;refine ⟨rfl,_,Iz L2,?_⟩;(conv=>whnf);exact p8 h jJ rfl rfl
              ·rw [KN];(conv=>whnf);exact p8 h jJ rfl rfl
             ·rw [Jg];(conv=>whnf);exact p8 h jJ rfl rfl
            ·rw [Jf];(conv=>whnf);exact p8 h jJ rfl rfl
           ·rw [Je];(conv=>whnf);exact p8 h jJ rfl rfl
     ·rw [Jc];(conv=>whnf);exact p8 h jJ rfl rfl
    ·rw [Jb];(conv=>whnf);exact p8 h jJ rfl rfl
   ·intro yn qb h qo;obtain ⟨re,rfl⟩:=qo.ex;(conv=>whnf);obtain ⟨Kw,JV,h⟩:=p9 h;refine ⟨qa.pl,_,KA JV,?_⟩;(conv=>whnf);obtain ⟨Lq,JW,h⟩:=p9 h;refine ⟨qa.pl,_,r8 JW,?_⟩;(conv=>whnf);obtain ⟨Mv,Jh,h⟩:=p9 h;refine ⟨qa.pl,_,r8 Jh,?_⟩;(conv=>whnf);obtain ⟨J_,Ji,h⟩:=p9 h;refine ⟨qa.pl,_,KB Ji,?_⟩;(conv=>whnf);obtain ⟨J',Jj,h⟩:=p9 h;refine ⟨qa.pl,_,KB Jj,?_⟩;(conv=>whnf);refine bs h (fun JX h=>?_) fun JX h=>?_
    ·rw [JX];(conv=>whnf);refine bs h (fun JY h=>?_) fun JY h=>?_
     ·rw [JY];(conv=>whnf);refine bs h (fun JZ h=>?_) fun JZ h=>?_
      ·rw [JZ];(conv=>whnf);exact p8 h jJ rfl rfl
      ·rw [JZ];(conv=>whnf);refine bs h (fun J0 h=>?_) fun J0 h=>?_
       ·rw [J0];(conv=>whnf);exact p8 h jJ rfl rfl
       ·rw [J0];(conv=>whnf);refine bs h (fun J1 h=>?_) fun J1 h=>?_
        ·rw [J1];(conv=>whnf);exact p8 h jJ rfl rfl
        ·rw [J1];(conv=>whnf);refine bs h (fun IF h=>?_) fun IF h=>?_
         ·rw [IF];(conv=>whnf);exact p8 h jJ rfl rfl
         ·rw [IF];(conv=>whnf);obtain ⟨IJ,Jk,h⟩:=p9 h;refine ⟨qa.pl,_,IA Jk,?_⟩;(conv=>whnf);cases IJ
          ·(conv=>whnf);replace h:=rr rfl h;obtain ⟨Oz,Jn,h⟩:=p9 h;refine ⟨rfl,_,Iz Jn,?_⟩;(conv=>whnf);exact p8 h jJ rfl rfl
          ·(conv=>whnf);replace h:=rq rfl h;obtain ⟨Ox,KO,h⟩:=p9 h;refine ⟨qa.pl,_,r8 KO,?_⟩;(conv=>whnf);obtain ⟨Oy,Jl,h⟩:=p9 h;refine ⟨qa.pl,_,KB Jl,?_⟩;(conv=>whnf);refine bs h (fun J2 h=>?_) fun J2 h=>?_
           ·rw [J2];(conv=>whnf);refine bs h (fun Jm h=>?_) fun Jm h=>?_
            ·rw [Jm];(conv=>whnf);refine bs h (fun KP h=>?_) fun KP h=>?_
             ·rw [KP];(conv=>whnf);refine bs h (fun J3 h=>?_) fun J3 h=>?_
              ·rw [J3];(conv=>whnf);obtain ⟨Mw,KQ,h⟩:=p9 h;refine ⟨rfl,_,Iz KQ,?_⟩;(conv=>whnf);exact p8 h jJ rfl rfl
              ·rw [J3];(conv=>whnf);exact p8 h jJ rfl rfl
             ·rw [KP];(conv=>whnf);exact p8 h jJ rfl rfl
            ·rw [Jm];(conv=>whnf);exact p8 h jJ rfl rfl
           ·rw [J2];(conv=>whnf);exact p8 h jJ rfl rfl
     ·rw [JY];(conv=>whnf);exact p8 h jJ rfl rfl
    ·rw [JX];(conv=>whnf);exact p8 h jJ rfl rfl
end Go.Proofs.YtkoioidpbbbaiaaGreat.Ab


namespace Go.Proofs.YtkoioidpbbbaiaaGreat.Ab
open Go
set_option maxRecDepth 20000
set_option maxHeartbeats 1000000
theorem adV {α β:Type} [Inhabited α] [Inhabited β] {l:List α} (g:α→β) {j:Int} (h:0≤j∧j<(l.length:Int)):ix (l.map g) j=g (ix l j):=by
 obtain ⟨i,rfl⟩:∃ i:Nat,j=(i:Int):=⟨j.toNat,by omega⟩;rw [rJ (by simp;omega),rJ (by omega),tK]
theorem ahw {S:List qq} {o:List Int} (g:qq→qq) (jJ:JM S o) {i:Nat} (hi:i<o.length):qM (S.map g) o i=g (qM S o i):=adV g (jJ i hi)
theorem Sx {S:List qq} {o:List Int} {a:Nat} (g:qq→qq) (f:qq→Int) (jJ:JM S o):rh (S.map g) o a f=rh S o a fun s=>f (g s):=by
 unfold rh;refine Kx fun i hi=>?_;rw [ahw g jJ hi]
theorem WQ {p q:qf} (ao:q.1.length=p.1.length) {c:Int} (ak:0≤c) (h:∀ o,qu p.1.length o→qH q o=c*qH p o):HW q=c*HW p:=by
 have ab:HW q≤qH q (Ib p):=Rs (by rw [ao];exact LP p);rw [h _ (LP p)] at ab;have aJ:qu p.1.length (Ib q):=by rw [←ao];exact LP q
 have ae:=Int.mul_le_mul_of_nonneg_left (Rs aJ) ak;rw [←h _ aJ] at ae;show qH q (Ib q)=_;have iR:qH q (Ib q)≤c*qH p (Ib p):=ab;show qH q (Ib q)=c*qH p (Ib p);omega
theorem WO {p q:qf} (ao:q.1.length=p.1.length) (h:∀ o,qu p.1.length o→qH q o=qH p o):HW q=HW p:=by
 have:=WQ ao (c:=1) (by omega) fun o k=>by rw [h o k];omega
 omega
theorem acx {S:List qq} {lo hi lo' hi':Int} (ab:lo'≤lo) (ae:lo≤hi) (aF:hi≤hi') (o:List Int):qH (S,(lo,hi)) o≤qH (S,(lo',hi')) o:=by
 have e1:=Ry (p:=(S,(lo',hi'))) (o:=o) (lo:=lo') (d:=lo) (hi:=hi') ab (by omega);have b':=Ry (p:=(S,(lo',hi'))) (o:=o) (lo:=lo') (d:=hi) (hi:=hi') (by omega) aF;show max (Hz (S,(lo',hi')) o lo) (Hz (S,(lo',hi')) o hi)≤max (Hz (S,(lo',hi')) o lo') (Hz (S,(lo',hi')) o hi');omega
def Ku (d:Int) (s:qq):qq:=(s.1+d*s.2,s.2)
theorem abK (D d:Int) (s:qq):q7 (D-d) (Ku d s)=q7 D s:=by unfold q7 Ku;simp only;grind
section
variable {p:qf}
theorem Wv (h:rj p) {Hu:Int} (aP:0≤Hu∧Hu≤255) {K:List qq→Option Bool}:∀ (m i:Nat),i≤p.1.length→p.1.length-i<m →
  MZ p Hu K m (i:Int) ((p.1.take i).map (Ku (Hu.tmod (p.2.1+1))))=K (p.1.map (Ku (Hu.tmod (p.2.1+1))))
 | 0,_,_,h=>absurd h (by omega)
 | m+1,i,hi,hm=>by
   have bD:=h.lo;have GO:=h.hi;have hle:=h.le;have aI:=h.len;rw [MZ];by_cases aR:i<p.1.length
   ·have da:0≤Hu.tmod (p.2.1+1):=uF _ aP.1;have db:=uG Hu (show 0<p.2.1+1 by omega);have ah:=h.s _ (JD (l:=p.1) (i:=(i:Int)) (by omega));have bm:=Hm (a:=Hu.tmod (p.2.1+1)) (b:=(ix p.1 (i:Int)).2) (A:=50) (B:=10) (by omega) ⟨ah.2.2.1,ah.2.2.2⟩;have cw:=ah.1;have e2:=ah.2.1;rw [if_pos (decide_eq_true (by omega)),qF (by omega),qF (by omega),qF (by omega),qF (by simp;omega),Ik i (by omega),qC (n:=Hu) (by omega),qC (n:=p.2.1+1) (by omega),qC (n:=Hu.tmod (p.2.1+1)*(ix p.1 (i:Int)).2) (by omega),qC (by omega)];have a8:=Wv h aP (K:=K) m (i+1) (by omega) (by omega);rw [uo aR,sJ,←rJ aR] at a8;exact a8
   ·(obtain rfl:i=p.1.length:=by omega);rw [if_neg (by simp),List.take_length]
theorem ajr (p:qf) {Q:List Int} (bp:∀ b∈Q,0≤b∧b≤255) {lw aO Hu:Int} (ab:0≤lw∧lw≤255) (ae:0≤aO∧aO≤255) (aF:0≤Hu∧Hu≤255):QO p Q lw aO Hu=some true:=by
 unfold QO;rw [O3,sb];by_cases ak:rz p=0
 ·rw [if_pos (decide_eq_true ak)];have h:=IV.1 ak;have bD:=h.lo;have GO:=h.hi;have hle:=h.le;have aI:=h.len;by_cases a_:(20:Int)<(Q.length:Int)
  ·rw [if_pos (decide_eq_true a_),works];rfl
  ·rw [if_neg (by simpa using a_),qC (n:=p.2.1+1) (by omega),qF (by omega)];obtain ⟨o,k,aq⟩:=Zn (n:=p.1.length) (by omega) bp (by omega);refine (Wv h aF qj 0 (by omega) (It (by omega))).trans ?_;have da:0≤Hu.tmod (p.2.1+1):=uF _ aF.1;have db:=uG Hu (show 0<p.2.1+1 by omega);rw [qC (n:=lw) (by omega),qC (n:=aO) (by omega),qC (n:=Hu) (by omega),qC (n:=p.2.1-lw) (by omega),qC (n:=p.2.2+aO) (by omega)];obtain ⟨d,a1⟩:∃ d,d=Hu.tmod (p.2.1+1):=⟨_,rfl⟩;rw [←a1] at da db ⊢;rw [qC (n:=p.2.1-d) (by omega),qC (n:=p.2.2-d) (by omega)];have hw:rj (p.1,(max 0 (p.2.1-lw),min 50 (p.2.2+aO))):=⟨h.n,h.s,by simp only;omega,by simp only;omega,by simp only;omega⟩;have kw:qu (p.1,(max 0 (p.2.1-lw),min 50 (p.2.2+aO))).1.length o:=k;rw [aq,sb,NU h,sb,NU hw,sb,Qx h k,sb,Qx hw kw,sb];have a7:∀ o,qH p o≤qH (p.1,(max 0 (p.2.1-lw),min 50 (p.2.2+aO))) o:=fun o=>acx (S:=p.1) (by omega) hle (by omega) o;have a9:HW p≤HW (p.1,(max 0 (p.2.1-lw),min 50 (p.2.2+aO))):=by
    have:=Rs (p:=p) (o:=Ib (p.1,(max 0 (p.2.1-lw),min 50 (p.2.2+aO)))) (LP _);exact Int.le_trans this (a7 _)
   have bt:=a7 o;rw [if_pos rfl,if_pos rfl,if_neg (by simp),if_neg (by simp),if_neg (by simpa using a9),if_neg (by simpa using bt),O3,sb];by_cases h8:rz (p.1.map (Ku d),(p.2.1-d,p.2.2-d))=0
   ·have ad:=IV.1 h8;(have adY:qu (p.1.map (Ku d),(p.2.1-d,p.2.2-d)).1.length o:=by simpa using k);rw [if_pos (decide_eq_true h8),NU ad,sb,Qx ad adY,sb];have e1:∀ o,qu p.1.length o→qH (p.1.map (Ku d),(p.2.1-d,p.2.2-d)) o=qH p o:=fun o k=>by
     have em:∀ a D,q6 (p.1.map (Ku d),(p.2.1-d,p.2.2-d)) o a (D-d)=q6 p o a D:=fun a D=>by
      show rh (p.1.map (Ku d)) o a (q7 (D-d))=_;rw [Sx _ _ (Ho k)];simp only [abK]
     unfold qH Hz;simp only [em]
    have b':HW (p.1.map (Ku d),(p.2.1-d,p.2.2-d))=HW p:=WO (by simp) e1;rw [if_pos rfl,if_pos (decide_eq_true b'),if_pos (by simp),if_pos (decide_eq_true (e1 o k)),works];rfl
   ·rw [if_neg (by simpa using h8),works];rfl
 ·rw [if_neg (by simpa using ak),works];rfl
theorem acA (p:qf) {Q:List Int} (bp:∀ b∈Q,0≤b∧b≤255) {lw aO Hu:Int} (ab:0≤lw∧lw≤255) (ae:0≤aO∧aO≤255) (aF:0≤Hu∧Hu≤255):qB 9 [Xd p,.av (Q.map q4) Q.length .shared,q4 lw,q4 aO,q4 Hu] (B true):=ajq (ajr p bp ab ae aF)
end
end Go.Proofs.YtkoioidpbbbaiaaGreat.Ab
