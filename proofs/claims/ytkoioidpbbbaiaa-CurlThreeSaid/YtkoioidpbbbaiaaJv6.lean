
import Derived.Test.YtkoioidpbbbaiaaJv5
import Derived.KernelRfl
import Derived.Test.YtkoioidpbbbaiaaJv4
import Derived.Test.YtkoioidpbbbaiaaProg
set_option linter.unusedSimpArgs false
set_option linter.unusedVariables false
set_option linter.unusedSectionVars false

open Array renaming length_toList→sY
open Bool renaming and_true→tu
open Classical renaming choose_spec→uA
open Int renaming le_refl→sU,toNat_natCast→tw
open List renaming any_eq_true→vF,append_assoc→sx,append_nil→sM,drop_eq_getElem_cons→s7,drop_length→vb,exists_cons_of_ne_nil→tM,filter_append→uc,filter_congr→uj,filter_cons_of_neg→uC,filter_cons_of_pos→u_,filter_eq_self→tC,filter_filter→uS,find?_eq_none→vG,flatMap_append→ui,getD_eq_getElem?_getD→sw,getElem?_append→sj,getElem?_append_right→ss,getElem?_eq_getElem→si,getElem?_eq_some_iff→sa,getElem?_map→sm,getElem_map→ub,getElem_of_mem→uY,length_append→sy,length_cons→sK,length_eq_zero_iff→sO,length_erase_of_mem→tV,length_map→sX,length_nil→tK,length_take→sZ,map_append→sP,map_cons→sE,map_set→tI,mem_append→th,mem_cons→sA,mem_filter→tc,mem_flatMap→tL,mem_map→sC,mem_map_of_mem→tf,mem_range→sH,mem_singleton→sS,nil_append→tP,nodup_append→uo,nodup_cons→tW,not_mem_nil→tS,set_append_right→uW,take_length→uZ,take_of_length_le→tg,take_succ_eq_append_getElem→vd
open Nat renaming add_assoc→td,le_refl→sc,lt_succ_self→sG,zero_add→sB,zero_le→sD
open Option renaming bind_some→sb,map_eq_some_iff→r_,map_some→se
namespace Go.Proofs.Ytkoioidpbbbaiaa.Ab
open Go
set_option maxRecDepth 20000
set_option maxHeartbeats 4000000
theorem WC (l:List Int) (ao:l.length≤1000):Seq Try.prog 75 [.bS [.av (l.map h0) l.length .shared]] (l.map h0):=by
 intro L N qI hlen fq ai Y;obtain ⟨Z,KC,J7⟩:=ae_ ai Y;have rV:(l.map h0).length=l.length:=by simp
 have TM:∀ j (h:j<l.length),Sem Try.prog (.yield L) [h0 l[j]] (qI j++Z j) 0 (.bool true) (qI (j+1)++Z (j+1)):=fun j aw=>by
  have:=J7 j (by rw [rV];exact aw);rw [ub] at this;exact this
 refine ⟨Z l.length,?_⟩;rw [rV];refine ri eG acm rfl (Ix ?_) fun Q bp=>?_
 ·have key:∀ j,j≤l.length→(qI 0++Y).length≤(qI j++Z j).length:=fun j=>by
   induction j with
   | zero=>intro _;rw [KC];exact sc _
   | succ j a8=>intro aw;exact Nat.le_trans (a8 (by omega)) (TM j (by omega)).1.1
  exact key l.length (sc _)
 unfold Wl;conv=>whnf
 refine .intro (fun m T H=>∃ j:Nat,j≤l.length∧m=l.length-j∧T=qa 16 [(0,.yield L),(5,.av (l.map h0) l.length .shared),(6,h0 (l.length:Int)),(7,h0 (j:Int))]∧H=qI j++Z j) l.length ⟨0,sD _,rfl,rfl,by rw [KC]⟩ ?_;rintro m T H ⟨j,aw,rfl,rfl,rfl⟩;conv=>whnf
 refine Hm (fun JH=>?_) (fun JH=>?_)
 ·have aR:j<l.length:=by omega
  have af:0≤(j:Int)∧(j:Int)<(l.length:Int):=by omega
  conv=>whnf
  refine ⟨af,?_⟩;rw [rb h0 l (j:Int) af];conv=>whnf
  rw [rI aR];refine ⟨_,_,re (TM j aR),?_⟩;conv=>whnf
  refine ⟨l.length-(j+1),by omega,j+1,by omega,rfl,?_,rfl⟩;rw [show ((j+1:Nat):Int)=IntKind.i64.wrap ((j:Int)+1) by rw [Hj _ (by omega) (by omega)];omega];rfl
 ·obtain rfl:j=l.length:=by omega
  conv=>whnf
  exact bp _ _ _ ⟨.inl rfl,lJ.refl _,rfl⟩
def IP (l:List Int):List Int:=(Sort.insertionSort Sort.ltInt l.toArray 0 l.length).toList
theorem T4 (lt:Int→Int→Bool) (d:Array Int) (a b:Nat):(Sort.insertionSort lt d a b).size=d.size:=by
 have kF:∀ (j:Nat) (d:Array Int),(Sort.insInner lt a j d).size=d.size:=fun j=>by
  induction j with
  | zero=>intro d;rfl
  | succ j a8 =>
    intro d;rw [Sort.insInner];split
    ·rw [a8,swp_size]
    ·rfl
 show (Sort.insOuter lt a b (a+1) d).size=d.size
 have:∀ (n i:Nat) (d:Array Int),b-i=n→(Sort.insOuter lt a b i d).size=d.size:=fun n=>by
  induction n with
  | zero=>intro i d h;rw [Sort.insOuter.eq_1,if_neg (by omega)]
  | succ n a8=>intro i d h;rw [Sort.insOuter.eq_1,if_pos (by omega),a8 _ _ (by omega),kF]
 exact this _ _ d rfl
section
variable {H:List ar} {lo:Nat}
theorem abI:Sem Go.Proofs.Try.prog (.fn 96) [.av [] 0 .full,h0 0,h0 0] H lo (.tuple []) H:=by
 refine ri eG Uy rfl (ba.refl _ _) fun Q bp=>?_;unfold QG;conv=>whnf
 refine .intro (fun m T H'=>T=qa 49 [(0,.av [] 0 .full),(1,h0 0),(2,h0 0),(6,h0 1)]∧H=H') 0 ⟨rfl,rfl⟩ ?_;rintro m T H' ⟨rfl,rfl⟩;conv=>whnf
 exact bp _ _ _ ⟨.inl rfl,⟨by simp,fun j o aw=>.inr aw⟩,rfl⟩
theorem adE {Jc:Int}:Sem Go.Proofs.Try.prog (.fn 89) [.av [] 0 .full,h0 0,h0 0,h0 Jc] H lo (.tuple []) H:=by
 refine ri eG Ux rfl (ba.refl _ _) fun Q bp=>?_;unfold QE;obtain ⟨Pn,I9⟩:∃ c,MD=c:=⟨_,rfl⟩;rw [I9];conv=>whnf
 refine .intro (fun m T H'=>T=qa 134 [(0,.av [] 0 .full),(1,h0 0),(2,h0 0),(3,h0 Jc),(8,B true),(9,B true)]∧H'=H) 0 ⟨rfl,rfl⟩ ?_;rintro m T H' ⟨rfl,rfl⟩;subst I9;unfold MD;obtain ⟨a7,cf⟩:∃ c,MC=c:=⟨_,rfl⟩;obtain ⟨Pm,Kz⟩:∃ c,QF=c:=⟨_,rfl⟩;rw [cf,Kz];conv=>whnf
 subst cf;unfold MC;conv=>whnf
 refine ⟨_,_,re abI,?_⟩;conv=>whnf
 exact bp _ _ _ ⟨.inr rfl,⟨rfl,fun j o aw=>.inr aw⟩,rfl⟩
theorem afi:Sem Go.Proofs.Try.prog (.fn 74) [.av [] 0 .full] H lo (.tuple []) H:=by
 refine ri eG UD rfl (ba.refl _ _) fun Q bp=>?_;unfold Re;conv=>whnf
 refine ⟨by first | rfl | simp only [List.all_cons,List.all_nil,LA,LJ,LB,LD,LC,LF,LL,LK,JO,LG,LH,LI,tu,Bool.and_self],_,Ni 0 (by decide),?_⟩
 conv=>whnf
 refine ⟨_,_,re adE,?_⟩;conv=>whnf
 exact bp _ _ _ ⟨.inl rfl,⟨by simp,fun j o aw=>.inr aw⟩,rfl⟩
end
def OB (l:List Int):Option (List Int):=if l.length≤12 then some (IP l) else none
theorem RN {l v:List Int} (h:OB l=some v):qu 58 [.func 75 [] [.bS [.av (l.map h0) l.length .shared]]] (.av (v.map h0) v.length .shared):=by
 unfold OB at h;split at h
 ·rename_i ak;obtain rfl:=Option.some.inj h;by_cases aQ:l.length=0
  ·obtain rfl:=sO.1 aQ;have Lp:IP []=[]:=sO.1 (by unfold IP;rw [sY,T4];rfl);rw [Lp];have hk:[I.bS [.av (([]:List Int).map h0) ([]:List Int).length .shared]].all (cr 7)=true:=rfl;refine qH eG UA rfl (rA (fun _=>rfl) _ _ _) fun Q bp=>?_;unfold Q2 Wa;(conv=>whnf);refine ⟨_,_,Mj (p5 (IM rfl hk) rfl) (S_ hk (WC [] (by simp)) (by simp)) _ _,?_⟩;(conv=>whnf);refine ⟨_,_,re afi,?_⟩;(conv=>whnf);refine ⟨_,_,fun C=>rfl,?_⟩;(conv=>whnf);exact bp _ _ _ ⟨.inr rfl,_,rfl,_,yY rfl,rfl⟩
  replace ak:0<l.length∧l.length≤12:=⟨by omega,ak⟩;have hk:[I.bS [.av (l.map h0) l.length .shared]].all (cr 7)=true:=p5 (Ic (p5 (rA (fun _=>rfl) _ _ _) rfl)) rfl;have cH:=S_ hk (WC l (by omega)) (by omega);have cp:=afe (lo:=0) (id:=0) (sc 0) l.toArray (by simpa using ak.2) (H:=[Is l.toArray]) rfl;obtain ⟨S,PG⟩:∃ S,S=Sort.insertionSort Sort.ltInt l.toArray 0 l.toArray.size:=⟨_,rfl⟩;have ad:IP l=S.toList:=by rw [PG];unfold IP;simp
  have bR:S.size=l.length:=by rw [PG,T4];simp
  rw [←PG] at cp;rw [ad];have bJ:l≠[]:=fun e=>by rw [e] at ak;exact absurd ak.1 (by decide)
  have abe:Nm l=.av (l.map h0) l.length (.uniq 1):=by
   cases l with
   | nil=>exact absurd rfl bJ
   | cons a l=>rfl
  rw [abe] at cH;refine qH eG UA rfl (rA (fun _=>rfl) _ _ _) fun Q bp=>?_;unfold Q2;conv=>whnf
  refine ⟨_,_,Mj (p5 (IM rfl hk) rfl) cH _ _,?_⟩;conv=>whnf
  refine .inl ⟨by omega,?_⟩;conv=>whnf
  have e1:ar.cells (l.map h0)=Is l.toArray:=rfl;have b':I.ref 0 0 l.length none 1=JZ 0 l.toArray.size:=by unfold JZ;simp
  erw [e1];refine ⟨_,_,re (by show Sem Try.prog (.fn 74) [I.ref 0 0 l.length none 1] [Is l.toArray] 0 (.tuple []) [Is S];rw [b'];exact cp),?_⟩;conv=>whnf
  have cI:rowOf [Is S] (.ref 0 0 l.length none 1)=some (S.toList.map h0):=ae3 rfl (bR.symm.trans sY.symm) fun _=>rfl;refine ⟨.av (S.toList.map h0) l.length .shared,[.dead],fun C=>?_,?_⟩
  ·show ((rowOf [Is S] (.ref 0 0 l.length none 1)).bind fun row=>some (I.av row l.length .shared,[ar.dead]))=_;rw [cI];rfl
  conv=>whnf
  rw [show S.toList.length=l.length from sY.trans bR] at bp;exact bp _ _ _ ⟨.inr rfl,_,rfl,_,yY (rA (fun _=>rfl) _ _ _),rfl⟩
 ·cases h

noncomputable def O0:gE :=
 .loop (some (p8 false [0,2,5,2,10])) (p2 [p0 9 [.nd 8,.nd 7] (.bin .lss)] (.seq (.cond (.nd 9) .skip (.exit 0)) (.seq (.block 1 (p2 [p3 10 8,p1 5 10] (p2 [p3 11 1,p3 12 0,p3 13 5,q5 14 12 13 1,qf 15 14,p0 16 [.nd 11,.nd 15] (.call 6)] (.cond (.nd 16) (p2 [p1 17 5,p1 4 17] .ret) .skip)))) (qG [qT 18 8 1,p1 8 18]))))
noncomputable def Yy:gE :=
 p2 [qc 4 0] (.seq (p2 [p3 6 0,qU 7 6,qc 8 0] (.block 0 O0)) (p2 [qc 4 (-1)] .ret))
theorem ade:ql Try.prog Ph 76=some (Yy,19,[.tmp 4]):=by kernel_rfl
def JA (s:qb) (f:(Int→Option Bool)) (qd:Unit→Option Int):Nat→Int→Option Int
 | 0,_=>none
 | m+1,s1 =>
   if (decide (s1<(s.length:Int)))=true then
    qy (0≤s1∧s1<(s.length:Int)) <|
    (f (ix s s1)).bind fun aS =>
    if aS=true then
     some s1
    else
     JA s f qd m (w (s1+(1:Int)))
   else
    qd ()
def M' (s:qb) (f:(Int→Option Bool)):Option Int :=
 JA s f (fun _ =>
   some (-1:Int)) qk (0:Int)
theorem ag1 {s:qb} {f:(Int→Option Bool)} {qd:Unit→Option Int} {s1:Int} {rW:FuncId} {rp:List I} (Ht:Hx rp) (Ja:∀ (q4:Int) (r:Bool),f q4=some r→qu rW ((h0 q4)::rp) (B r)) {v:Int} {Q:HL}   (jK:qJ [.tmp 4] Q (fun v=>(h0 v)) v) (rn:∀ (qe:List I),qd ()=some v→rm 19 [] qe→Q (.exit 0) qe []) {T:List I} (b0:eZ (p8 false [0,2,5,2,10]) T=qa 19 [(0,(qM s .shared)),(1,(.func rW [] rp)),(7,(h0 (s.length:Int))),(8,(h0 s1))]) (h:JA s f qd qk s1=some v) :
  dQ Try.prog Ph 76 0 none O0 T [] Q:=by
 unfold O0;refine wp_loop b0 ?_;refine .intro (fun m T H=>∃ (s1:Int),T=qa 19 [(0,(qM s .shared)),(1,(.func rW [] rp)),(7,(h0 (s.length:Int))),(8,(h0 s1))]∧H=[]∧JA s f qd m s1=some v) qk ⟨s1,rfl,rfl,h⟩ ?_;clear h b0;rintro m T H ⟨s1,rfl,rfl,h⟩;cases m
 ·exact rT h
 rename_i m;rw [JA.eq_2] at h;conv=>whnf
 refine bs h (fun gM h=>?_) fun gM h=>?_
 ·rw [gM];conv=>whnf
  refine qV h id fun gN h=>?_;rw [rb h0 s s1 gN];conv=>whnf
  obtain ⟨aS,qs,h⟩:=p9 h;refine ⟨_,_,call6 (bs:=((h0 (ix s s1))::rp)) (by simp only [sE,Ht.iD,Ht.cc];rfl) (by simp only [sE,Ht.iD];exact (p5 rfl Ht.R')) (Ja _ _ qs) rfl,?_⟩;conv=>whnf
  cases aS
  ·(conv=>whnf);replace h:=HC rfl h;exact ⟨m,sG m,(w (s1+(1:Int))),rfl,rfl,h⟩
  ·(conv=>whnf);replace h:=HD rfl h;exact qg h jK rfl rfl
 ·rw [gM];conv=>whnf
  exact rn  _ h ⟨rfl,rfl⟩
theorem ag2 {s:qb} {f:(Int→Option Bool)} {rW:FuncId} {rp:List I} (Ht:Hx rp) (Ja:∀ (q4:Int) (r:Bool),f q4=some r→qu rW ((h0 q4)::rp) (B r)) {v:Int} (h:M' s f=some v):qu 76 [(.av (s.map h0) s.length .shared),(.func rW [] rp)] (h0 v):=by
 refine qH eG ade rfl rfl fun Q bp=>?_;have jK:qJ [.tmp 4] Q (fun v=>(h0 v)) v:=fun T H bE=>bp _ T H bE;unfold M' at h;unfold Yy;obtain ⟨HY,qF⟩:∃ c,O0=c:=⟨_,rfl⟩;rw [qF];conv=>whnf
 subst qF;refine ag1 Ht Ja ?_ ?_ (by exact rfl) h
 ·exact fun T H bE=>jK T H bE
 ·intro  qe h qA;obtain ⟨rG,rfl⟩:=qA.ex;conv=>whnf
  exact qg h jK rfl rfl

noncomputable def Ys:gE :=
 p2 [p0 4 [.cv (.bool false)] .mV] (p2 [p1 5 0,p1 6 1,p0 7 [.cv (.func 76 [] []),.nd 5,.nd 6] (.call 6),qw 8 7 0 .geq,p1 4 8] .ret)
theorem ac7:ql Try.prog SI 60=some (Ys,9,[.tmp 4]):=by kernel_rfl
def M9 (s:qb) (f:(Int→Option Bool)):Option Bool :=
 (M' s f).bind fun aS =>
 some (decide ((0:Int)≤aS))
theorem agT {s:qb} {f:(Int→Option Bool)} {rW:FuncId} {rp:List I} (Ht:Hx rp) (Ja:∀ (q4:Int) (r:Bool),f q4=some r→qu rW ((h0 q4)::rp) (B r)) {v:Bool} (h:M9 s f=some v):qu 60 [(.av (s.map h0) s.length .shared),(.func rW [] rp)] (B v):=by
 refine qH eG ac7 rfl rfl fun Q bp=>?_;have jK:qJ [.tmp 4] Q (fun v=>(B v)) v:=fun T H bE=>bp _ T H bE;unfold M9 at h;unfold Ys;conv=>whnf
 obtain ⟨aS,gM,h⟩:=p9 h;refine ⟨_,_,Po (cs:=[(qM s .shared),(.func rW [] rp)]) (bs:=[(qM s .shared),(.func rW [] rp)]) (J' rfl (J' (Ht.fn _ _) Mx)) (by rfl) (by exact (p5 (rA (fun _=>rfl) _ _ _) (p5 (Ht.U8 _) rfl))) (ag2 Ht Ja gM) rfl,?_⟩;conv=>whnf
 exact qg h jK rfl rfl

noncomputable def Yt:gE :=
 p2 [p0 4 [.cv (.bool false)] .mV] (p2 [p3 5 0,qf 6 1,qo 7 5 6 .lss,p1 8 7,cl 9 [.jq 0] 8 false .mV,cl 10 [.Bu 2] 8 false (.zG .one),cl 11 [.Bu 9,.Bu 10] 8 false (.bin .gtr),p0 12 [.Bu 8,.cv (.bool true),.Bu 11] .pick,p1 4 12] .ret)
theorem ac8:ql Try.prog SJ 61=some (Yt,13,[.tmp 4]):=by kernel_rfl
def K9 (n g9 a7:Int):Option Bool :=
 if (decide (n<g9))=true then
  some true
 else
  some (decide (a7<n))
theorem agU {n:Int} {g9:Int} {a7:Int} {v:Bool} (h:K9 n g9 a7=some v):qu 61 [(h0 n),(.bS [(h0 g9)]),(.bS [(h0 a7)])] (B v):=by
 refine qH eG ac8 rfl rfl fun Q bp=>?_;have jK:qJ [.tmp 4] Q (fun v=>(B v)) v:=fun T H bE=>bp _ T H bE;unfold K9 at h;unfold Yt;conv=>whnf
 refine bs h (fun gM h=>?_) fun gM h=>?_
 ·rw [gM];conv=>whnf
  exact qg h jK rfl rfl
 ·rw [gM];conv=>whnf
  exact qg h jK rfl rfl

noncomputable def Yi:gE :=
 p2 [p0 3 [.jq 0] .box,p0 4 [.jq 1] .box,p0 6 [.cv (.bool false)] .mV] (p2 [p1 7 2,p0 8 [.Bu 3,.Bu 4] (.z0 61 0 2),p0 9 [.cv (.func 60 [] []),.nd 7,.nd 8] (.call 6),p0 10 [.Bu 9] (.un .not),p1 6 10] .ret)
theorem acX:ql Try.prog St 37=some (Yi,11,[.tmp 6]):=by kernel_rfl
def IA (lo hi:Int) (l:qb):Option Bool :=
 (M9 l (fun q4=>K9 q4 lo hi)).bind fun aS =>
 some (!aS)
theorem Kl {lo:Int} {hi:Int} {l:qb} {v:Bool} (h:IA lo hi l=some v):qu 37 [(h0 lo),(h0 hi),(.av (l.map h0) l.length .shared)] (B v):=by
 refine qH eG acX rfl rfl fun Q bp=>?_;have jK:qJ [.tmp 6] Q (fun v=>(B v)) v:=fun T H bE=>bp _ T H bE;unfold IA at h;unfold Yi;conv=>whnf
 obtain ⟨aS,gM,h⟩:=p9 h;refine ⟨_,_,Po (cs:=[(qM l .shared),(.func 61 [] [(.bS [(h0 lo)]),(.bS [(h0 hi)])])]) (bs:=[(qM l .shared),(.func 61 [] [(.bS [(h0 lo)]),(.bS [(h0 hi)])])]) (J' rfl (J' (afc Mx (J' (WM (cs:=[(h0 lo)]) (by first | exact qC.h | rfl | (simp [sj,I.settle];done)) rfl) (J' (WM (cs:=[(h0 hi)]) (by first | exact qC.h | rfl | (simp [sj,I.settle];done)) rfl) Mx))) Mx)) (by rfl) (by exact (p5 (rA (fun _=>rfl) _ _ _) (p5 (IM rfl (p5 (Ic (p5 rfl rfl)) (p5 (Ic (p5 rfl rfl)) rfl))) rfl))) (agT ⟨(p5 (Ic (p5 rfl rfl)) (p5 (Ic (p5 rfl rfl)) rfl)),by simp⟩ (fun _ _ aY=>agU aY) gM) rfl,?_⟩
 conv=>whnf
 exact qg h jK rfl rfl

noncomputable def Yj:gE :=
 p2 [p0 1 [.jq 0] .box,p0 2 [.cv (.bool false)] .mV] (p2 [p0 3 [.nd 1] (.yO 0),qf 4 3,p0 5 [.Bu 4] (.yD 1 1 [.int .i64 0] [0]),p0 6 [.cv (.func 37 [] []),.cv (.int .i64 0),.cv (.int .i64 100),.nd 5] (.call 3),p0 7 [.Bu 6] (.un .not),p1 8 7,cl 9 [.Bu 1] 8 false (.yO 1),cl 10 [.Bu 9] 8 false (.zG .one),⟨some 11,[.Bu 10],some (8,false),none,.yD 1 1 [.int .i64 0] [0]⟩,⟨some 12,[.cv (.func 37 [] []),.cv (.int .i64 (-10)),.cv (.int .i64 10),.nd 11],some (8,false),none,.call 3⟩,cl 13 [.Bu 12] 8 false (.un .not),p0 14 [.Bu 8,.cv (.bool true),.Bu 13] .pick,p1 2 14] .ret)
theorem acY:ql Try.prog Sx 44=some (Yj,15,[.tmp 2]):=by kernel_rfl
def Km (s:(Int×Int)):Option Bool :=
 (IA (0:Int) (100:Int) [s.1]).bind fun aS =>
 if aS=true then
  (IA (-10:Int) (10:Int) [s.2]).bind fun bj =>
  some (!bj)
 else
  some true
theorem XH {s:(Int×Int)} {v:Bool} (h:Km s=some v):qu 44 [(.agg [(h0 s.1),(h0 s.2)])] (B v):=by
 refine qH eG acY rfl rfl fun Q bp=>?_;have jK:qJ [.tmp 2] Q (fun v=>(B v)) v:=fun T H bE=>bp _ T H bE;unfold Km at h;unfold Yj;conv=>whnf
 obtain ⟨aS,gM,h⟩:=p9 h;refine ⟨(p5 rfl (p5 rfl (p5 rfl rfl))),_,Kl gM,?_⟩;conv=>whnf
 cases aS
 ·conv=>whnf
  replace h:=HC rfl h;exact qg h jK rfl rfl
 ·conv=>whnf
  replace h:=HD rfl h;obtain ⟨bj,gN,h⟩:=p9 h;refine ⟨(p5 rfl (p5 rfl (p5 rfl rfl))),_,Kl gN,?_⟩;conv=>whnf
  exact qg h jK rfl rfl

noncomputable def OH:gE :=
 .loop (some (p8 false [0,2,5,2,10])) (p2 [p0 9 [.nd 8,.nd 7] (.bin .lss)] (.seq (.cond (.nd 9) .skip (.exit 0)) (.seq (.block 1 (p2 [p3 10 8,p1 5 10] (p2 [p3 11 1,p3 12 0,p3 13 5,q5 14 12 13 2,p0 15 [.Bu 14] (.zG (.str 2)),p0 16 [.nd 11,.nd 15] (.call 6)] (.cond (.nd 16) (p2 [p1 17 5,p1 4 17] .ret) .skip)))) (qG [qT 18 8 1,p1 8 18]))))
noncomputable def XZ:gE :=
 p2 [qc 4 0] (.seq (p2 [p3 6 0,qU 7 6,qc 8 0] (.block 0 OH)) (p2 [qc 4 (-1)] .ret))
theorem acC:ql Try.prog Pg 64=some (XZ,19,[.tmp 4]):=by kernel_rfl
def KU (s:qj) (f:((Int×Int)→Option Bool)) (qd:Unit→Option Int):Nat→Int→Option Int
 | 0,_=>none
 | m+1,s1 =>
   if (decide (s1<(s.length:Int)))=true then
    qy (0≤s1∧s1<(s.length:Int)) <|
    (f (ix s s1)).bind fun aS =>
    if aS=true then
     some s1
    else
     KU s f qd m (w (s1+(1:Int)))
   else
    qd ()
def On (s:qj) (f:((Int×Int)→Option Bool)):Option Int :=
 KU s f (fun _ =>
   some (-1:Int)) qk (0:Int)
theorem af3 {s:qj} {f:((Int×Int)→Option Bool)} {qd:Unit→Option Int} {s1:Int} {rW:FuncId} {rp:List I} (Ht:Hx rp) (Ja:∀ (q4:(Int×Int)) (r:Bool),f q4=some r→qu rW ((.agg [(h0 q4.1),(h0 q4.2)])::rp) (B r)) {v:Int} {Q:HL}   (jK:qJ [.tmp 4] Q (fun v=>(h0 v)) v) (rn:∀ (qe:List I),qd ()=some v→rm 19 [] qe→Q (.exit 0) qe []) {T:List I} (b0:eZ (p8 false [0,2,5,2,10]) T=qa 19 [(0,(q' s .shared)),(1,(.func rW [] rp)),(7,(h0 (s.length:Int))),(8,(h0 s1))]) (h:KU s f qd qk s1=some v) :
  dQ Try.prog Pg 64 0 none OH T [] Q:=by
 unfold OH;refine wp_loop b0 ?_;refine .intro (fun m T H=>∃ (s1:Int),T=qa 19 [(0,(q' s .shared)),(1,(.func rW [] rp)),(7,(h0 (s.length:Int))),(8,(h0 s1))]∧H=[]∧KU s f qd m s1=some v) qk ⟨s1,rfl,rfl,h⟩ ?_;clear h b0;rintro m T H ⟨s1,rfl,rfl,h⟩;cases m
 ·exact rT h
 rename_i m;rw [KU.eq_2] at h;conv=>whnf
 refine bs h (fun gM h=>?_) fun gM h=>?_
 ·rw [gM];conv=>whnf
  refine qV h id fun gN h=>?_;rw [Ib p7 2 Je s s1 gN];conv=>whnf
  obtain ⟨aS,qs,h⟩:=p9 h;refine ⟨_,_,call6 (bs:=((.agg [(h0 (ix s s1).1),(h0 (ix s s1).2)])::rp)) (by simp only [sE,Ht.iD,Ht.cc];rfl) (by simp only [sE,Ht.iD];exact (p5 (HU (p5 rfl (p5 rfl rfl))) Ht.R')) (Ja _ _ qs) rfl,?_⟩;conv=>whnf
  cases aS
  ·(conv=>whnf);replace h:=HC rfl h;exact ⟨m,sG m,(w (s1+(1:Int))),rfl,rfl,h⟩
  ·(conv=>whnf);replace h:=HD rfl h;exact qg h jK rfl rfl
 ·rw [gM];conv=>whnf
  exact rn  _ h ⟨rfl,rfl⟩
theorem af4 {s:qj} {f:((Int×Int)→Option Bool)} {rW:FuncId} {rp:List I} (Ht:Hx rp) (Ja:∀ (q4:(Int×Int)) (r:Bool),f q4=some r→qu rW ((.agg [(h0 q4.1),(h0 q4.2)])::rp) (B r)) {v:Int} (h:On s f=some v):qu 64 [(.av (s.flatMap p7) s.length .shared),(.func rW [] rp)] (h0 v):=by
 refine qH eG acC rfl rfl fun Q bp=>?_;have jK:qJ [.tmp 4] Q (fun v=>(h0 v)) v:=fun T H bE=>bp _ T H bE;unfold On at h;unfold XZ;obtain ⟨HY,qF⟩:∃ c,OH=c:=⟨_,rfl⟩;rw [qF];conv=>whnf
 subst qF;refine af3 Ht Ja ?_ ?_ (by exact rfl) h
 ·exact fun T H bE=>jK T H bE
 ·intro  qe h qA;obtain ⟨rG,rfl⟩:=qA.ex;conv=>whnf
  exact qg h jK rfl rfl

noncomputable def Yx:gE :=
 p2 [p0 4 [.cv (.bool false)] .mV] (p2 [p1 5 0,p1 6 1,p0 7 [.cv (.func 64 [] []),.nd 5,.nd 6] (.call 6),qw 8 7 0 .geq,p1 4 8] .ret)
theorem adb:ql Try.prog Sw 43=some (Yx,9,[.tmp 4]):=by kernel_rfl
def M_ (s:qj) (f:((Int×Int)→Option Bool)):Option Bool :=
 (On s f).bind fun aS =>
 some (decide ((0:Int)≤aS))
theorem ag0 {s:qj} {f:((Int×Int)→Option Bool)} {rW:FuncId} {rp:List I} (Ht:Hx rp) (Ja:∀ (q4:(Int×Int)) (r:Bool),f q4=some r→qu rW ((.agg [(h0 q4.1),(h0 q4.2)])::rp) (B r)) {v:Bool} (h:M_ s f=some v):qu 43 [(.av (s.flatMap p7) s.length .shared),(.func rW [] rp)] (B v):=by
 refine qH eG adb rfl rfl fun Q bp=>?_;have jK:qJ [.tmp 4] Q (fun v=>(B v)) v:=fun T H bE=>bp _ T H bE;unfold M_ at h;unfold Yx;conv=>whnf
 obtain ⟨aS,gM,h⟩:=p9 h;refine ⟨_,_,Po (cs:=[(q' s .shared),(.func rW [] rp)]) (bs:=[(q' s .shared),(.func rW [] rp)]) (J' rfl (J' (Ht.fn _ _) Mx)) (by rfl) (by exact (p5 (Hv (fun _=>(p5 rfl (p5 rfl rfl))) _ _ _) (p5 (Ht.U8 _) rfl))) (af4 Ht Ja gM) rfl,?_⟩;conv=>whnf
 exact qg h jK rfl rfl

noncomputable def OX:gE :=
 .cond (.nd 3) (p2 [qc 2 6] .ret) (p2 [p0 18 [.nd 1] (.yO 0),qf 19 18,p0 20 [.cv (.func 43 [] []),.nd 19,.cv (.func 44 [] [])] (.call 3),p1 21 20,cl 22 [.nd 1] 21 false (.yO 1),cl 23 [.Bu 22] 21 false (.yO 0),cl 24 [.Bu 23] 21 false (.zG .one),cl 25 [.nd 1] 21 false (.yO 1),cl 26 [.Bu 25] 21 false (.yO 1),cl 27 [.Bu 26] 21 false (.zG .one),⟨some 28,[.Bu 24,.Bu 27],some (21,false),none,.yD 2 1 [.int .i64 0] [0,1]⟩,⟨some 29,[.cv (.func 37 [] []),.cv (.int .i64 0),.cv (.int .i64 50),.nd 28],some (21,false),none,.call 3⟩,cl 30 [.Bu 29] 21 false (.un .not),p0 31 [.Bu 21,.cv (.bool true),.Bu 30] .pick,p1 32 31,cl 33 [.nd 1] 32 false (.yO 1),cl 34 [.Bu 33] 32 false (.yO 0),cl 35 [.Bu 34] 32 false (.zG .one),cl 36 [.Bu 1] 32 false (.yO 1),cl 37 [.Bu 36] 32 false (.yO 1),cl 38 [.Bu 37] 32 false (.zG .one),cl 39 [.Bu 35,.Bu 38] 32 false (.bin .gtr),p0 40 [.Bu 32,.cv (.bool true),.Bu 39] .pick,p1 17 40] (.cond (.nd 17) (p2 [qc 2 3] .ret) .skip))
noncomputable def Yp:gE :=
 p2 [p0 1 [.jq 0] .box,qc 2 0] (.seq (.block 0 (p2 [p0 4 [.nd 1] (.yO 0),qf 5 4,qU 6 5,p0 7 [.Bu 6] (.yD 1 1 [.int .i64 0] [0]),p0 8 [.cv (.func 37 [] []),.cv (.int .i64 3),.cv (.int .i64 7),.nd 7] (.call 3),p0 9 [.Bu 8] (.un .not),p1 10 9,cl 11 [.nd 1] 10 false (.yO 0),cl 12 [.Bu 11] 10 false (.zG .one),cl 13 [.jq 12] 10 false .zL,cl 14 [.Bu 13,.cv (.int .i64 2)] 10 false (.bin .rem),cl 15 [.Bu 14,.cv (.int .i64 0)] 10 false (.bin .eql),p0 16 [.Bu 10,.cv (.bool true),.Bu 15] .pick,p1 3 16] OX)) (p2 [qc 2 0] .ret))
theorem ac4:ql Try.prog O7 16=some (Yp,41,[.tmp 2]):=by kernel_rfl
def L_ (p:(qj×(Int×Int))) (NB:Unit→Option Int) (dE:Bool):Option Int :=
 if dE=true then
  some (6:Int)
 else
  (M_ p.1 (fun q4=>Km q4)).bind fun bj =>
  if bj=true then
   some (3:Int)
  else
   (IA (0:Int) (50:Int) [p.2.1,p.2.2]).bind fun eK =>
   if eK=true then
    if (decide (p.2.2<p.2.1))=true then
     some (3:Int)
    else
     NB ()
   else
    some (3:Int)
def M6 (p:(qj×(Int×Int))):Option Int :=
 (IA (3:Int) (7:Int) [(p.1.length:Int)]).bind fun aS =>
 if aS=true then
  qy ((2:Int)≠0) <|
  L_ p (fun _ =>
    some (0:Int)) (decide (((p.1.length:Int).tmod (2:Int))=(0:Int)))
 else
  L_ p (fun _ =>
    some (0:Int)) true
theorem XU {p:(qj×(Int×Int))} {NB:Unit→Option Int} {dE:Bool} {v:Int} {Q:HL}  {qe:List I}  (jK:qJ [.tmp 2] Q (fun v=>(h0 v)) v) (abt:∀ (bx:ar) (qe:List I),NB ()=some v→rm 41 [] qe→Q .normal qe [bx]) (qA:rm 41 [(1,(.ptr 0 0)),(3,(B dE))] qe) (h:L_ p NB dE=some v) :
  dQ Try.prog O7 16 0 none OX qe [ar.cells [(q' p.1 .shared),(h0 p.2.1),(h0 p.2.2)]] Q:=by
 obtain ⟨rG,rfl⟩:=qA.ex;unfold L_ at h;unfold OX;conv=>whnf
 cases dE
 ·conv=>whnf
  replace h:=HC rfl h;obtain ⟨bj,qs,h⟩:=p9 h;refine ⟨(p5 (Hv (fun _=>(p5 rfl (p5 rfl rfl))) _ _ _) (p5 (IM rfl rfl) rfl)),_,ag0 ⟨rfl,by simp⟩ (fun _ _ aY=>XH aY) qs,?_⟩;conv=>whnf
  cases bj
  ·(conv=>whnf);replace h:=HC rfl h;obtain ⟨eK,qP,h⟩:=p9 h;refine ⟨(p5 rfl (p5 rfl (p5 rfl rfl))),_,Kl qP,?_⟩;(conv=>whnf);cases eK
   ·(conv=>whnf);replace h:=HC rfl h;exact qg h jK rfl rfl
   ·(conv=>whnf);replace h:=HD rfl h;refine bs h (fun rj h=>?_) fun rj h=>?_
    ·rw [rj];(conv=>whnf);exact qg h jK rfl rfl
    ·rw [rj];(conv=>whnf);exact abt _ _ h ⟨rfl,rfl⟩
  ·(conv=>whnf);replace h:=HD rfl h;exact qg h jK rfl rfl
 ·conv=>whnf
  replace h:=HD rfl h;exact qg h jK rfl rfl
theorem M7 {p:(qj×(Int×Int))} {v:Int} (h:M6 p=some v):qu 16 [(.agg [(.av (p.1.flatMap p7) p.1.length .shared),(h0 p.2.1),(h0 p.2.2)])] (h0 v):=by
 refine qH eG ac4 rfl rfl fun Q bp=>?_;have jK:qJ [.tmp 2] Q (fun v=>(h0 v)) v:=fun T H bE=>bp _ T H bE;unfold M6 at h;unfold Yp;obtain ⟨HY,qF⟩:∃ c,OX=c:=⟨_,rfl⟩;rw [qF];conv=>whnf
 obtain ⟨aS,gM,h⟩:=p9 h;refine ⟨(p5 rfl (p5 rfl (p5 rfl rfl))),_,Kl gM,?_⟩;conv=>whnf
 cases aS
 ·conv=>whnf
  replace h:=HC rfl h;subst qF;refine XU ?_ ?_ (by exact ⟨rfl,rfl⟩) h
  ·exact fun T H bE=>jK T H bE
  ·intro bx qe h qA;obtain ⟨rG,rfl⟩:=qA.ex;(conv=>whnf);exact qg h jK rfl rfl
 ·conv=>whnf
  replace h:=HD rfl h;refine qV h id fun gN h=>?_;conv=>whnf
  subst qF;refine XU ?_ ?_ (by exact ⟨rfl,rfl⟩) h
  ·exact fun T H bE=>jK T H bE
  ·intro bx qe h qA;obtain ⟨rG,rfl⟩:=qA.ex;(conv=>whnf);exact qg h jK rfl rfl

noncomputable def Yq:gE :=
 p2 [p0 1 [.jq 0] .box,p0 2 [.cv .a0] .mV] (p2 [p0 3 [.Bu 1] (.z0 75 0 1),p1 2 3] .ret)
theorem ac5:ql Try.prog SH 59=some (Yq,4,[.tmp 2]):=by kernel_rfl
def OC (s:qb):Option Unit :=
 some ()
theorem RO {s:qb} {v:Unit} (h:OC s=some v):qu 59 [(.av (s.map h0) s.length .shared)] (.func 75 [] [(.bS [(.av (s.map h0) s.length .shared)])]):=by
 refine qH eG ac5 rfl (IM rfl (p5 (Ic (p5 (rA (fun _=>rfl) _ _ _) rfl)) rfl)) fun Q bp=>?_;have jK:qJ [.tmp 2] Q (fun v=>(.func 75 [] [(.bS [(qM s .shared)])])) v:=fun T H bE=>bp _ T H bE;unfold OC at h;unfold Yq;conv=>whnf
 exact jK _ _ ⟨.inr rfl,_,rfl,_,(Tt Iy (rk (Tv (l:=[(qM s .shared)]) (by first | exact qC.h | rfl | (simp [sj,I.settle];done)) (p5 (rA (fun _=>rfl) _ _ _) rfl)) Iy)),rfl⟩

def Mc (x:((qj×(Int×Int))×Unit)):List I:=[(q' x.1.1 .shared),(h0 x.1.2.1),(h0 x.1.2.2),Hg]
instance {d:Nat} {x:((qj×(Int×Int))×Unit)}:qi (d+2) (Mc x):=⟨(inferInstance:qi (d+2) [(q' x.1.1 .shared),(h0 x.1.2.1),(h0 x.1.2.2),Hg]).pl⟩
noncomputable def JB:gE :=
 .loop (some (p8 false [2,1,5,1,8,3,6,3,19])) (p2 [p0 29 [.nd 28,.nd 27] (.bin .lss)] (.seq (.cond (.nd 29) .skip (.exit 2)) (.seq (.block 3 (p2 [p3 30 28,p0 31 [.nd 26,.nd 28] (.kZ 1),qf 32 31,p1 10 30,p1 11 32] (p2 [p1 33 11,p1 34 10,qo 35 33 34 .neq] (.cond (.nd 35) (p2 [p0 4 [.cv .eI] .mV,qc 5 16] .ret) .skip)))) (qG [qT 36 28 1,p1 28 36]))))
noncomputable def I4:gE :=
 .loop (some (p8 false [2,1,14,3,28])) (p2 [p0 20 [.nd 19,.nd 18] (.bin .lss)] (.seq (.cond (.nd 20) .skip (.exit 0)) (.seq (.block 1 (p2 [p0 21 [.nd 17,.nd 19] (.kZ 1),qf 22 21,p1 8 22] (p2 [p3 23 8,p0 24 [.cv (.func 59 [] []),.nd 23] (.call 3),p0 25 [.cv (.func 58 [] []),.nd 24] (.call 3),p1 9 25] (.seq (p2 [p1 26 9,p0 27 [.nd 26] .zL,qc 28 0] (.block 2 JB)) (p2 [p1 37 8,qU 38 37,p0 39 [.nd 2] (.yO 0),qf 40 39,qU 41 40,qo 42 38 41 .neq] (.cond (.nd 42) (p2 [p0 4 [.cv .eI] .mV,qc 5 16] .ret) .skip)))))) (qG [qT 43 19 1,p1 19 43]))))
noncomputable def Mb:gE :=
 p2 [p0 2 [.jq 0] .box,p0 4 [.cv .eI] .mV,qc 5 0] (.seq (p2 [p0 12 [.nd 2] (.zG (.str 3)),p0 13 [.cv (.func 16 [] []),.nd 12] (.call 3),p1 6 13] (p2 [p3 14 6,qw 15 14 0 .neq] (.cond (.nd 15) (p2 [p1 16 6,p0 4 [.cv .eI] .mV,p1 5 16] .ret) .skip))) (.seq (p2 [p1 17 1,p0 18 [.nd 17] .zL,qc 19 0] (.block 0 I4)) (p2 [p0 44 [.Bu 2] (.zG (.str 3)),p0 45 [] .z1,p0 46 [.Bu 44,.Bu 45] (.build [.av [] 0 .full,.int .i64 0,.int .i64 0,.a0] [(0,3),(3,1)]),p0 47 [.jq 46] .box,p1 4 47,qc 5 0] .ret)))
theorem Mw:ql Try.prog J1 36=some (Mb,48,[.tmp 4,.tmp 5]):=by kernel_rfl
def Iq (eK:qb) (rC:Unit→Option ((Option ((qj×(Int×Int))×Unit))×Int)):Nat→Int→Option ((Option ((qj×(Int×Int))×Unit))×Int)
 | 0,_=>none
 | m+1,s2 =>
   if (decide (s2<(eK.length:Int)))=true then
    qy (0≤s2∧s2<(eK.length:Int)) <|
    if (decide ((ix eK s2)≠s2))=true then
     some (none,(16:Int))
    else
     Iq eK rC m (w (s2+(1:Int)))
   else
    rC ()
def Hw (p:(qj×(Int×Int))) (p':Kr) (qd:Unit→Option ((Option ((qj×(Int×Int))×Unit))×Int)):Nat→Int→Option ((Option ((qj×(Int×Int))×Unit))×Int)
 | 0,_=>none
 | m+1,s1 =>
   if (decide (s1<(p'.length:Int)))=true then
    qy (0≤s1∧s1<(p'.length:Int)) <|
    (OC (ix p' s1)).bind fun bj =>
    (OB (ix p' s1)).bind fun eK =>
    Iq eK (fun _ =>
      if (decide (((ix p' s1).length:Int)≠(p.1.length:Int)))=true then
       some (none,(16:Int))
      else
       Hw p p' qd m (w (s1+(1:Int)))) qk (0:Int)
   else
    qd ()
def rD (p:(qj×(Int×Int))) (p':Kr):Option ((Option ((qj×(Int×Int))×Unit))×Int) :=
 (M6 p).bind fun aS =>
 if (decide (aS≠(0:Int)))=true then
  some (none,aS)
 else
  Hw p p' (fun _ =>
    some ((some (p,())),(0:Int))) qk (0:Int)
theorem agz {eK:qb} {rC:Unit→Option ((Option ((qj×(Int×Int))×Unit))×Int)} {s2:Int} {p:(qj×(Int×Int))} {p':Kr} {s1:Int} {v:((Option ((qj×(Int×Int))×Unit))×Int)} {Q:HL}   (jK:qJ [.tmp 4,.tmp 5] Q (fun v=>(.tuple [(Lx Mc v.1),(h0 v.2)])) v) (JI:∀ (qe:List I),rC ()=some v→rm 48 [(2,(.ptr 0 0)),(8,(qM (ix p' s1) .shared)),(17,(.av (p'.map oY) p'.length .shared)),(18,(h0 (p'.length:Int))),(19,(h0 s1))] qe→Q (.exit 2) qe [ar.cells [(q' p.1 .shared),(h0 p.2.1),(h0 p.2.2)]]) {T:List I} (b0:eZ (p8 false [2,1,5,1,8,3,6,3,19]) T=qa 48 [(2,(.ptr 0 0)),(8,(qM (ix p' s1) .shared)),(17,(.av (p'.map oY) p'.length .shared)),(18,(h0 (p'.length:Int))),(19,(h0 s1)),(26,(qM eK .shared)),(27,(h0 (eK.length:Int))),(28,(h0 s2))]) (h:Iq eK rC qk s2=some v) :
  dQ Try.prog J1 36 0 none JB T [ar.cells [(q' p.1 .shared),(h0 p.2.1),(h0 p.2.2)]] Q:=by
 unfold JB;refine wp_loop b0 ?_;refine .intro (fun m T H=>∃ (s2:Int),T=qa 48 [(2,(.ptr 0 0)),(8,(qM (ix p' s1) .shared)),(17,(.av (p'.map oY) p'.length .shared)),(18,(h0 (p'.length:Int))),(19,(h0 s1)),(26,(qM eK .shared)),(27,(h0 (eK.length:Int))),(28,(h0 s2))]∧H=[ar.cells [(q' p.1 .shared),(h0 p.2.1),(h0 p.2.2)]]∧Iq eK rC m s2=some v) qk ⟨s2,rfl,rfl,h⟩ ?_;clear h b0;rintro m T H ⟨s2,rfl,rfl,h⟩;cases m
 ·exact rT h
 rename_i m;rw [Iq.eq_2] at h;conv=>whnf
 refine bs h (fun qX h=>?_) fun qX h=>?_
 ·rw [qX];conv=>whnf
  refine qV h id fun Hr h=>?_;rw [rb h0 eK s2 Hr];conv=>whnf
  refine bs h (fun rN h=>?_) fun rN h=>?_
  ·rw [rN];(conv=>whnf);exact qg h jK rfl rfl
  ·rw [rN];(conv=>whnf);exact ⟨m,sG m,(w (s2+(1:Int))),rfl,rfl,h⟩
 ·rw [qX];conv=>whnf
  exact JI  _ h ⟨rfl,rfl⟩
theorem agy {p:(qj×(Int×Int))} {p':Kr} {qd:Unit→Option ((Option ((qj×(Int×Int))×Unit))×Int)} {s1:Int} {v:((Option ((qj×(Int×Int))×Unit))×Int)} {Q:HL}   (jK:qJ [.tmp 4,.tmp 5] Q (fun v=>(.tuple [(Lx Mc v.1),(h0 v.2)])) v) (rn:∀ (qe:List I),qd ()=some v→rm 48 [(2,(.ptr 0 0))] qe→Q (.exit 0) qe [ar.cells [(q' p.1 .shared),(h0 p.2.1),(h0 p.2.2)]]) {T:List I} (b0:eZ (p8 false [2,1,14,3,28]) T=qa 48 [(2,(.ptr 0 0)),(17,(.av (p'.map oY) p'.length .shared)),(18,(h0 (p'.length:Int))),(19,(h0 s1))]) (h:Hw p p' qd qk s1=some v) :
  dQ Try.prog J1 36 0 none I4 T [ar.cells [(q' p.1 .shared),(h0 p.2.1),(h0 p.2.2)]] Q:=by
 unfold I4;obtain ⟨HY,qF⟩:∃ c,JB=c:=⟨_,rfl⟩;rw [qF];refine wp_loop b0 ?_;refine .intro (fun m T H=>∃ (s1:Int),T=qa 48 [(2,(.ptr 0 0)),(17,(.av (p'.map oY) p'.length .shared)),(18,(h0 (p'.length:Int))),(19,(h0 s1))]∧H=[ar.cells [(q' p.1 .shared),(h0 p.2.1),(h0 p.2.2)]]∧Hw p p' qd m s1=some v) qk ⟨s1,rfl,rfl,h⟩ ?_;clear h b0;rintro m T H ⟨s1,rfl,rfl,h⟩;cases m
 ·exact rT h
 rename_i m;rw [Hw.eq_2] at h;conv=>whnf
 refine bs h (fun qs h=>?_) fun qs h=>?_
 ·rw [qs];conv=>whnf
  refine qV h id fun qP h=>?_;rw [rb oY p' s1 qP];conv=>whnf
  obtain ⟨bj,rj,h⟩:=p9 h;refine ⟨qi.pl,_,RO rj,?_⟩;conv=>whnf
  obtain ⟨eK,rU,h⟩:=p9 h;refine ⟨(p5 (IM rfl (p5 (Ic (p5 (rA (fun _=>rfl) _ _ _) rfl)) rfl)) rfl),_,RN  rU,?_⟩;conv=>whnf
  subst qF;refine agz ?_ ?_ (by exact rfl) h
  ·exact fun T H bE=>jK T H bE
  ·intro  qe h qA;obtain ⟨rG,rfl⟩:=qA.ex;(conv=>whnf);refine bs h (fun Hq h=>?_) fun Hq h=>?_
   ·rw [Hq];(conv=>whnf);exact qg h jK rfl rfl
   ·rw [Hq];(conv=>whnf);exact ⟨m,sG m,(w (s1+(1:Int))),rfl,rfl,h⟩
 ·rw [qs];conv=>whnf
  exact rn  _ h ⟨rfl,rfl⟩
theorem L7 {p:(qj×(Int×Int))} {p':Kr} {v:((Option ((qj×(Int×Int))×Unit))×Int)} (h:rD p p'=some v):qu 36 [(.agg [(.av (p.1.flatMap p7) p.1.length .shared),(h0 p.2.1),(h0 p.2.2)]),(.av (p'.map oY) p'.length .shared)] (.tuple [(Lx Mc v.1),(h0 v.2)]):=by
 refine qH eG Mw rfl (Jf (p5 (U' (fun _=>(p5 (Hv (fun _=>(p5 rfl (p5 rfl rfl))) _ _ _) (p5 rfl (p5 rfl (p5 rfl rfl))))) _) (p5 rfl rfl))) fun Q bp=>?_;have jK:qJ [.tmp 4,.tmp 5] Q (fun v=>(.tuple [(Lx Mc v.1),(h0 v.2)])) v:=fun T H bE=>bp _ T H bE;unfold rD at h;unfold Mb;obtain ⟨Kx,rM⟩:∃ c,I4=c:=⟨_,rfl⟩;rw [rM];conv=>whnf
 obtain ⟨aS,gM,h⟩:=p9 h;refine ⟨qi.pl,_,M7 gM,?_⟩;conv=>whnf
 refine bs h (fun gN h=>?_) fun gN h=>?_
 ·rw [gN];conv=>whnf
  exact qg h jK rfl rfl
 ·rw [gN];conv=>whnf
  subst rM;refine agy ?_ ?_ (by exact rfl) h
  ·exact fun T H bE=>jK T H bE
  ·intro  qe h qA;obtain ⟨rG,rfl⟩:=qA.ex;(conv=>whnf);obtain rfl:=Option.some.inj h;exact jK _ _ ⟨.inr rfl,_,rfl,_,(Mk (rk (aaq (l:=[(q' p.1 .shared),(h0 p.2.1),(h0 p.2.2),(.map 1)]) (by first | exact qC.h | rfl | (simp [sj,I.settle];done)) (rk (yY (Hv (fun _=>(p5 rfl (p5 rfl rfl))) _ _ _)) (rk (yY rfl) (rk (yY rfl) (rk (Tu (by simp) (by simp)) Iy))))) (rk (yY rfl) Iy))),rfl⟩
end Go.Proofs.Ytkoioidpbbbaiaa.Ab


namespace Go.Proofs.Ytkoioidpbbbaiaa.Ab
open Go
section
variable {P:Program}
theorem call9 {k:FuncId} {xs bs:List I} {H:List ar} {lo:Nat} {v:I} (af:(xs.map I.gw).map I.cc=bs) (aB:(xs.map I.gw).all (cr 8)=true) (h:np P k bs v):oW P 9 lo (.fn k) xs H v.cc H:=by
 subst af;refine ⟨_,EC h.1,?_⟩;simp only [eQ,aB,EB,sb,yY h.2,se]
theorem ae9 {k:FuncId} {args:List I} {H H':List ar} {lo:Nat} {r:I} (h:Sem P (.fn k) (args.map I.gw) H lo r H'):Sem P (.fn k) args H lo r H':=by
 obtain ⟨aQ,ab,ae⟩:=h;exact ⟨aQ,ab,fun B aa J S w vs ag aI ad=>ae B aa J S w vs ag aI ad.gw⟩
theorem ZG {k:FuncId} {args:List I} {es:List (Nat×I×I)} {clock:Nat} {D:List ar} (cu:(args.map I.gw).all (cr 8)=true) (I':∀ (j i:Nat) (k v:I),es[j]?=some (i,k,v)→cr 8 k=true∧cr 8 v=true)
  (h:Sem P (.fn k) (args.map I.gw) [] 0 (.map 0) (.map es clock::D)) (H:List ar) (lo:Nat):oW P 2 lo (.fn k) args H (.map H.length) (H++[.map es clock]):=by
 refine ⟨_,EC (ae9 (ae7 cu I' h H)),?_⟩;have e1:Cp H.length (.map H.length)=some H.length:=by simp [Cp,yW]
 have b':(H++[ar.map es clock])[H.length]?=some (.map es clock):=by simp
 have dB:bM (H++[ar.map es clock]) H.length H.length H.length 8 (.map H.length)=some (.map H.length):=by simp [bM]
 have gb:DN 2 H.length (H++[ar.map es clock]) (.map H.length)=some H.length:=e1;simp only [eQ,EB,sb,gb,b',dB,sc,if_true,UG fun j i k v aw=>⟨yY (I' j i k v aw).1,yY (I' j i k v aw).2⟩]
def I.KQ:I→I
 | .av c n (.own _)=>.av c n .shared
 | v=>v
variable {J:List Nat} {S:Nat→Nat→Prop} {w:World} {aa:Nat→Option aH}
theorem aeS {u:I} {v:Value} (h:Rel J S w u v):Rel J S w u.KQ v:=by
 unfold I.KQ;split
 ·rename_i c n z;exact h.view rfl
 ·exact h
theorem adz {l:aH} {u:I} {v:Value} (h:aU aa J S w l u v):aU aa J S w l u.KQ v:=by
 unfold I.KQ;split
 ·exact aU.b4 rfl
 ·exact h
theorem afH {bA:Nat→aH} {T:List I} {bc:List Value} (h:a5 bA aa J S w T bc):a5 bA aa J S w (T.map I.KQ) bc :=
 ⟨by simpa using h.len,fun i u v hu ad=>by
  rw [sm] at hu;simp only [r_] at hu;obtain ⟨x,aj,rfl⟩:=hu;exact aeS (h.rel i x v aj ad),fun i u v hu ad=>by
  rw [sm] at hu;simp only [r_] at hu
  obtain ⟨x,aj,rfl⟩:=hu;exact adz (h.own i x v aj ad)⟩
theorem ae8 {k:FuncId} {args:List I} {H H':List ar} {lo:Nat} {r:I} (h:Sem P (.fn k) (args.map I.KQ) H lo r H'):Sem P (.fn k) args H lo r H':=by
 obtain ⟨aQ,ab,ae⟩:=h;exact ⟨aQ,ab,fun B aa J S w vs ag aI ad=>ae B aa J S w vs ag aI (afH ad)⟩
theorem adO {k:FuncId} {args:List I} {v:I} (h:np P k (args.map I.KQ) v):np P k args v:=⟨ae8 h.1,h.2⟩
end
end Go.Proofs.Ytkoioidpbbbaiaa.Ab


namespace Go.Proofs.Ytkoioidpbbbaiaa.Ab
open Go
set_option maxRecDepth 20000
set_option maxHeartbeats 4000000
abbrev p_:=(List (Int×Int))×(Int×Int)
abbrev rv (p:p_):ar:=ar.cells [(.av (p.1.flatMap p7) p.1.length .shared),(h0 p.2.1),(h0 p.2.2)]
abbrev Lb (p:p_) (p':List (List Int)):List I:=[(.agg [(.av (p.1.flatMap p7) p.1.length .shared),(h0 p.2.1),(h0 p.2.2)]),(.av (p'.map oY) p'.length .shared)]
theorem agA {eK:(List Int)} {rC:Unit→Option ((Option (((List (Int×Int))×(Int×Int))×Unit))×Int)} {s2:Int} {p:((List (Int×Int))×(Int×Int))} {p':(List (List Int))} {s1:Int} {v:((Option (((List (Int×Int))×(Int×Int))×Unit))×Int)} {Q:cQ→List I→List ar→Prop}   (jK:∀ (e:Int) (T:List I),v=(none,e)→rF [rv p] T [.tmp 4,.tmp 5]=some [.eI,h0 e]→Q .ret T [rv p]) (JI:∀ (qe:List I),rC ()=some v→rm 48 [(2,(.ptr 0 0)),(8,(.av ((ix p' s1).map h0) (ix p' s1).length .shared)),(17,(.av (p'.map oY) p'.length .shared)),(18,(h0 (p'.length:Int))),(19,(h0 s1))] qe→Q (.exit 2) qe [ar.cells [(.av (p.1.flatMap p7) p.1.length .shared),(h0 p.2.1),(h0 p.2.2)]]) {T:List I} (b0:eZ [false,false,true,false,false,false,false,false,true,false,false,false,false,false,false,false,false,true,true,true,false,false,false,false,false,false,true,true,true,false,false,false,false,false,false,false,false,false,false,false,false,false,false,false,false,false,false,false] T=qa 48 [(2,(.ptr 0 0)),(8,(.av ((ix p' s1).map h0) (ix p' s1).length .shared)),(17,(.av (p'.map oY) p'.length .shared)),(18,(h0 (p'.length:Int))),(19,(h0 s1)),(26,(.av (eK.map h0) eK.length .shared)),(27,(h0 (eK.length:Int))),(28,(h0 s2))]) (h:Iq eK rC qk s2=some v) :
  dQ Try.prog J1 36 0 none JB T [ar.cells [(.av (p.1.flatMap p7) p.1.length .shared),(h0 p.2.1),(h0 p.2.2)]] Q:=by
 unfold JB;skip;refine wp_loop b0 ?_;refine .intro (fun m T H=>∃ (s2:Int),T=qa 48 [(2,(.ptr 0 0)),(8,(.av ((ix p' s1).map h0) (ix p' s1).length .shared)),(17,(.av (p'.map oY) p'.length .shared)),(18,(h0 (p'.length:Int))),(19,(h0 s1)),(26,(.av (eK.map h0) eK.length .shared)),(27,(h0 (eK.length:Int))),(28,(h0 s2))]∧H=[ar.cells [(.av (p.1.flatMap p7) p.1.length .shared),(h0 p.2.1),(h0 p.2.2)]]∧Iq eK rC m s2=some v) qk ⟨s2,rfl,rfl,h⟩ ?_;clear h b0;rintro m T H ⟨s2,rfl,rfl,h⟩;cases m
 ·exact rT h
 rename_i m;rw [Iq.eq_2] at h;conv=>whnf
 refine bs h (fun qX h=>?_) fun qX h=>?_
 ·rw [qX];conv=>whnf
  refine qV h id fun Hr h=>?_;rw [rb h0 eK s2 Hr];conv=>whnf
  refine bs h (fun rN h=>?_) fun rN h=>?_
  ·rw [rN];(conv=>whnf);obtain rfl:=Option.some.inj h;exact jK _ _ rfl rfl
  ·rw [rN];(conv=>whnf);exact ⟨m,sG m,(w (s2+(1:Int))),rfl,rfl,h⟩
 ·rw [qX];conv=>whnf
  exact JI  _ h ⟨rfl,rfl⟩
theorem XC {p:((List (Int×Int))×(Int×Int))} {p':(List (List Int))} {qd:Unit→Option ((Option (((List (Int×Int))×(Int×Int))×Unit))×Int)} {s1:Int} {v:((Option (((List (Int×Int))×(Int×Int))×Unit))×Int)} {Q:cQ→List I→List ar→Prop}   (jK:∀ (e:Int) (T:List I),v=(none,e)→rF [rv p] T [.tmp 4,.tmp 5]=some [.eI,h0 e]→Q .ret T [rv p]) (rn:∀ (qe:List I),qd ()=some v→rm 48 [(2,(.ptr 0 0))] qe→Q (.exit 0) qe [ar.cells [(.av (p.1.flatMap p7) p.1.length .shared),(h0 p.2.1),(h0 p.2.2)]]) {T:List I} (b0:eZ [false,false,true,false,false,false,false,false,false,false,false,false,false,false,false,false,false,true,true,true,false,false,false,false,false,false,false,false,false,false,false,false,false,false,false,false,false,false,false,false,false,false,false,false,false,false,false,false] T=qa 48 [(2,(.ptr 0 0)),(17,(.av (p'.map oY) p'.length .shared)),(18,(h0 (p'.length:Int))),(19,(h0 s1))]) (h:Hw p p' qd qk s1=some v) :
  dQ Try.prog J1 36 0 none I4 T [ar.cells [(.av (p.1.flatMap p7) p.1.length .shared),(h0 p.2.1),(h0 p.2.2)]] Q:=by
 unfold I4;obtain ⟨HY,qF⟩:∃ c,JB=c:=⟨_,rfl⟩;rw [qF];refine wp_loop b0 ?_;refine .intro (fun m T H=>∃ (s1:Int),T=qa 48 [(2,(.ptr 0 0)),(17,(.av (p'.map oY) p'.length .shared)),(18,(h0 (p'.length:Int))),(19,(h0 s1))]∧H=[ar.cells [(.av (p.1.flatMap p7) p.1.length .shared),(h0 p.2.1),(h0 p.2.2)]]∧Hw p p' qd m s1=some v) qk ⟨s1,rfl,rfl,h⟩ ?_;clear h b0;rintro m T H ⟨s1,rfl,rfl,h⟩;cases m
 ·exact rT h
 rename_i m;rw [Hw.eq_2] at h;conv=>whnf
 refine bs h (fun qs h=>?_) fun qs h=>?_
 ·rw [qs];conv=>whnf
  refine qV h id fun qP h=>?_;rw [rb oY p' s1 qP];conv=>whnf
  obtain ⟨bj,rj,h⟩:=p9 h;refine ⟨qi.pl,_,RO rj,?_⟩;conv=>whnf
  obtain ⟨eK,rU,h⟩:=p9 h;refine ⟨(p5 (IM rfl (p5 (Ic (p5 (rA (fun _=>rfl) _ _ _) rfl)) rfl)) rfl),_,RN  rU,?_⟩;conv=>whnf
  subst qF;refine agA ?_ ?_ (by exact rfl) h
  ·exact fun e T bE ai=>jK e T bE ai
  ·intro  qe h qA;obtain ⟨rG,rfl⟩:=qA.ex;(conv=>whnf);refine bs h (fun Hq h=>?_) fun Hq h=>?_
   ·rw [Hq];(conv=>whnf);obtain rfl:=Option.some.inj h;exact jK _ _ rfl rfl
   ·rw [Hq];(conv=>whnf);exact ⟨m,sG m,(w (s1+(1:Int))),rfl,rfl,h⟩
 ·rw [qs];conv=>whnf
  exact rn  _ h ⟨rfl,rfl⟩
theorem Uh {eK:List Int} {K:Unit→Option (Option (p_×Unit)×Int)} {t:p_×Unit} {e:Int}:∀ {m:Nat} {s:Int},Iq eK K m s=some (some t,e)→K ()=some (some t,e)
 | 0,s,h=>by cases h
 | m+1,s,h=>by
   rw [Iq.eq_2] at h;split at h
   ·obtain ⟨_,h⟩:=rL h;split at h
    ·cases h
    ·exact Uh h
   ·exact h
theorem Ug {p:p_} {p':List (List Int)} {K:Unit→Option (Option (p_×Unit)×Int)} {t:p_×Unit} {e:Int}:∀ {m:Nat} {s:Int},Hw p p' K m s=some (some t,e)→K ()=some (some t,e)
 | 0,s,h=>by cases h
 | m+1,s,h=>by
   rw [Hw.eq_2] at h;split at h
   ·obtain ⟨_,h⟩:=rL h;obtain ⟨bj,_,h⟩:=p9 h;obtain ⟨eK,_,h⟩:=p9 h;have h:=Uh h;split at h
    ·cases h
    ·exact Ug h
   ·exact h
theorem Uf {p:p_} {p':List (List Int)} {t:p_×Unit} {e:Int} (h:Hw p p' (fun _=>some (some (p,()),0)) qk 0=some (some t,e)):t=(p,())∧e=0:=by
 have h:=Ug h;obtain ⟨ab,ae⟩:=Prod.mk.inj (Option.some.inj h);exact ⟨(Option.some.inj ab).symm,ae.symm⟩
theorem XB {p:p_} {p':List (List Int)} {e:Int} (h:rD p p'=some (none,e)):Sem Try.prog (.fn 36) (Lb p p') [] 0 (.tuple [.eI,h0 e]) [rv p]:=by
 refine ri eG Mw rfl (Ix (sD _)) fun Q bp=>?_;have jK:∀ (cV:Int) (T:List I),((none,e):Option (p_×Unit)×Int)=(none,cV)→rF [rv p] T [.tmp 4,.tmp 5]=some [.eI,h0 cV]→Q .ret T [rv p]:=fun cV T he ai=>by
  obtain rfl:=(Prod.mk.inj he).2;exact bp _ _ _ ⟨.inr rfl,lJ.refl _,by rw [ai];rfl⟩
 unfold rD at h;unfold Mb;obtain ⟨Kx,rM⟩:∃ c,I4=c:=⟨_,rfl⟩;rw [rM];conv=>whnf
 obtain ⟨aS,gM,h⟩:=p9 h;refine ⟨qi.pl,_,M7 gM,?_⟩;conv=>whnf
 refine bs h (fun gN h=>?_) fun gN h=>?_
 ·rw [gN];conv=>whnf
  obtain rfl:aS=e:=(Prod.mk.inj (Option.some.inj h)).2;exact jK _ _ rfl rfl
 ·rw [gN];conv=>whnf
  subst rM;refine XC ?_ ?_ (by exact rfl) h
  ·exact fun e T bE ai=>jK e T bE ai
  ·intro  qe h qA;exact absurd (Prod.mk.inj (Option.some.inj h)).1 (by simp)
theorem MY {p:p_} {p':List (List Int)} {t:p_×Unit} {e:Int} (h:rD p p'=some (some t,e)):t=(p,())∧e=0∧Sem Try.prog (.fn 36) (Lb p p') [] 0 (.tuple [.ptr 2 0,h0 0]) [rv p,.map [] 0,.cells [(.av (p.1.flatMap p7) p.1.length .shared),(h0 p.2.1),(h0 p.2.2),.map 1]]:=by
 have ad:t=(p,())∧e=0:=by
  have aX:=h;unfold rD at aX;obtain ⟨aS,gM,aX⟩:=p9 aX;split at aX
  ·cases aX
  ·exact Uf aX
 obtain ⟨rfl,rfl⟩:=ad;refine ⟨rfl,rfl,?_⟩;refine ri eG Mw rfl (Ix (sD _)) fun Q bp=>?_;unfold rD at h;unfold Mb;obtain ⟨Kx,rM⟩:∃ c,I4=c:=⟨_,rfl⟩;rw [rM];conv=>whnf
 obtain ⟨aS,gM,h⟩:=p9 h;refine ⟨qi.pl,_,M7 gM,?_⟩;conv=>whnf
 refine bs h (fun gN h=>?_) fun gN h=>?_
 ·exact absurd (Prod.mk.inj (Option.some.inj h)).1 (by simp)
 ·rw [gN];conv=>whnf
  subst rM;refine XC ?_ ?_ (by exact rfl) h
  ·exact fun e T bE ai=>absurd (Prod.mk.inj bE).1 (by simp)
  ·intro  qe h qA;obtain ⟨rG,rfl⟩:=qA.ex;(conv=>whnf);exact bp _ _ _ ⟨.inr rfl,lJ.refl _,rfl⟩
section
variable {p:p_} {p':List (List Int)}
theorem ZI {e:Int} {lo:Nat} (h:rD p p'=some (none,e)):oW Try.prog 2 lo (.fn 36) (Lb p p') [] (.tuple [.eI,h0 e]) [] :=
 ⟨_,EC (XB h),by
  show (k_ _ _ _ _ _ _ (.fn 36) (Lb p p') [] 0).bind _=_
  rw [EB];rfl⟩
theorem ZH {t:p_×Unit} {e:Int} {lo:Nat} (h:rD p p'=some (some t,e)):oW Try.prog 2 lo (.fn 36) (Lb p p') [] (.tuple [.ptr 0 0,h0 0]) [.cells [(.av (p.1.flatMap p7) p.1.length .shared),(h0 p.2.1),(h0 p.2.2),Hg]] :=
 ⟨_,EC (MY h).2.2,by
  show (k_ _ _ _ _ _ _ (.fn 36) (Lb p p') [] 0).bind _=_;rw [EB];have e1:ea (bM [rv p,.map [] 0,.cells [(.av (p.1.flatMap p7) p.1.length .shared),(h0 p.2.1),(h0 p.2.2),.map 1]] 0 2 0 8) [(.av (p.1.flatMap p7) p.1.length .shared),(h0 p.2.1),(h0 p.2.2),.map 1]=some [(.av (p.1.flatMap p7) p.1.length .shared),(h0 p.2.1),(h0 p.2.2),Hg] :=
   rk (yY (Hv (fun _=>p5 rfl (p5 rfl rfl)) _ _ _)) (rk (yY rfl) (rk (yY rfl) (rk (Tu (by simp) (by simp)) Iy)))
  show (if 0≤2 then (match ea (bM [rv p,.map [] 0,.cells [(.av (p.1.flatMap p7) p.1.length .shared),(h0 p.2.1),(h0 p.2.2),.map 1]] 0 2 0 8) [(.av (p.1.flatMap p7) p.1.length .shared),(h0 p.2.1),(h0 p.2.2),.map 1],bM _ 0 2 0 8 (.tuple [.ptr 2 0,h0 0]) with | some l',some v=>some (v,[]++[ar.cells l']) | _,_=>none) else none)=_
  rw [e1];rfl⟩
end
end Go.Proofs.Ytkoioidpbbbaiaa.Ab


namespace Go.Proofs.Ytkoioidpbbbaiaa.Ab
open Go
noncomputable def Q4:gE :=
 p2 [p0 5 [.Bu 1,.Bu 2,.Bu 3,.nd 4] (.z0 66 0 4),⟨none,[.nd 4,.jq 5],none,none,.st 1⟩] (qG [qf 6 4,p0 7 [.jq 6,.cv (.av [] 0 .full)] (.call 1)])
noncomputable def Q3:gE :=
 p2 [p0 2 [.jq 0] .box] (p2 [p0 3 [] (.alloc [.int .i64 0,.int .i64 0,.int .i64 0,.int .i64 0,.int .i64 0,.int .i64 0,.int .i64 0])] (p2 [p0 4 [] (.alloc [.a0])] Q4))
theorem UB:ql Go.Proofs.Try.prog SL 65=some (Q3,8,[]):=by kernel_rfl
noncomputable def aeu:gE :=
 p2 [qf 18 2,p1 19 0,p0 20 [.jq 18,.jq 19] (.call 1),p1 6 20] .ret
noncomputable def MI:gE :=
 p2 [p1 47 7,p0 48 [.nd 3,.Bu 47] (.zw 7 1),⟨none,[.jq 48,.cv (.int .i64 0)],none,none,.st 1⟩] (p2 [p1 49 8,p0 50 [.Bu 49] (.un .not)] (.cond (.nd 50) (p2 [p0 6 [.cv (.bool false)] .mV] .ret) .skip))
noncomputable def KN:gE :=
 p2 [p0 36 [.nd 4] (.zG .one),p3 37 0,p3 38 0,qU 39 38,p3 40 0,qU 41 40,p0 42 [.jq 37,.jq 39,.jq 41] (.Bj 1 false true true),p3 43 7,p0 44 [.Bu 43] (.yD 1 1 [.int .i64 0] [0]),p0 45 [.jq 42,.jq 44] (.app 1 8),p0 46 [.jq 36,.jq 45] (.call 1),p1 8 46] MI
noncomputable def Q5:gE :=
 .seq (p2 [p3 30 7,p0 31 [.nd 3,.Bu 30] (.zw 7 1),qf 32 31,qw 33 32 0 .gtr] (.cond (.nd 33) (.exit 1) .skip)) (p2 [p3 34 7,p0 35 [.nd 3,.Bu 34] (.zw 7 1),⟨none,[.jq 35,.cv (.int .i64 1)],none,none,.st 1⟩] KN)
noncomputable def Q6:gE :=
 .block 1 (p2 [p3 29 27,p1 7 29] Q5)
noncomputable def Jh:gE :=
 .seq (p2 [qf 21 1,p0 22 [.Bu 21] .z6,qx 23 22 0,qx 24 23 0,qf 25 24,qU 26 25,qc 27 0] (.block 0 (.loop (some (p8 false [0,1,2,2,21,2,24])) (p2 [p0 28 [.nd 27,.nd 26] (.bin .lss)] (.seq (.cond (.nd 28) .skip (.exit 0)) (.seq Q6 (qG [qT 51 27 1,p1 27 51]))))))) (p2 [p0 6 [.cv (.bool true)] .mV] .ret)
noncomputable def KO:gE :=
 .seq (p2 [p3 9 0,qU 10 9,p0 11 [.nd 1] (.zG .one),p0 12 [.Bu 11] .z6,qx 13 12 0,qx 14 13 0,qf 15 14,qU 16 15,qo 17 10 16 .eql] (.cond (.nd 17) aeu .skip)) Jh
noncomputable def KM:gE :=
 p2 [p0 6 [.cv (.bool false)] .mV] KO
theorem ND:ql Go.Proofs.Try.prog J2 66=some (KM,52,[.tmp 6]):=by kernel_rfl
end Go.Proofs.Ytkoioidpbbbaiaa.Ab


namespace Go.Proofs.Ytkoioidpbbbaiaa.Ab
open Go
set_option maxRecDepth 20000
set_option maxHeartbeats 4000000
def II (b:I) (p:Nat):I:=.func 66 [] [b,.ptr p 0,.ptr (p+1) 0,.ptr (p+2) 0]
@[irreducible] def ry (X Y0:List ar) (L:Nat) (b:I) (p:Nat) (U:List Int) (Y:List ar):List ar:=X++(Y0++([.cells [.yield L],.cells (U.map h0),.cells [II b p]]++Y))
section
variable {X Y0 Y:List ar} {L p:Nat} {b:I} {U:List Int} (aB:X.length+Y0.length=p)
include aB
theorem afl:(ry X Y0 L b p U Y)[p]?=some (.cells [.yield L]):=by
 unfold ry;rw [ss (by omega),ss (by omega),show p-X.length-Y0.length=0 by omega];rfl
theorem Ru:(ry X Y0 L b p U Y)[p+1]?=some (.cells (U.map h0)):=by
 unfold ry;rw [ss (by omega),ss (by omega),show p+1-X.length-Y0.length=1 by omega];rfl
theorem WV:(ry X Y0 L b p U Y)[p+2]?=some (.cells [II b p]):=by
 unfold ry;rw [ss (by omega),ss (by omega),show p+2-X.length-Y0.length=2 by omega];rfl
theorem WW (Mf:List Int):(ry X Y0 L b p U Y).set (p+1) (.cells (Mf.map h0))=ry X Y0 L b p Mf Y:=by
 unfold ry;rw [uW _ _ (by omega),uW _ _ (by omega),show p+1-X.length-Y0.length=1 by omega];rfl
end
def rX (l:List Int):I:=match l with | []=>.av [] 0 .full | _=>.av (l.map h0) l.length (.own 1)
theorem afk {KS KT:I} {Q:cQ→List I→List ar→Prop} {begun:List Int} {i n:Nat} {X Y0 Y:List ar} {L p:Nat} {b:I} {U:List Int} (aB:X.length+Y0.length=p) (Hp:U.length=7) (hi:i<7) (af:begun.length≤7)
  (dW:∃ La qz,La.length=X.length∧Sem Try.prog (.fn 66) [.av ((begun++[(i:Int)]).map h0) (begun++[(i:Int)]).length (.uniq 1),b,.ptr p 0,.ptr (p+1) 0,.ptr (p+2) 0] (ry X Y0 L b p U Y) 0 (.bool true) (ry La Y0 L b p U qz) ∧
   Q .normal (qa 52 [(0,rX begun),(3,.ptr (p+1) 0),(4,.ptr (p+2) 0),(26,h0 n),(27,h0 i),(28,KS),(33,KT),(50,.bool false)]) (ry La Y0 L b p (U.set i 0) qz)) :
  dQ Try.prog J2 66 0 none KN (qa 52 [(0,rX begun),(3,.ptr (p+1) 0),(4,.ptr (p+2) 0),(7,h0 i),(26,h0 n),(27,h0 i),(28,KS),(33,KT)]) (ry X Y0 L b p U Y) Q:=by
 obtain ⟨La,qz,ahr,cp,bp⟩:=dW;have TY:La.length+Y0.length=p:=by omega
 have fin:∀ dH,dH=qa 52 [(0,rX begun),(3,.ptr (p+1) 0),(4,.ptr (p+2) 0),(7,h0 i),(8,.bool true),(26,h0 n),(27,h0 i),(28,KS),(33,KT)]→dQ Try.prog J2 66 0 none MI dH (ry La Y0 L b p U qz) Q:=by
  rintro _ rfl;unfold MI;conv=>whnf
  refine ⟨by omega,?_⟩;conv=>whnf
  refine Ex (Ru TY) ?_;conv=>whnf
  rw [show 0+(i:Int).toNat*1=i by omega];refine Gp (by simp;omega) ?_;conv=>whnf
  rw [show (List.map h0 U).set i (I.int IntKind.i64 0)=(U.set i 0).map h0 by rw [tI],WW TY];exact bp
 unfold KN;cases begun with
 | nil =>
   (conv=>whnf);refine Ex (WV aB) ?_;(conv=>whnf);refine ⟨⟨by decide,by decide,by decide⟩,?_⟩;(conv=>whnf);refine ⟨rfl,by decide,?_⟩;(conv=>whnf);refine ⟨by decide,by decide,rfl,?_⟩;(conv=>whnf);refine ⟨_,_,re cp,?_⟩;(conv=>whnf);exact fin _ rfl
 | cons a l =>
   (conv=>whnf);refine Ex (WV aB) ?_;(conv=>whnf);refine ⟨⟨rfl,by omega,sU _⟩,?_⟩;(conv=>whnf);rw [tw,Nat.mul_one,tg (by simp)];refine ⟨rfl,by decide,?_⟩;(conv=>whnf);refine ⟨by decide,by omega,by simp,?_⟩;(conv=>whnf);(have e1:List.map h0 (a::l)++[h0 (i:Int)]=((a::l)++[(i:Int)]).map h0:=by simp);(have b':(a::l).length+1=((a::l)++[(i:Int)]).length:=by simp);refine ⟨_,_,re (by erw [e1,b'];exact cp),?_⟩;(conv=>whnf);exact fin _ rfl
def rf (U:List Int) (n:Nat):List Int:=((List.range n).filter fun i=>decide (U.getD i 0=0)).map fun i:Nat=>(i:Int)
theorem Qi (U:List Int) (n:Nat):rf U (n+1)=rf U n++if U.getD n 0=0 then [(n:Int)] else []:=by
 unfold rf;rw [List.range_succ,uc,sP];by_cases h:U.getD n 0=0
 ·rw [if_pos h,u_ (by simpa using h)];rfl
 ·rw [if_neg h,uC (by simpa using h)];rfl
theorem abW (U:List Int) (n:Nat):(rf U n).Nodup:=by
 unfold rf;refine List.Pairwise.map _ (R:=(·≠·)) (fun a b h=>by omega) ?_;exact List.Pairwise.filter _ List.nodup_range
theorem UM {U:List Int} {n:Nat} {x:Int}:x∈rf U n↔∃ i:Nat,i<n∧U.getD i 0=0∧x=(i:Int):=by
 unfold rf;simp only [sC,tc,sH,decide_eq_true_eq];constructor
 ·rintro ⟨i,⟨ab,ae⟩,rfl⟩;exact ⟨i,ab,ae,rfl⟩
 ·rintro ⟨i,ab,ae,rfl⟩;exact ⟨i,⟨ab,ae⟩,rfl⟩
theorem Lr {U:List Int} {n i:Nat} (hi:i<U.length) (aQ:U.getD i 0=0):rf (U.set i 1) n=(rf U n).erase (i:Int):=by
 rw [(abW U n).erase_eq_filter];unfold rf;rw [List.filter_map,uS];congr 1;refine uj fun x _=>?_;by_cases e:x=i
 ·subst e;simp [hi]
 ·have:((x:Int) != (i:Int))=true:=by simp;omega
  simp only [Function.comp,this,Bool.true_and];congr 1;simp only [sw];rw [List.getElem?_set_ne (by omega)]
def rS (k:Nat) (U:List Int) (n i:Nat):Nat:=((rf U i).flatMap fun x=>(qW k ((rf U n).erase x)).map (x::·)).length
theorem Nn (k:Nat) (U:List Int) (n i:Nat):rS k U n (i+1)=rS k U n i+if U.getD i 0=0 then (qW k ((rf U n).erase (i:Int))).length else 0:=by
 unfold rS;rw [Qi,ui,sy];congr 1;by_cases h:U.getD i 0=0
 ·rw [if_pos h,if_pos h];simp
 ·rw [if_neg h,if_neg h];rfl
theorem abX {U:List Int} {n i:Nat} (hi:i≤n):∃ r,rf U n=rf U i++r:=by
 obtain ⟨d,rfl⟩:=Nat.exists_eq_add_of_le hi;clear hi
 induction d with
 | zero=>exact ⟨[],by simp⟩
 | succ d a8 =>
   obtain ⟨r,ai⟩:=a8;rw [←td,Qi,ai];exact ⟨_,sx ..⟩
theorem Us {k:Nat} {U:List Int} {n i j:Nat} {l:List Int} (hi:i<n) (aQ:U.getD i 0=0) (ao:(qW k ((rf U n).erase (i:Int)))[j]?=some l):(qW (k+1) (rf U n))[rS k U n i+j]?=some ((i:Int)::l):=by
 obtain ⟨r,ai⟩:=abX (U:=U) (n:=n) (i:=i+1) hi;rw [Qi,if_pos aQ] at ai;show ((rf U n).flatMap fun x=>(qW k ((rf U n).erase x)).map (x::·))[rS k U n i+j]?=_;have aw:=(sa.1 ao).1;conv=>lhs;arg 1;arg 2;rw [ai]
 rw [ui,ui,sx,ss (by unfold rS;omega)];rw [show rS k U n i+j-((rf U i).flatMap fun x=>(qW k ((rf U n).erase x)).map (x::·)).length=j by unfold rS;omega];rw [List.getElem?_append_left (by simp;exact aw)];simp [ao]
theorem Nl {α:Type} (P:Nat→α→α→Prop) (h3:α) (h:∀ i a,∃ b,P i a b):∃ f:Nat→α,f 0=h3∧∀ i,P i (f i) (f (i+1)):=by
 classical
 exact ⟨fun n=>Nat.rec h3 (fun i a=>Classical.choose (h i a)) n,rfl,fun i=>uA (h i _)⟩
theorem WJ {U:List Int} {i:Nat} (h:∀ i,0≤U.getD i 0):∀ j,0≤(U.set i 1).getD j 0:=fun j=>by
 have:=h j;simp only [sw,List.getElem?_set] at this ⊢;split
 ·split <;> simp
 ·exact this
theorem WH {U:List Int} {i:Nat} (hi:i<U.length) (h:U.getD i 0=0):U.set i 0=U:=by
 rw [sw,si hi] at h;rw [←show U[i]=0 from h,List.set_getElem_self]
def YE (L:Nat) (qI:Nat→List ar) (c:Nat) (begun:List Int) (E:List (List Int)):Prop :=
 ∀ (j:Nat) (l:List Int),E[j]?=some l→∀ Y:List ar,∃ Z,Sem Try.prog (.yield L) [rX (begun++l)] (qI (c+j)++Y) 0 (.bool true) (qI (c+j+1)++(Y++Z))
theorem TK {b:((List (Int×Int))×(Int×Int))×Unit} (qX:b.1.1.length≤7) (iS:0<b.1.1.length) {L N:Nat} {qI:Nat→List ar} (hlen:∀ i,(qI i).length=N) {Y0:List ar} {p:Nat} (aB:N+Y0.length=p) :
  ∀ (k:Nat) (begun:List Int) (ID:hE) (U:List Int) (c:Nat),U.length=7→(∀ i,0≤U.getD i 0)→begun.length+k=b.1.1.length→(rf U b.1.1.length).length=k→((ID=.full∧begun=[])∨ID=.uniq 1∧begun≠[])→YE L qI c begun (qW k (rf U b.1.1.length)) →
  ∀ Y,∃ Z,Sem Try.prog (.fn 66) [.av (begun.map h0) begun.length ID,.bS [lq b],.ptr p 0,.ptr (p+1) 0,.ptr (p+2) 0] (ry (qI c) Y0 L (.bS [lq b]) p U Y) 0 (.bool true) (ry (qI (c+(qW k (rf U b.1.1.length)).length)) Y0 L (.bS [lq b]) p U (Y++Z))
 | 0,begun,ID,U,c,Hp,_,al,ao,CN,ai,Y=>by
   obtain ⟨Z,cp⟩:=ai 0 [] rfl (Y0++([.cells [.yield L],.cells (U.map h0),.cells [II (.bS [lq b]) p]]++Y));(have Jw:(qI c).length+Y0.length=p:=by rw [hlen];exact aB);(have bJ:begun≠[]:=fun e=>by subst e;simp at al;omega);have CN:ID=.uniq 1:=by
    rcases CN with ⟨_,h⟩ | ⟨h,_⟩
    ·exact absurd h bJ
    ·exact h
   subst CN;obtain ⟨a,l,rfl⟩:=tM bJ;refine ⟨Z,?_⟩;(have e1:qI (c+0)++(Y0++([.cells [.yield L],.cells (U.map h0),.cells [II (.bS [lq b]) p]]++Y))=ry (qI c) Y0 L (.bS [lq b]) p U Y:=by unfold ry;rfl);(have b':qI (c+0+1)++((Y0++([.cells [.yield L],.cells (U.map h0),.cells [II (.bS [lq b]) p]]++Y))++Z)=ry (qI (c+1)) Y0 L (.bS [lq b]) p U (Y++Z):=by unfold ry;simp);rw [e1,b',sM] at cp;show Sem _ _ _ _ _ _ (ry (qI (c+1)) _ _ _ _ _ _);refine ri eG ND rfl cp.1 fun Q bp=>?_;unfold KM KO;obtain ⟨f',rP⟩:∃ c,Jh=c:=⟨_,rfl⟩;rw [rP];(conv=>whnf);rw [decide_eq_true (show (((a::l).length:Nat):Int)=(b.1.1.length:Int) by omega)];(conv=>whnf);refine Ex (afl Jw) ?_;(conv=>whnf);refine ⟨_,_,re cp,?_⟩;(conv=>whnf);exact bp _ _ _ ⟨.inr rfl,lJ.refl _,rfl⟩
 | k+1,begun,ID,U,c,Hp,Ms,al,ao,CN,ai,Y=>by
   obtain ⟨n,aI⟩:∃ n,n=b.1.1.length:=⟨_,rfl⟩;have Md:=TK (L:=L) qX iS hlen aB k;rw [←aI] at qX iS al ao ai Md ⊢;have Jw:∀ j,(qI j).length+Y0.length=p:=fun j=>by rw [hlen];exact aB
   obtain ⟨JD,KC,J7⟩:=Nl (fun i Z O5=>(i<n→U.getD i 0=0→∃ W,O5=Z++W∧Sem Try.prog (.fn 66) [.av ((begun++[(i:Int)]).map h0) (begun++[(i:Int)]).length (.uniq 1),.bS [lq b],.ptr p 0,.ptr (p+1) 0,.ptr (p+2) 0] (ry (qI (c+rS k U n i)) Y0 L (.bS [lq b]) p (U.set i 1) (Y++Z)) 0 (.bool true) (ry (qI (c+rS k U n (i+1))) Y0 L (.bS [lq b]) p (U.set i 1) (Y++O5)))∧(¬ (i<n∧U.getD i 0=0)→O5=Z)) ([]:List ar) (fun i Z=>by
    by_cases h:i<n∧U.getD i 0=0
    ·obtain ⟨hi,aQ⟩:=h;have hm:(i:Int)∈rf U n:=UM.2 ⟨i,hi,aQ,rfl⟩
     obtain ⟨W,mc⟩:=Md (begun++[(i:Int)]) (.uniq 1) (U.set i 1) (c+rS k U n i) (by simpa using Hp) (WJ Ms) (by simp;omega) (by rw [Lr (by omega) aQ,tV hm];omega) (.inr ⟨rfl,by simp⟩) (fun j l aw Y=>by
      rw [Lr (by omega) aQ] at aw;obtain ⟨Z,cp⟩:=ai _ _ (Us hi aQ aw) Y;refine ⟨Z,?_⟩;rw [show c+rS k U n i+j=c+(rS k U n i+j) by omega,sx]
      exact cp) (Y++Z)
     refine ⟨Z++W,fun _ _=>⟨W,rfl,?_⟩,fun h=>absurd ⟨hi,aQ⟩ h⟩;rw [Lr (by omega) aQ] at mc;rw [Nn,if_pos aQ,←sx,←td];exact mc
    ·exact ⟨Z,fun ab ae=>absurd ⟨ab,ae⟩ h,fun _=>rfl⟩)
   refine ⟨JD n,?_⟩;have P8:rS k U n n=(qW (k+1) (rf U n)).length:=rfl;rw [←P8];refine ri eG ND rfl (Ix (by unfold ry;simp [hlen])) fun Q bp=>?_;have main:∀ T,T=qa 52 [(0,rX begun),(1,.bS [lq b]),(2,.ptr p 0),(3,.ptr (p+1) 0),(4,.ptr (p+2) 0),(6,.bool false),(17,.bool false)]→dQ Try.prog J2 66 0 none Jh T (ry (qI c) Y0 L (.bS [lq b]) p U Y) Q:=by
    rintro _ rfl;unfold Jh Q6 Q5;obtain ⟨bt,eS⟩:∃ c,KN=c:=⟨_,rfl⟩;rw [eS];(conv=>whnf);rw [←aI];refine .intro (fun m T H=>∃ i:Nat,i≤n∧m=n-i∧T=qa 52 [(0,rX begun),(3,.ptr (p+1) 0),(4,.ptr (p+2) 0),(26,h0 n),(27,h0 i)]∧H=ry (qI (c+rS k U n i)) Y0 L (.bS [lq b]) p U (Y++JD i)) n ⟨0,sD _,rfl,rfl,by rw [KC,sM];rfl⟩ ?_;rintro m T H ⟨i,hi,rfl,rfl,rfl⟩;(conv=>whnf);refine Hm (fun aR=>?_) (fun aR=>?_)
    ·(have hg:i<n:=by omega);(conv=>whnf);refine ⟨by omega,?_⟩;(conv=>whnf);refine Ex (Ru (Jw _)) ?_;(conv=>whnf);rw [show 0+(i:Int).toNat*1=i by omega];refine Ex (x:=h0 (U.getD i 0)) (by rw [sm,sw,si (show i<U.length by omega)];rfl) ?_;(conv=>whnf);(have rz:IntKind.i64.wrap ((i:Int)+1)=((i+1:Nat):Int):=by rw [Hj _ (by omega) (by omega)];omega);refine Hm (fun aQ=>?_) (fun aQ=>?_)
     ·(conv=>whnf);refine ⟨n-(i+1),by omega,i+1,by omega,rfl,by rw [rz];rfl,?_⟩;rw [Nn,if_neg (by omega),(J7 i).2 (by omega)];rfl
     ·(have Mq:U.getD i 0=0:=by have:=Ms i;omega);obtain ⟨W,mc,cp⟩:=(J7 i).1 hg Mq;(conv=>whnf);refine ⟨by omega,?_⟩;(conv=>whnf);refine Ex (Ru (Jw _)) ?_;(conv=>whnf);rw [show 0+(i:Int).toNat*1=i by omega];refine Gp (by simp;omega) ?_;(conv=>whnf);rw [show (List.map h0 U).set i (I.int IntKind.i64 1)=(U.set i 1).map h0 by rw [tI],WW (Jw _)];subst eS;refine afk (Jw _) (by simpa using Hp) (by omega) (by omega) ⟨qI (c+rS k U n (i+1)),Y++JD (i+1),by rw [hlen,hlen],cp,?_⟩;(conv=>whnf);refine ⟨n-(i+1),by omega,i+1,by omega,rfl,by rw [rz];rfl,?_⟩;rw [List.set_set,WH (by omega) Mq]
    ·(obtain rfl:i=n:=by omega);(conv=>whnf);exact bp _ _ _ ⟨.inr rfl,lJ.refl _,rfl⟩
   rcases CN with ⟨rfl,rfl⟩ | ⟨rfl,bJ⟩
   ·unfold KM KO;obtain ⟨f',rP⟩:∃ c,Jh=c:=⟨_,rfl⟩;rw [rP];(conv=>whnf);rw [decide_eq_false (show ¬ (((([]:List Int).length:Nat):Int)=(b.1.1.length:Int)) by simp only [tK];omega)];(conv=>whnf);subst rP;exact main _ rfl
   ·obtain ⟨a,l,rfl⟩:=tM bJ;unfold KM KO;obtain ⟨f',rP⟩:∃ c,Jh=c:=⟨_,rfl⟩;rw [rP];(conv=>whnf);rw [decide_eq_false (show ¬ ((((a::l).length:Nat):Int)=(b.1.1.length:Int)) by omega)];(conv=>whnf);subst rP;exact main _ rfl
def Nc (P:Program) (k:FuncId) (cap:List I) (E:List I):Prop :=
 ∀ (l N:Nat) (qI:Nat→List ar),(∀ i,(qI i).length=N)→l<N →
   (∀ (i:Nat) (h:i<E.length) (Y:List ar),∃ Z,Sem P (.yield l) [E[i]] (qI i++Y) 0 (.bool true) (qI (i+1)++(Y++Z))) →
   ∀ Y,∃ Z,Sem P (.fn k) (.yield l::cap) (qI 0++Y) 0 (.tuple []) (qI E.length++(Y++Z))
theorem Wv {α:Type} {P:Program} {A:dx} {fn:FuncId} {rl:Option Nat} {k:FuncId} {cap:List I} {t:Nat} {bq:List Nat} {gH ct:Code} {T:List I} {H Hn:List ar} {Q:cQ→List I→List ar→Prop} {f:α→I} {L:List α} (Il:Nc P k cap (L.map f))
  (Obj:Nat→List ar) (ax:df T t=.func k [] cap) (aQ:Obj 0=H) (hlen:∀ i,(Obj i).length=H.length)
  (KG:∀ (i:Nat) (h:i<L.length) (Y:List ar),∃ Z,Sem P (.yield H.length) [f L[i]] ((Obj i++[.loop .ready none fn (T.map I.view) bq gH ct A])++Y) 0 (.bool true) ((Obj (i+1)++[.loop .ready none fn (T.map I.view) bq gH ct A])++(Y++Z)))
  (hg:inLoop H rl=true) (aI:Obj L.length=Hn) (bp:∀ qz,Q .normal (T.map I.settle) ((Hn++[.dead])++qz)):dQ P A fn 0 rl (.AO (.nd t) bq gH ct) T H Q:=by
 show hI T t _;rw [iQ,ax]
 obtain ⟨qz,cp⟩:=Il H.length (H.length+1) (fun i=>Obj i++[.loop .ready none fn (T.map I.view) bq gH ct A]) (fun i=>by simp [hlen]) (by omega) (fun i h Y=>by
  have aX:i<L.length:=by simpa using h
  obtain ⟨qz,ai⟩:=KG i aX Y
  exact ⟨qz,by rw [ub];exact ai⟩) []
 subst aI;simp only [sM,tP,sX,aQ] at cp;have ao:(Obj L.length).length=H.length:=hlen _;refine ⟨hg,.tuple [],_,.ready,none,fn,T.map I.view,bq,gH,ct,A,cp,by rw [←ao];exact Iu _ _ _,by decide,?_⟩;show Q .normal (T.map I.settle) (((Obj L.length++[ar.loop .ready none fn (T.map I.view) bq gH ct A])++qz).set H.length .dead);rw [←ao,Jj];exact bp qz
def qh (n:Nat):List Int:=(List.range n).map fun i:Nat=>(i:Int)
theorem Uq {n:Nat} (aI:n≤7):rf [0,0,0,0,0,0,0] n=qh n:=by
 unfold rf qh;rw [tC.2];intro a cu
 have:a<n:=sH.1 cu
 have cO:a<7:=by omega
 match a,cO with
 | 0,_ | 1,_ | 2,_ | 3,_ | 4,_ | 5,_ | 6,_=>rfl
theorem WB {b:((List (Int×Int))×(Int×Int))×Unit} (qX:b.1.1.length≤7) (iS:0<b.1.1.length):Nc Try.prog 65 [.bS [lq b]] ((qW b.1.1.length (qh b.1.1.length)).map rX):=by
 intro L N qI hlen fq ai Y;have jU:=Uq qX
 obtain ⟨Z,cp⟩:=TK (b:=b) (L:=L) qX iS hlen (Y0:=Y) (p:=N+Y.length) rfl b.1.1.length [] .full [0,0,0,0,0,0,0] 0 rfl (fun i=>by
  rw [sw]
  match i with
  | 0 | 1 | 2 | 3 | 4 | 5 | 6 | i+7=>simp) (by simp) (by rw [jU];simp [qh]) (.inl ⟨rfl,rfl⟩) (fun j l aw Y=>by
    rw [jU] at aw;obtain ⟨ab,ae⟩:=sa.1 aw;obtain ⟨Z,h⟩:=ai j (by simpa using ab) Y;refine ⟨Z,?_⟩;rw [ub,ae] at h;rw [sB]
    exact h) []
 rw [jU,sB] at cp;rw [sX];have e1:ry (qI 0) Y L (.bS [lq b]) (N+Y.length) [0,0,0,0,0,0,0] []=((qI 0++Y)++[.cells [.yield L]])++[.cells [h0 0,h0 0,h0 0,h0 0,h0 0,h0 0,h0 0]]++[.cells [II (.bS [lq b]) (N+Y.length)]]:=by
  unfold ry;simp
 refine ⟨[.cells [.yield L],.cells [h0 0,h0 0,h0 0,h0 0,h0 0,h0 0,h0 0],.cells [II (.bS [lq b]) (N+Y.length)]]++Z,?_⟩;have b':ry (qI (qW b.1.1.length (qh b.1.1.length)).length) Y L (.bS [lq b]) (N+Y.length) [0,0,0,0,0,0,0] ([]++Z)=qI (qW b.1.1.length (qh b.1.1.length)).length++(Y++([.cells [.yield L],.cells [h0 0,h0 0,h0 0,h0 0,h0 0,h0 0,h0 0],.cells [II (.bS [lq b]) (N+Y.length)]]++Z)):=by
  unfold ry;simp
 rw [e1,b'] at cp;obtain ⟨Hn,TL⟩:∃ Hn,Hn=qI (qW b.1.1.length (qh b.1.1.length)).length++(Y++([.cells [.yield L],.cells [h0 0,h0 0,h0 0,h0 0,h0 0,h0 0,h0 0],.cells [II (.bS [lq b]) (N+Y.length)]]++Z)):=⟨_,rfl⟩;rw [←TL] at cp ⊢;have hle:(qI 0++Y).length=N+Y.length:=by simp [hlen]
 obtain ⟨HK,gL⟩:∃ HK,HK=qI 0++Y:=⟨_,rfl⟩;rw [←gL] at cp hle ⊢;refine ri eG UB rfl (Ix (by rw [TL,hle];simp [hlen])) fun Q bp=>?_;rw [←hle] at cp;unfold Q3 Q4;conv=>whnf
 have l1:(HK++[ar.cells [I.yield L]]).length=HK.length+1:=by simp
 have l2:((HK++[ar.cells [I.yield L]])++[ar.cells [I.int IntKind.i64 0,I.int IntKind.i64 0,I.int IntKind.i64 0,I.int IntKind.i64 0,I.int IntKind.i64 0,I.int IntKind.i64 0,I.int IntKind.i64 0]]).length=HK.length+2:=by simp
 refine Ex (x:=.cells [.a0]) (by simp) ?_;conv=>whnf
 rw [HQ];refine Ex (x:=.cells [II (.bS [lq b]) HK.length]) (by rw [ss (sc _),l1,l2,Nat.sub_self];rfl) ?_;conv=>whnf
 refine ⟨_,_,re (by rw [l1,l2];exact cp),?_⟩;conv=>whnf
 exact bp _ _ _ ⟨.inl rfl,lJ.refl _,rfl⟩
end Go.Proofs.Ytkoioidpbbbaiaa.Ab


namespace Go.Proofs.Ytkoioidpbbbaiaa.Ab
open Go
noncomputable def VY:gE :=
 p2 [p0 2 [.cv (.av [] 0 .full)] (.nil 1)] (p2 [p1 3 0,p0 4 [.cv (.func 72 [] []),.cv (.av [] 0 .full),.nd 3] (.call 0),p1 2 4] .ret)
theorem aca:ql Go.Proofs.Try.prog SE 55=some (VY,5,[.tmp 2]):=by kernel_rfl
noncomputable def Wb:gE :=
 p2 [p0 2 [.jq 0] .box,p0 4 [.cv (.av [] 0 .full)] (.nil 1)] (.seq (p2 [p1 6 1] (.block 0 (.AO (.nd 6) [7] (q8 Go.Proofs.Try.prog 72 0) (q9 Go.Proofs.Try.prog 72 0)))) (p2 [p0 12 [.Bu 2] .take,p1 4 12] .ret))
theorem ach:ql Go.Proofs.Try.prog Jt 72=some (Wb,13,[.tmp 4]):=by kernel_rfl
noncomputable def QI:gE :=
 .seq (p2 [p0 16 [.nd 4] (.zG .one),p0 17 [.cv (.func 46 [] []),.nd 16] (.call 3)] (.block 0 (.AO (.nd 17) [18] (q8 Go.Proofs.Try.prog 20 0) (q9 Go.Proofs.Try.prog 20 0)))) (p2 [qf 25 6,p1 2 25,qc 3 0] .ret)
noncomputable def VK:gE :=
 .seq (p2 [p3 13 5,qw 14 13 0 .neq] (.cond (.nd 14) (p2 [p1 15 5,qc 2 0,p1 3 15] .ret) .skip)) (p2 [p0 6 [] (.alloc [.int .i64 0]),⟨none,[.nd 6,.cv (.int .i64 0)],none,none,.st 1⟩] QI)
noncomputable def VL:gE :=
 p2 [p0 9 [.Bu 1] (.zG (.str 3)),p0 10 [.cv (.func 36 [] []),.nd 9,.cv (.av [] 0 .full)] (.call 3),p1 8 10,qL 11 8 0,p0 12 [.Bu 8] (.ext 1),p0 4 [] (.alloc [.eI]),⟨none,[.nd 4,.jq 11],none,none,.st 1⟩,p1 5 12] VK
noncomputable def VJ:gE :=
 p2 [p0 1 [.jq 0] .box,qc 2 0,qc 3 0] VL
theorem ab6:ql Go.Proofs.Try.prog Jr 20=some (VJ,26,[.tmp 2,.tmp 3]):=by kernel_rfl
noncomputable def VF:gE :=
 p2 [p1 21 7,p0 22 [.Bu 6] (.z0 57 0 1),p0 23 [.cv (.func 56 [] []),.nd 21,.nd 22] (.call 0),p1 2 23,qc 3 0] .ret
noncomputable def VG:gE :=
 p2 [p1 18 4,p0 19 [.cv (.func 46 [] []),.nd 18] (.call 3),p0 20 [.cv (.func 55 [] []),.nd 19] (.call 3),p1 7 20] VF
noncomputable def QH:gE :=
 p2 [p3 16 4,p0 17 [.Bu 16] (.z0 41 1 0),p0 6 [] (.alloc [.a0]),⟨none,[.nd 6,.jq 17],none,none,.st 1⟩] VG
noncomputable def VH:gE :=
 .seq (p2 [p3 13 5,qw 14 13 0 .neq] (.cond (.nd 14) (p2 [p1 15 5,p0 2 [.cv (.av [] 0 .full)] (.nil 1),p1 3 15] .ret) .skip)) QH
noncomputable def VI:gE :=
 p2 [p0 9 [.Bu 1] (.zG (.str 3)),p0 10 [.cv (.func 36 [] []),.nd 9,.cv (.av [] 0 .full)] (.call 3),p1 8 10,qL 11 8 0,p0 12 [.Bu 8] (.ext 1),p1 4 11,p1 5 12] VH
noncomputable def VE:gE :=
 p2 [p0 1 [.jq 0] .box,p0 2 [.cv (.av [] 0 .full)] (.nil 1),qc 3 0] VI
theorem ab5:ql Go.Proofs.Try.prog Sq 33=some (VE,24,[.tmp 2,.tmp 3]):=by kernel_rfl
noncomputable def V0:gE :=
 .seq (q_ [p0 6 [.nd 2] (.zG .one),p1 7 0,p0 8 [.nd 6,.nd 7] (.call 3),p0 9 [.nd 2] (.zG .one),p1 10 1,p0 11 [.nd 9,.nd 10] (.call 3),qo 12 8 11 .lss,p1 5 12]) .ret
noncomputable def VZ:gE :=
 p2 [p0 5 [.cv (.bool false)] .mV] V0
theorem acb:ql Go.Proofs.Try.prog SF 57=some (VZ,13,[.tmp 5]):=by kernel_rfl
end Go.Proofs.Ytkoioidpbbbaiaa.Ab


namespace Go.Proofs.Ytkoioidpbbbaiaa.Ab
open Go
theorem R9 {k k':FuncId} {xs ys:List I} {v bo:I} {acc:c7} (h:k'=k→ys=xs→bo=v) (t:∀ p∈acc,p.1=k→p.2.1=xs→p.2.2=v):∀ p∈((k',ys,bo)::acc:c7),p.1=k→p.2.1=xs→p.2.2=v:=fun p aB=>by
 rcases sA.1 aB with rfl | aB
 ·exact h
 ·exact t p aB
end Go.Proofs.Ytkoioidpbbbaiaa.Ab


namespace Go.Proofs.Ytkoioidpbbbaiaa.Ab
open Go
set_option maxRecDepth 20000
set_option maxHeartbeats 4000000
noncomputable def Wp:gE :=
 .ow false [p0 5 [.jq 7] .mV]
theorem acq:ey Try.prog Jt (q8 Try.prog 72 0) 0=some Wp:=by kernel_rfl
noncomputable def Wu:gE :=
 .block 1 (.ow false [p0 8 [.nd 2] .take,p0 9 [.jq 5] .mV,p0 10 [.Bu 9] (.yD 1 1 [.av [] 0 .full] [0]),p0 11 [.jq 8,.jq 10] (.app 1 24),⟨none,[.jq 2,.jq 11],none,none,.st 1⟩])
theorem acv:ey Try.prog Jt (q9 Try.prog 72 0) 0=some Wu:=by kernel_rfl
def Ia (l:List (List Int)):I:=match l with | []=>.av [] 0 .full | _=>.av (l.map oY) l.length (.own 1)
theorem Zo {l:List (List Int)} {e:List Int} (he:e≠[]) {yi fA Gj Gk rJ IU HI u8 HJ HF HG HH:I} (ao:l.length≤100000) (Y:List ar) :
  ∃ Z,Sem Try.prog (.yield [ar.cells [Ia l]].length) [rX e] (([ar.cells [Ia l]]++[ar.loop .ready none 72 [yi,fA,.ptr 0 0,Gj,Gk,rJ,IU,HI,u8,HJ,HF,HG,HH] [7] (q8 Try.prog 72 0) (q9 Try.prog 72 0) Jt])++Y) 0 (.bool true) (([ar.cells [Ia (l++[e])]]++[ar.loop .ready none 72 [yi,fA,.ptr 0 0,Gj,Gk,rJ,IU,HI,u8,HJ,HF,HG,HH] [7] (q8 Try.prog 72 0) (q9 Try.prog 72 0) Jt])++(Y++Z)):=by
 refine ⟨[],?_⟩;rw [sM];obtain ⟨gb,e,rfl⟩:=tM he;refine N9 eG acq acv (Iu _ _ _) rfl (Ix (by simp)) ?_;unfold Wp;conv=>whnf
 refine ⟨rfl,Iu _ _ _,?_⟩;rw [Jj];unfold Wu;cases l with
 | nil =>
   (conv=>whnf);refine ⟨rfl,by omega,?_⟩;(conv=>whnf);refine ⟨by decide,by decide,rfl,?_⟩;(conv=>whnf);show _∧(([ar.cells [Ia ([]++[gb::e])]]++[ar.loop .busy none 72 [yi,fA,.ptr 0 0,Gj,Gk,rJ,IU,HI,u8,HJ,HF,HG,HH] [7] (q8 Try.prog 72 0) (q9 Try.prog 72 0) Jt])++Y)[[ar.cells [Ia ([]++[gb::e])]].length]?=_∧lJ ((([ar.cells [Ia ([]++[gb::e])]]++[ar.loop .busy none 72 [yi,fA,.ptr 0 0,Gj,Gk,rJ,IU,HI,u8,HJ,HF,HG,HH] [7] (q8 Try.prog 72 0) (q9 Try.prog 72 0) Jt])++Y).set [ar.cells [Ia ([]++[gb::e])]].length _) _;exact ⟨rfl,Iu _ _ _,by rw [Jj];exact lJ.refl _⟩
 | cons a l =>
   (conv=>whnf);refine ⟨rfl,by omega,?_⟩;(conv=>whnf);refine ⟨by decide,by simp only [sK] at ao ⊢;omega,by simp,?_⟩;(conv=>whnf);(have e1:List.map oY (a::l)++[I.av (List.map h0 (gb::e)) (gb::e).length .shared]=((a::l)++[gb::e]).map oY:=by rw [sP];rfl);have dB:I.av (List.map oY (a::l)++[I.av (List.map h0 (gb::e)) (gb::e).length .shared]) ((a::l).length+1) (.own 1)=Ia ((a::l)++[gb::e]):=by
    show _=I.av (((a::l)++[gb::e]).map oY) ((a::l)++[gb::e]).length (.own 1);rw [sP,sy];rfl
   have l3:((([ar.cells [Ia (a::l)]]++[ar.loop .busy none 72 [yi,fA,.ptr 0 0,Gj,Gk,rJ,IU,HI,u8,HJ,HF,HG,HH] [7] (q8 Try.prog 72 0) (q9 Try.prog 72 0) Jt])++Y).set 0 (ar.cells ([Ia (a::l)].set 0 (I.av (List.map oY (a::l)) (a::l).length hE.shared)))).set 0 (ar.cells [I.av (List.map oY (a::l)++[I.av (List.map h0 (gb::e)) (gb::e).length .shared]) ((a::l).length+1) (.own 1)])=([ar.cells [Ia ((a::l)++[gb::e])]]++[ar.loop .busy none 72 [yi,fA,.ptr 0 0,Gj,Gk,rJ,IU,HI,u8,HJ,HF,HG,HH] [7] (q8 Try.prog 72 0) (q9 Try.prog 72 0) Jt])++Y:=by
    rw [dB];rfl
   erw [l3];exact ⟨Iu _ _ _,by erw [Jj];exact lJ.refl _⟩
theorem NJ (l:List (List Int)) (n:Nat) (c:hE):cr 8 (.av (l.map oY) n c)=true:=rA (d:=7) (f:=oY) (fun x=>rA (fun _=>rfl) _ _ _) l n c
theorem U9 (l:List (List Int)):cr 8 (Ia l)=true:=by
 cases l with
 | nil=>rfl
 | cons a l=>exact NJ _ _ _
theorem Z3 {k:FuncId} {cap:List I} {l:List (List Int)} (Il:Nc Try.prog k cap (l.map rX)) (bJ:∀ e∈l,e≠[]) (ao:l.length≤100000):qu 72 [.av [] 0 .full,.func k [] cap] (Ia l):=by
 refine Nr eG ach rfl (U9 l) fun Q bp=>?_;unfold Wb;obtain ⟨a7,cf⟩:∃ c,gE.AO (.nd 6) [7] (q8 Try.prog 72 0) (q9 Try.prog 72 0)=c:=⟨_,rfl⟩;rw [cf];conv=>whnf
 subst cf;refine Wv (f:=rX) Il (fun i=>[ar.cells [Ia (l.take i)]]) (by exact rfl) (by exact rfl) (fun _=>rfl) ?_ (rl:=none) (by exact rfl) (Hn:=[ar.cells [Ia l]]) (by show [ar.cells [Ia (l.take l.length)]]=_;rw [uZ]) ?_
 ·intro i hi Y;rw [show l.take (i+1)=l.take i++[l[i]] by rw [List.take_add_one,si hi];rfl];exact Zo (l:=l.take i) (e:=l[i]) (bJ _ (List.getElem_mem hi)) (by rw [sZ];omega) Y
 ·intro qz;cases l with
  | nil =>
    (conv=>whnf);exact bp _ _ _ (JR (.inr rfl) (U9 _) rfl)
  | cons a l =>
    (conv=>whnf);exact bp _ _ _ (aeU (.inr rfl) (NJ _ _ _) (.inl rfl))
theorem Z2 {k:FuncId} {cap:List I} {l:List (List Int)} (px:cap.all (cr 7)=true) (Il:Nc Try.prog k cap (l.map rX)) (bJ:∀ e∈l,e≠[]) (ao:l.length≤100000):qu 55 [.func k [] cap] (.av (l.map oY) l.length .shared):=by
 refine qH eG aca rfl (NJ _ _ _) fun Q bp=>?_;unfold VY;conv=>whnf
 refine ⟨_,_,Mj (p5 rfl (p5 (IM rfl px) rfl)) (Z3 Il bJ ao) _ _,?_⟩;cases l with
 | nil =>
   (conv=>whnf);exact bp _ _ _ ⟨.inr rfl,_,rfl,_,yY rfl,rfl⟩
 | cons a l =>
   (conv=>whnf);exact bp _ _ _ ⟨.inr rfl,_,rfl,_,yY (NJ _ _ _),rfl⟩
theorem UH:∀ {x y:List Int},x.map h0=y.map h0→x=y
 | [],[],_=>rfl
 | [],_::_,h=>by cases h
 | _::_,[],h=>by cases h
 | a::x,c::y,h=>by
   obtain ⟨ab,ae⟩:=List.cons.inj h;(have ab:a=c:=by injection ab);rw [ab,UH ae]
def Kk (b:((List (Int×Int))×(Int×Int))×Unit) (x y:List Int):Option Bool :=
 (JU b x).bind fun n=>(JU b y).bind fun m=>some (decide (n<m))
theorem agG {b:((List (Int×Int))×(Int×Int))×Unit} {x y:List Int} {v:Bool} (h:Kk b x y=some v):qu 57 [.av (x.map h0) x.length .shared,.av (y.map h0) y.length .shared,.bS [.func 41 [lq b] []]] (B v):=by
 unfold Kk at h;obtain ⟨n,aI,h⟩:=p9 h;obtain ⟨m,hm,h⟩:=p9 h;obtain rfl:=Option.some.inj h;refine Nr eG acb rfl rfl fun Q bp=>?_;unfold VZ V0;conv=>whnf
 refine ⟨qi.pl,_,M0 aI,Hi,?_⟩;conv=>whnf
 refine ⟨qi.pl,_,M0 hm,(R9 (fun _ e=>?_) Hi),?_⟩
 ·have b':x.map h0=y.map h0:=by
   have:=(List.cons.inj (List.cons.inj e).2).1;injection this
  obtain rfl:x=y:=UH b';rw [aI] at hm;rw [Option.some.inj hm]
 conv=>whnf
 exact bp _ _ _ (JR (.inr rfl) rfl rfl)

noncomputable def OQ:gE :=
 .loop (some (p8 false [1,1,3,1,6,3,10])) (p2 [p0 15 [.nd 14,.nd 13] (.bin .lss)] (.seq (.cond (.nd 15) .skip (.exit 0)) (.seq (.block 1 (p2 [p0 16 [.nd 12,.nd 14] (.kZ 1),qf 17 16,p1 7 17] (p2 [p3 18 1,p3 19 7,p3 20 5,p0 21 [.nd 18,.nd 19,.nd 20] (.call 6)] (.cond (.nd 21) (qG [p1 22 7,p1 5 22]) .skip)))) (qG [qT 23 14 1,p1 14 23]))))
noncomputable def Yg:gE :=
 p2 [p0 4 [.cv (.av [] 0 .full)] (.nil 1)] (p2 [p3 8 0,p0 9 [.Bu 8,.cv (.int .i64 0)] (.kZ 1),qf 10 9,p1 5 10] (.seq (p2 [p1 11 0,p0 12 [.jq 11,.cv (.int .i64 1)] (.Bj 1 true false false),p0 13 [.nd 12] .zL,qc 14 0] (.block 0 OQ)) (p2 [p1 24 5,p1 4 24] .ret)))
theorem acV:ql Try.prog Pe 56=some (Yg,25,[.tmp 4]):=by kernel_rfl
def Kj (l:Kr) (better:(qb→qb→Option Bool)) (qd:qb→Option qb):Nat→qb→Int→Option qb
 | 0,_,_=>none
 | m+1,s1,s2 =>
   if (decide (s2<((l.drop (1:Int).toNat).length:Int)))=true then
    qy (0≤s2∧s2<((l.drop (1:Int).toNat).length:Int)) <|
    (better (ix (l.drop (1:Int).toNat) s2) s1).bind fun aS =>
    if aS=true then
     Kj l better qd m (ix (l.drop (1:Int).toNat) s2) (w (s2+(1:Int)))
    else
     Kj l better qd m s1 (w (s2+(1:Int)))
   else
    qd s1
def M1 (l:Kr) (better:(qb→qb→Option Bool)):Option qb :=
 qy (0≤(0:Int)∧(0:Int)<(l.length:Int)) <|
 qy (0≤(1:Int)∧(1:Int)≤(l.length:Int)) <|
 Kj l better (fun yo =>
   some yo) qk (ix l (0:Int)) (0:Int)

noncomputable def Yf:gE :=
 p2 [p0 1 [.jq 0] .box,p0 2 [.cv .a0] .mV] (p2 [p0 3 [.Bu 1] (.z0 65 0 1),p1 2 3] .ret)
theorem acU:ql Try.prog Sz 46=some (Yf,4,[.tmp 2]):=by kernel_rfl
def XE (b:((qj×(Int×Int))×Unit)):Option Unit :=
 some ()
theorem RG {b:((qj×(Int×Int))×Unit)} {v:Unit} (h:XE b=some v):qu 46 [(.bS [(.av (b.1.1.flatMap p7) b.1.1.length .shared),(h0 b.1.2.1),(h0 b.1.2.2),Hg])] (.func 65 [] [(.bS [(.bS [(.av (b.1.1.flatMap p7) b.1.1.length .shared),(h0 b.1.2.1),(h0 b.1.2.2),Hg])])]):=by
 refine qH eG acU rfl (IM rfl (p5 (Ic (p5 (Ic (p5 (Hv (fun _=>(p5 rfl (p5 rfl rfl))) _ _ _) (p5 rfl (p5 rfl (p5 rfl rfl))))) rfl)) rfl)) fun Q bp=>?_;have jK:∀ T H,Hl [.tmp 2] (.func 65 [] [(.bS [(.bS [(q' b.1.1 .shared),(h0 b.1.2.1),(h0 b.1.2.2),Hg])])]) .ret T H→Q .ret T H:=fun T H bE=>bp _ T H bE;unfold XE at h;unfold Yf;conv=>whnf
 exact jK _ _ ⟨.inr rfl,_,rfl,_,(Tt Iy (rk (Tv (l:=[(.bS [(q' b.1.1 .shared),(h0 b.1.2.1),(h0 b.1.2.2),Hg])]) (by first | exact qC.h | rfl | (simp [sj,I.settle];done)) (p5 (Ic (p5 (Hv (fun _=>(p5 rfl (p5 rfl rfl))) _ _ _) (p5 rfl (p5 rfl (p5 rfl rfl))))) rfl)) Iy)),rfl⟩

theorem agD {l:(List (List Int))} {better:((List Int)→(List Int)→Option Bool)} {qd:(List Int)→Option (List Int)} {s1:(List Int)} {s2:Int} {kf_better oid lo:Nat} {HK:List ar} {cv:List I} (aE:HK[oid]?=some (.cells cv)) (hd:cv.map I.view=cv) (fg:cv.map (ki HK)=cv) (Jw:cv.all (cr 7)=true) (P_:∀ (q4:(List Int)) (BF:(List Int)) (r:Bool),better q4 BF=some r→qu kf_better [(.av (q4.map h0) q4.length .shared),(.av (BF.map h0) BF.length .shared),.bS cv] (B r)) {v:(List Int)} {Q:cQ→List I→List ar→Prop}   (rn:∀ (yo:(List Int)) (qe:List I),qd yo=some v→rm 25 [(5,(.av (yo.map h0) yo.length .shared))] qe→Q (.exit 0) qe HK) {T:List I} (b0:eZ [false,true,false,false,false,true,false,false,false,false,false,false,true,true,true,false,false,false,false,false,false,false,false,false,false] T=qa 25 [(1,(.func kf_better [] [.ptr oid 0])),(5,(.av (s1.map h0) s1.length .shared)),(12,(.av ((l.drop (1:Int).toNat).map oY) (l.drop (1:Int).toNat).length .shared)),(13,(h0 ((l.drop (1:Int).toNat).length:Int))),(14,(h0 s2))]) (h:Kj l better qd qk s1 s2=some v) :
  dQ Try.prog Pe 56 lo none OQ T HK Q:=by
 unfold OQ;skip;refine wp_loop b0 ?_;refine .intro (fun m T H=>∃ (s1:(List Int)) (s2:Int),T=qa 25 [(1,(.func kf_better [] [.ptr oid 0])),(5,(.av (s1.map h0) s1.length .shared)),(12,(.av ((l.drop (1:Int).toNat).map oY) (l.drop (1:Int).toNat).length .shared)),(13,(h0 ((l.drop (1:Int).toNat).length:Int))),(14,(h0 s2))]∧H=HK∧Kj l better qd m s1 s2=some v) qk ⟨s1,s2,rfl,rfl,h⟩ ?_;clear h b0;rintro m T H ⟨s1,s2,rfl,rfl,h⟩;cases m
 ·exact rT h
 rename_i m;rw [Kj.eq_2] at h;conv=>whnf
 refine bs h (fun qs h=>?_) fun qs h=>?_
 ·rw [qs];conv=>whnf
  refine qV h id fun qP h=>?_;rw [rb oY (l.drop (1:Int).toNat) s2 qP];conv=>whnf
  obtain ⟨aS,rj,h⟩:=p9 h;have Co:hW H (.ptr oid 0)=.bS cv:=by
   show (match H[oid]? with | some (.cells l)=>I.bS (((l.drop 0).map I.view).map (ki H)) | _=>.ptr oid 0)=_;rw [aE];show I.bS ((cv.map I.view).map (ki H))=_;rw [hd,fg]
  refine ⟨_,_,call6 (bs:=[(.av ((ix (l.drop (1:Int).toNat) s2).map h0) (ix (l.drop (1:Int).toNat) s2).length .shared),(.av (s1.map h0) s1.length .shared),.bS cv]) (by show [_,_,(hW H (.ptr oid 0)).cc]=_;rw [Co];rfl) (by show ([_,_,hW H (.ptr oid 0)]:List I).all (cr 8)=true;rw [Co];exact (p5 (rA (fun _=>rfl) _ _ _) (p5 (rA (fun _=>rfl) _ _ _) (p5 (Ic Jw) rfl)))) (P_ _ _ _ rj) rfl,?_⟩;conv=>whnf
  cases aS
  ·(conv=>whnf);replace h:=HC rfl h;exact ⟨m,sG m,s1,(w (s2+(1:Int))),rfl,rfl,h⟩
  ·(conv=>whnf);replace h:=HD rfl h;exact ⟨m,sG m,(ix (l.drop (1:Int).toNat) s2),(w (s2+(1:Int))),rfl,rfl,h⟩
 ·rw [qs];conv=>whnf
  exact rn _ _ h ⟨rfl,rfl⟩
theorem agE {l:(List (List Int))} {better:((List Int)→(List Int)→Option Bool)} {kf_better oid:Nat} {HK:List ar} {cv:List I} (aE:HK[oid]?=some (.cells cv)) (hd:cv.map I.view=cv) (fg:cv.map (ki HK)=cv) (Jw:cv.all (cr 7)=true) (P_:∀ (q4:(List Int)) (BF:(List Int)) (r:Bool),better q4 BF=some r→qu kf_better [(.av (q4.map h0) q4.length .shared),(.av (BF.map h0) BF.length .shared),.bS cv] (B r)) {v:(List Int)} (h:M1 l better=some v):Sem Try.prog (.fn 56) [(.av (l.map oY) l.length .shared),(.func kf_better [] [.ptr oid 0])] HK HK.length (.av (v.map h0) v.length .shared) HK:=by
 refine ri eG acV rfl (ba.refl _ _) fun Q bp=>?_;unfold M1 at h;unfold Yg;obtain ⟨HY,qF⟩:∃ c,OQ=c:=⟨_,rfl⟩;rw [qF];conv=>whnf
 refine qV h id fun gM h=>?_;rw [rb oY l (0:Int) gM];conv=>whnf
 refine qV h id fun gN h=>?_;erw [WO oY l (1:Int) gN];conv=>whnf
 subst qF;refine agD aE hd fg Jw P_ ?_ (by exact rfl) h;intro yo qe h qA;obtain ⟨rG,rfl⟩:=qA.ex;conv=>whnf
 obtain rfl:=Option.some.inj h;exact bp _ _ _ ⟨.inr rfl,lJ.refl _,rfl⟩
theorem KR (n:Nat):(qh n).length=n:=by simp [qh]
theorem Qj {n:Nat} (aI:0<n):∀ e∈qW n (qh n),e≠[]:=fun e he h=>by
 have:=ab0 (KR n) he;rw [h] at this;simp at this;omega
def Np:Nat→Nat
 | 0=>1
 | n+1=>(n+1)*Np n
theorem Tk {α β:Type} {f:α→List β} {c:Nat}:∀ {l:List α},(∀ x∈l,(f x).length=c)→(l.flatMap f).length=l.length*c
 | [],_=>by simp
 | a::l,h=>by
   rw [List.flatMap_cons,sy,h a (by simp),Tk fun x aj=>h x (by simp [aj]),sK,Nat.succ_mul];omega
theorem Ut:∀ (n:Nat) (left:List Int),left.length=n→(qW n left).length=Np n
 | 0,_,_=>rfl
 | n+1,left,h=>by
   show (left.flatMap fun x=>(qW n (left.erase x)).map (x::·)).length=(n+1)*Np n;rw [Tk (c:=Np n) fun x aj=>by rw [sX];exact Ut n _ (by rw [tV aj];omega),h]
theorem Uv {n:Nat} (aI:n≤7):(qW n (qh n)).length≤100000:=by
 rw [Ut n _ (KR n)]
 match n,aI with
 | 0,_ | 1,_ | 2,_ | 3,_ | 4,_ | 5,_ | 6,_ | 7,_=>decide
theorem ZF {P:Program} {k:FuncId} {args:List I} {H H':List ar} {lo:Nat} {r:I} (h:Sem P (.fn k) args H H.length r H') (aB:cr 8 r=true):oW P 0 lo (.fn k) args H r H:=by
 refine ⟨_,EC h,?_⟩;simp only [eQ,EB,sb,yY aB,se]
theorem H4 {d:Nat} (b:((List (Int×Int))×(Int×Int))×Unit):cr (d+3) (lq b)=true:=Ic (p5 (Hv (fun _=>p5 rfl (p5 rfl rfl)) _ _ _) (p5 rfl (p5 rfl (p5 rfl rfl))))
def KV (p:p_):Option (List Int×Int) :=
 (rD p []).bind fun r=>match r with
 | (none,q)=>if decide (q≠0)=true then some ([],q) else none
 | (some b,q)=>if decide (q≠0)=true then some ([],q) else
   qy (0<b.1.1.length∧b.1.1.length≤7) <|
   (M1 (qW b.1.1.length (qh b.1.1.length)) (Kk b)).bind fun l=>some (l,0)
theorem Xt {p:p_} {v:List Int×Int} (h:KV p=some v):qu 33 [.agg [.av (p.1.flatMap p7) p.1.length .shared,h0 p.2.1,h0 p.2.2]] (.tuple [.av (v.1.map h0) v.1.length .shared,h0 v.2]):=by
 unfold KV at h;obtain ⟨⟨aS,bj⟩,ai,h⟩:=p9 h;refine qH eG ab5 rfl (Jf (p5 (rA (fun _=>rfl) _ _ _) (p5 rfl rfl))) fun Q bp=>?_;have jK:∀ T H,Hl [.tmp 2,.tmp 3] (.tuple [(.av (v.1.map h0) v.1.length .shared),(h0 v.2)]) .ret T H→Q .ret T H:=fun T H bE=>bp _ T H bE;unfold VE VI VH;obtain ⟨bt,eS⟩:∃ c,QH=c:=⟨_,rfl⟩;rw [eS];conv=>whnf
 refine ⟨qi.pl,_,L7 ai,?_⟩;rcases aS with _ | b
 ·conv=>whnf
  refine bs h (fun af h=>?_) fun af h=>?_
  ·rw [af];(conv=>whnf);obtain rfl:=Option.some.inj h;exact jK _ _ (Ie rfl rfl)
  ·cases h
 ·conv=>whnf
  refine bs h (fun af h=>?_) fun af h=>?_
  ·rw [af];(conv=>whnf);obtain rfl:=Option.some.inj h;exact jK _ _ (Ie rfl rfl)
  ·rw [af];(conv=>whnf);subst eS;unfold QH VG VF;obtain ⟨⟨Dj,Lo⟩,h⟩:=rL h;obtain ⟨l,ao,h⟩:=p9 h;obtain rfl:=Option.some.inj h;(conv=>whnf);refine ⟨p5 (H4 b) rfl,_,RG (b:=b) (v:=()) rfl,?_⟩;(conv=>whnf);have px:[I.bS [lq b]].all (cr 7)=true:=p5 (Ic (p5 (H4 b) rfl)) rfl;refine ⟨p5 (IM rfl px) rfl,_,Z2 px (WB Lo Dj) (Qj Dj) (Uv Lo),?_⟩;(conv=>whnf);refine ⟨_,_,ZF (agE (better:=Kk b) (kf_better:=57) (cv:=[.func 41 [lq b] []]) (oid:=1) rfl rfl rfl (p5 (IM (p5 (H4 b) rfl) rfl) rfl) (fun q4 BF r aY=>agG aY) ao) (rA (fun _=>rfl) _ _ _),?_⟩;(conv=>whnf);exact jK _ _ (Ie rfl rfl)
end Go.Proofs.Ytkoioidpbbbaiaa.Ab


namespace Go.Proofs.Ytkoioidpbbbaiaa.Ab
open Go
noncomputable def QJ:gE :=
 .ow true [p3 54 8, p0 55 [.Bu 54] .z6, qx 56 55 0, qx 57 56 0, qf 58 57, p0 59 [.nd 12] (.yO 0), qf 60 59, p0 61 [.nd 12] (.yO 1), p0 62 [.Bu 61] (.zG (.str 2)), p0 63 [.nd 12] (.yO 0), p0 64 [.Bu 63] (.other (Oper.mk (some 64) (Op.load 3 (Operand.tmp 63)) 3 "curl.go:119" (Array.mk [Edge.mk 9 Ground.data, Edge.mk 13 (Ground.gcOnly Departure.lateStores)]) none) 13), qT 65 64 1, q5 66 58 60 2, ⟨none, [.jq 66, .jq 62], none, none, .other (Oper.mk none (Op.store 52 (Operand.tmp 66) (Operand.tmp 62)) 0 "curl.go:119" (Array.mk [Edge.mk 12 Ground.data, Edge.mk 8 Ground.data, Edge.mk 0 Ground.phase, Edge.mk 1 Ground.phase, Edge.mk 2 Ground.phase, Edge.mk 3 Ground.phase, Edge.mk 4 Ground.phase, Edge.mk 5 Ground.phase, Edge.mk 6 Ground.phase, Edge.mk 7 Ground.phase, Edge.mk 8 Ground.phase, Edge.mk 9 (Ground.textOnly Departure.lateStores), Edge.mk 10 (Ground.textOnly Departure.lateStores), Edge.mk 11 (Ground.textOnly Departure.lateStores)]) none) 13⟩, p1 10 65]
noncomputable def VN:gE :=
 .seq (p2 [p1 39 10,p0 40 [.nd 3] (.yO 0),qf 41 40,qU 42 41,qw 43 42 1 .sub,p0 44 [.nd 12] (.yO 0),qf 45 44,p0 46 [.Bu 45] (.yD 1 1 [.int .i64 0] [0]),p0 47 [.cv (.func 37 [] []),.nd 39,.nd 43,.nd 46] (.call 3),p0 48 [.Bu 47] (.un .not),p1 49 48,cl 50 [.nd 12] 49 false (.yO 1),cl 51 [.Bu 50] 49 false (.zG (.str 2)),⟨some 52,[.cv (.func 44 [] []),.nd 51],some (49,false),none,.call 3⟩,p0 53 [.Bu 49,.cv (.bool true),.Bu 52] .pick] (.cond (.nd 53) (p2 [qc 6 0,qc 7 3] .ret) .skip)) QJ
noncomputable def QK:gE :=
 .block 1 (p2 [p0 37 [.nd 33,.nd 35] (.kZ 3),p0 38 [.Bu 37] (.zG (.str 3)),p0 12 [] (.alloc [.int .i64 0,.int .i64 0,.int .i64 0]),⟨none,[.nd 12,.jq 38],none,none,.st 3⟩] VN)
noncomputable def VO:gE :=
 p2 [p1 72 2,qU 73 72,p1 6 73,qc 7 0] .ret
noncomputable def QL:gE :=
 .seq (p2 [p1 68 8,p1 69 1,p0 70 [.cv (.func 41 [] []),.nd 68,.nd 69] (.call 6),qw 71 70 0 .gtr] (.cond (.nd 71) (p2 [qc 6 0,qc 7 23] .ret) .skip)) VO
noncomputable def VP:gE :=
 .seq (p2 [p3 33 2,p0 34 [.nd 33] .zL,qc 35 0] (.block 0 (.loop (some (p8 false [1,3,4,1,1,1,22,3,38])) (p2 [p0 36 [.nd 35,.nd 34] (.bin .lss)] (.seq (.cond (.nd 36) .skip (.exit 0)) (.seq QK (qG [qT 67 35 1,p1 35 67]))))))) QL
noncomputable def QM:gE :=
 p2 [p3 23 8,p3 24 8,p0 25 [.Bu 24] .z6,qx 26 25 0,qx 27 26 0,qf 28 27,p0 29 [.cv (.func 51 [] []),.nd 28] (.call 2),p0 30 [.Bu 23] .z6,qx 31 30 0,qx 32 31 0,⟨none,[.jq 32,.jq 29],none,none,.st 1⟩] VP
noncomputable def VQ:gE :=
 .seq (p2 [p3 20 9,qw 21 20 0 .neq] (.cond (.nd 21) (p2 [p1 22 9,qc 6 0,p1 7 22] .ret) .skip)) (p2 [qc 10 0] QM)
noncomputable def VR:gE :=
 p2 [p0 14 [.nd 3] (.zG (.str 3)),p3 15 1,p0 16 [.Bu 15] (.yD 1 1 [.av [] 0 .full] [0]),p0 17 [.cv (.func 36 [] []),.nd 14,.nd 16] (.call 2),p1 13 17,qL 18 13 0,p0 19 [.Bu 13] (.ext 1),p1 8 18,p1 9 19] VQ
noncomputable def VM:gE :=
 p2 [p0 3 [.jq 0] .yA,qc 6 0,qc 7 0] VR
theorem ab7:ql Go.Proofs.Try.prog Sk 23=some (VM,74,[.tmp 6,.tmp 7]):=by kernel_rfl
noncomputable def aeg:gE :=
 p2 [p0 5 [] (.yD 0 2 [.int .i64 0,.int .i64 0] []),p1 6 0,p0 7 [.jq 5,.jq 6] (.app 2 16),⟨some 2,[.jq 7],none,some 7,.Bs⟩] .ret
noncomputable def V1:gE :=
 p2 [p0 2 [.cv (.av [] 0 .full)] (.nil 2)] (.seq (p2 [p3 3 0, p0 4 [.Bu 3, .cv (.av [] 0 .full)] (.other (Oper.mk (some 4) (Op.binOp .eql 22 (Operand.tmp 3) (Operand.const (Value.slice none 0 0)) 22) 4 "slices.go:357" (Array.mk [Edge.mk 0 Ground.data]) none) 0)] (.cond (.nd 4) (p2 [p0 2 [.cv (.av [] 0 .full)] (.nil 2)] .ret) .skip)) aeg)
theorem acd:ql Go.Proofs.Try.prog SD 51=some (V1,8,[.tmp 2]):=by kernel_rfl
end Go.Proofs.Ytkoioidpbbbaiaa.Ab


namespace Go.Proofs.Ytkoioidpbbbaiaa.Ab
open Go
set_option maxRecDepth 20000
set_option maxHeartbeats 4000000
theorem Z0 {l:List (Int×Int)} (ao:l≠[]) (ab:l.length≤1000) (H:List ar):Sem Try.prog (.fn 51) [.av (l.flatMap p7) l.length .shared] H H.length (.ref H.length 0 l.length none 2) (H++[.cells (l.flatMap p7)]):=by
 obtain ⟨a,l,rfl⟩:=tM ao;refine ri eG acd rfl (ba.append _ _ _) fun Q bp=>?_;unfold V1;conv=>whnf
 refine ⟨.bool false,H,fun C=>rfl,?_⟩;conv=>whnf
 refine ⟨Ii p7 2 (fun _=>rfl) _,by simp only [sK] at ab ⊢;omega,?_⟩;conv=>whnf
 refine ⟨rfl,by simp only [sK] at ab ⊢;omega,?_⟩;conv=>whnf
 refine .inl ⟨by simp,?_⟩;conv=>whnf
 rw [sB];exact bp _ _ _ ⟨.inr rfl,lJ.refl _,rfl⟩
theorem adL {d:Nat} (l:List (Int×Int)) (n:Nat) (c:hE):cr (d+2) (.av (l.flatMap p7) n c)=true:=Hv (fun _=>p5 rfl (p5 rfl rfl)) _ _ _
theorem ZZ {l:List (Int×Int)} (ao:l≠[]) (ab:l.length≤1000) (H:List ar) (lo:Nat):oW Try.prog 2 lo (.fn 51) [.av (l.flatMap p7) l.length .shared] H (.ref H.length 0 l.length none 2) (H++[.cells (l.flatMap p7)]):=by
 refine ⟨_,EC (Z0 ao ab H),?_⟩;have e1:DN 2 H.length (H++[ar.cells (l.flatMap p7)]) (.ref H.length 0 l.length none 2)=some H.length:=by simp [DN,Cp,yW]
 have b':(H++[ar.cells (l.flatMap p7)])[H.length]?=some (.cells (l.flatMap p7)):=by simp
 have dB:bM (H++[ar.cells (l.flatMap p7)]) H.length H.length H.length 8 (.ref H.length 0 l.length none 2)=some (.ref H.length 0 l.length none 2):=by simp [bM]
 have l3:ea (bM (H++[ar.cells (l.flatMap p7)]) H.length H.length H.length 8) (l.flatMap p7)=some (l.flatMap p7):=zW fun u hu=>by
  obtain ⟨x,_,aj⟩:=tL.1 hu;simp only [p7,sA,tS,or_false] at aj;rcases aj with rfl | rfl <;> rfl
 simp only [eQ,EB,sb,e1,b',dB,l3,sc,if_true]
theorem Qh {P:Program} {C:b8} {lo id:Nat} {o:Oper} {t:TypeId} {e:Operand} {x y z:I} {H:List ar} (aq:o.op=.load t e) (cu:iL P t=some .one) (ag:H[id]?=some (.cells [x,y,z])):a3 P C lo o 13 [.ptr id 0] H=some (x.view,H):=by
 unfold a3;rw [aq];show du P lo 13 t H [.ptr id 0]=_;unfold du;simp only [ag,sK,tK,if_true];rw [Pk cu];simp only [Mi,ag,J_];rfl
theorem Rq:∀ (S:List (Int×Int)) (i:Nat) (a b:Int),i<S.length→((S.flatMap p7).set (i*2) (h0 a)).set (i*2+1) (h0 b)=(S.set i (a,b)).flatMap p7
 | [],i,a,b,h=>absurd h (by simp)
 | s::S,0,a,b,_=>rfl
 | s::S,i+1,a,b,h=>by
   have a8:=Rq S i a b (by simpa using h);show ((h0 s.1::h0 s.2::S.flatMap p7).set ((i+1)*2) (h0 a)).set ((i+1)*2+1) (h0 b)=h0 s.1::h0 s.2::(S.set i (a,b)).flatMap p7;rw [←a8,show (i+1)*2=i*2+1+1 by omega,show i*2+1+1+1=(i*2+1)+1+1 by omega];rfl
theorem afj {P:Program} {C:b8} {lo id i:Nat} {o:Oper} {t:TypeId} {e1 b':Operand} {S:List (Int×Int)} {a b:Int} {H:List ar} (aq:o.op=.store t e1 b') (ah:bF P t=some 2) (bD:lo≤id) (hi:i<S.length) (ag:H[id]?=some (.cells (S.flatMap p7))) :
  a3 P C lo o 13 [.ptr id (i*2),.agg [h0 a,h0 b]] H=some (.a0,H.set id (.cells ((S.set i (a,b)).flatMap p7))):=by
 have ao:(S.flatMap p7).length=S.length*2:=Ii p7 2 (fun _=>rfl) S;unfold a3;rw [aq];show gm P lo 13 t H [.ptr id (i*2),.agg [h0 a,h0 b]]=_;unfold gm;simp only [ag];rw [if_neg (by omega)];unfold g8;simp only [ah,I.cells,gT,ag,if_pos bD];rw [if_pos ⟨rfl,by omega⟩,←Rq S i a b hi];rfl
theorem Qm {α:Type} {f:α→α} {l:List α} (h:∀ u∈l,f u=u):l.map f=l:=by
 conv=>rhs;rw [←List.map_id l]
 exact List.map_congr_left fun u hu=>h u hu
theorem Wx {S:List (Int×Int)} {H:List ar} {id n:Nat} {cap:Option Nat} (ag:H[id]?=some (.cells (S.flatMap p7))) (aI:S.length=n):rowOf H (.ref id 0 n cap 2)=some (S.flatMap p7):=by
 have ao:(S.flatMap p7).length=S.length*2:=Ii p7 2 (fun _=>rfl) S;simp only [rowOf,ag,sB,List.drop_zero];rw [if_pos (by omega),tg (by omega),Qm (Xn (f:=p7) (fun _=>MV rfl (MV rfl Xo)) S)]
abbrev qn:=Int×(Int×Int)
def Lh (n:Int):List qn→List (Int×Int)→Int→Option (Option (List (Int×Int)))
 | [],S,_=>some (some S)
 | c::r,S,next=>(IA next (w (n-1)) [c.1]).bind fun a =>
   if a=true then (Km c.2).bind fun bad=>if bad=true then some none else qy (0≤c.1∧c.1<(S.length:Int)) <| Lh n r (S.set c.1.toNat c.2) (w (c.1+1))
   else some none
def Jy (p:p_) (order:List Int) (l:List qn):Option (Int×Int) :=
 (rD p [order]).bind fun r=>match r with
 | (none,q)=>if decide (q≠0)=true then some (0,q) else none
 | (some b,q)=>if decide (q≠0)=true then some (0,q) else
   qy (p.1≠[]∧p.1.length≤1000∧l.length≤1000) <|
   (Lh p.1.length l p.1 0).bind fun o=>match o with
   | none=>some (0,3)
   | some S=>(JU ((S,p.2),()) order).bind fun c=>if decide (0<c)=true then some (0,23) else some (l.length,0)
theorem RB {p:p_} {order:List Int} {l:List qn} {v:Int×Int} (h:Jy p order l=some v):qu 23 [.agg [.av (p.1.flatMap p7) p.1.length .shared,h0 p.2.1,h0 p.2.2],.av (order.map h0) order.length .shared,.av (l.flatMap qm) l.length .shared] (.tuple [h0 v.1,h0 v.2]):=by
 unfold Jy at h;obtain ⟨⟨aS,bj⟩,ai,h⟩:=p9 h;refine qH eG ab7 rfl (Jf (p5 rfl (p5 rfl rfl))) fun Q bp=>?_;have jK:∀ T H,Hl [.tmp 6,.tmp 7] (.tuple [h0 v.1,h0 v.2]) .ret T H→Q .ret T H:=fun T H bE=>bp _ T H bE;unfold VM VR VQ;obtain ⟨nv,Lj⟩:∃ c,QM=c:=⟨_,rfl⟩;rw [Lj];conv=>whnf
 refine ⟨rfl,?_⟩;conv=>whnf
 rcases aS with _ | b
 ·refine ⟨_,_,ZI ai,?_⟩;conv=>whnf
  refine bs h (fun af h=>?_) fun af h=>?_
  ·rw [af];(conv=>whnf);obtain rfl:=Option.some.inj h;exact jK _ _ (Ie rfl rfl)
  ·cases h
 ·obtain ⟨rfl,rfl,_⟩:=MY ai;refine ⟨_,_,ZH ai,?_⟩;conv=>whnf
  refine bs h (fun af h=>?_) fun af h=>?_
  ·exact absurd af (by decide)
  subst Lj;unfold QM;obtain ⟨⟨bJ,aB,ao⟩,h⟩:=rL h;obtain ⟨o,ak,h⟩:=p9 h;obtain ⟨bt,eS⟩:∃ c,QK=c:=⟨_,rfl⟩;obtain ⟨dV,Cs⟩:∃ c,QL=c:=⟨_,rfl⟩;unfold VP;rw [eS,Cs];conv=>whnf
  refine ⟨_,_,ZZ bJ aB _ _,?_⟩;conv=>whnf
  have el:(l.flatMap qm).length=l.length*3:=Ii qm 3 (fun _=>rfl) _
  refine .intro (fun m T H=>∃ (i:Nat) (S:List (Int×Int)) (next:Int) (Y:List ar),i≤l.length∧m=l.length-i∧S.length=p.1.length∧Lh p.1.length (l.drop i) S next=some o ∧
   T=qa 74 [(1,.av (order.map h0) order.length .shared),(2,.av (l.flatMap qm) l.length .shared),(3,.bS [.av (p.1.flatMap p7) p.1.length .shared,h0 p.2.1,h0 p.2.2]),(8,.ptr 0 0),(10,h0 next),(33,.av (l.flatMap qm) l.length .shared),(34,h0 l.length),(35,h0 i)] ∧
   H=ar.cells [.ref 1 0 p.1.length none 2,h0 p.2.1,h0 p.2.2,Hg]::ar.cells (S.flatMap p7)::Y) l.length ⟨0,p.1,0,[],sD _,rfl,rfl,ak,rfl,rfl⟩ ?_
  rintro m T H ⟨i,S,next,Y,hi,rfl,cp,al,rfl,rfl⟩;conv=>whnf
  refine Hm (fun aR=>?_) (fun aR=>?_)
  ·(have HB:i<l.length:=by omega);rw [s7 HB] at al;unfold Lh at al;obtain ⟨a,cu,al⟩:=p9 al;subst eS;unfold QK VN;obtain ⟨a7,cf⟩:∃ c,QJ=c:=⟨_,rfl⟩;rw [cf];(conv=>whnf);(have Ik:0≤(i:Int)∧(i:Int)<(l.length:Int):=by omega);refine ⟨Ik,?_⟩;rw [Ib qm 3 HV l (i:Int) Ik];rw [rI HB];obtain ⟨c,P5⟩:∃ c,c=l[i]:=⟨_,rfl⟩;rw [←P5] at cu al ⊢;(conv=>whnf);refine Ex (x:=ar.cells [h0 0,h0 0,h0 0]) (by first | exact qC.h | rfl | (simp [sj,I.settle];done)) ?_
   (conv=>whnf);rw [HQ];refine Ex (x:=ar.cells [h0 c.1,h0 c.2.1,h0 c.2.2]) (by first | exact qC.h | rfl | (simp [sj,I.settle];done)) ?_
   (conv=>whnf);refine ⟨p5 rfl (p5 rfl (p5 rfl rfl)),_,Kl cu,?_⟩;(conv=>whnf);cases a with
   | false =>
     obtain rfl:=Option.some.inj (HC rfl al);(conv=>whnf);obtain rfl:=Option.some.inj h;exact jK _ _ (Ie rfl rfl)
   | true =>
     obtain ⟨bad,gN,al⟩:=p9 (HD rfl al);(conv=>whnf);refine Ex (x:=ar.cells [h0 c.1,h0 c.2.1,h0 c.2.2]) (by first | exact qC.h | rfl | (simp [sj,I.settle];done)) ?_
     (conv=>whnf);refine ⟨p5 rfl rfl,_,XH gN,?_⟩;(conv=>whnf);cases bad with
     | true =>
       obtain rfl:=Option.some.inj (HD rfl al);(conv=>whnf);obtain rfl:=Option.some.inj h;exact jK _ _ (Ie rfl rfl)
     | false =>
       obtain ⟨jN,al⟩:=rL (HC rfl al);(conv=>whnf);subst cf;unfold QJ;(conv=>whnf);refine Ex (x:=ar.cells [h0 c.1,h0 c.2.1,h0 c.2.2]) (by first | exact qC.h | rfl | (simp [sj,I.settle];done)) ?_
       (conv=>whnf);refine Ex (x:=ar.cells [h0 c.1,h0 c.2.1,h0 c.2.2]) (by first | exact qC.h | rfl | (simp [sj,I.settle];done)) ?_
       (conv=>whnf);refine ⟨_,_,fun C=>Qh (x:=h0 c.1) rfl (by kernel_rfl) (by first | exact qC.h | rfl | (simp [sj,I.settle];done)),?_⟩
       (conv=>whnf);refine ⟨by omega,?_⟩;(conv=>whnf);refine ⟨.a0,ar.cells [.ref 1 0 p.1.length none 2,h0 p.2.1,h0 p.2.2,Hg]::ar.cells ((S.set c.1.toNat c.2).flatMap p7)::(Y++[ar.cells [h0 c.1,h0 c.2.1,h0 c.2.2]]),fun C=>Eq.trans (by rw [sB];exact afj (S:=S) (i:=c.1.toNat) (id:=1) rfl (by kernel_rfl) (sD _) (by omega) rfl) rfl,?_⟩;(conv=>whnf);(have rz:IntKind.i64.wrap ((i:Int)+1)=((i+1:Nat):Int):=by rw [Hj _ (by omega) (by omega)];omega);exact ⟨l.length-(i+1),by omega,i+1,S.set c.1.toNat c.2,w (c.1+1),_,by omega,rfl,by simpa using cp,al,by rw [rz];rfl,rfl⟩
  ·(obtain rfl:i=l.length:=by omega);rw [vb] at al;obtain rfl:=Option.some.inj al;obtain ⟨c,abf,h⟩:=p9 h;(conv=>whnf);subst Cs;unfold QL VO;have cI:rowOf (ar.cells [.ref 1 0 p.1.length none 2,h0 p.2.1,h0 p.2.2,Hg]::ar.cells (S.flatMap p7)::Y) (.ref 1 0 p.1.length none 2)=some (S.flatMap p7):=Wx rfl cp;have Co:iD (ar.cells [.ref 1 0 p.1.length none 2,h0 p.2.1,h0 p.2.2,Hg]::ar.cells (S.flatMap p7)::Y) (.ptr 0 0)=lq ((S,p.2),()):=by
    show I.bS [ki _ (.ref 1 0 p.1.length none 2),h0 p.2.1,h0 p.2.2,Hg]=_;have gb:ki (ar.cells [.ref 1 0 p.1.length none 2,h0 p.2.1,h0 p.2.2,Hg]::ar.cells (S.flatMap p7)::Y) (.ref 1 0 p.1.length none 2)=.av (S.flatMap p7) p.1.length .shared:=by
     show (match rowOf _ (.ref 1 0 p.1.length none 2) with | some row=>I.av row p.1.length .shared | none=>.ref 1 0 p.1.length none 2)=_;rw [cI]
    rw [gb,←cp]
   (conv=>whnf);refine ⟨_,_,call6 (bs:=[lq ((S,p.2),()),.av (order.map h0) order.length .shared]) (by rw [sE,Co];rfl) (by rw [sE,Co];exact p5 (H4 _) (p5 (rA (fun _=>rfl) _ _ _) rfl)) (M0 abf) rfl,?_⟩;(conv=>whnf);refine bs h (fun af h=>?_) fun af h=>?_
   ·rw [af];(conv=>whnf);obtain rfl:=Option.some.inj h;exact jK _ _ (Ie rfl rfl)
   ·rw [af];(conv=>whnf);obtain rfl:=Option.some.inj h;exact jK _ _ (Ie rfl rfl)
end Go.Proofs.Ytkoioidpbbbaiaa.Ab


namespace Go.Proofs.Ytkoioidpbbbaiaa.Ab
open Go
noncomputable def QS:gE :=
 .block 1 (q_ [p0 20 [.nd 5] (.yO 0),qf 21 20,p3 22 1,p3 23 6,q5 24 22 23 3,qx 25 24 0,qf 26 25,p3 27 1,p3 28 6,q5 29 27 28 3,qx 30 29 1,p0 31 [.Bu 30] (.zG (.str 2)),q5 32 21 26 2,⟨none,[.jq 32,.jq 31],none,none,.st 2⟩])
noncomputable def V3:gE :=
 .seq (p2 [p3 14 6,p3 15 1,qU 16 15,qo 17 14 16 .lss] (.cond (.nd 17) .skip (.exit 0))) (.seq QS (qG [p1 18 6,qT 19 18 1,p1 6 19]))
noncomputable def NM:gE :=
 .seq (p2 [qc 6 0] (.block 0 (.loop (some (p8 false [1,1,2,3,27])) V3))) (p2 [p0 33 [.Bu 5] (.zG (.str 3)),⟨none,[.nd 4,.jq 33],none,none,.st 3⟩] .ret)
noncomputable def V4:gE :=
 .seq (.two [p0 7 [] (.yD 0 2 [.int .i64 0,.int .i64 0] []),p0 8 [.nd 2] (.yO 0),p0 9 [.Bu 8] (.zH .one),p0 10 [.jq 7,.jq 9] (.yv 2 16),p0 11 [.nd 2] (.yO 1),p0 12 [.Bu 11] (.zH (.str 2)),p0 13 [.Bu 10,.Bu 12] (.build [.av [] 0 .full,.int .i64 0,.int .i64 0] [(0,1),(1,2)]),p0 5 [] (.alloc [.av [] 0 .full,.int .i64 0,.int .i64 0]),⟨none,[.nd 5,.jq 13],none,none,.st 3⟩] [p0 7 [] (.yD 0 2 [.int .i64 0,.int .i64 0] []),p0 8 [.nd 2] (.yO 0),p0 9 [.Bu 8] (.zH .one),p0 5 [] (.alloc [.av [] 0 .full,.int .i64 0,.int .i64 0]),p0 10 [.jq 7,.jq 9] (.yv 2 16),p0 11 [.nd 2] (.yO 1),p0 12 [.Bu 11] (.zH (.str 2)),p0 13 [.Bu 10,.Bu 12] (.build [.av [] 0 .full,.int .i64 0,.int .i64 0] [(0,1),(1,2)]),⟨none,[.nd 5,.jq 13],none,none,.st 3⟩]) NM
noncomputable def V2:gE :=
 p2 [p0 2 [.jq 0] .yA,p0 4 [] (.alloc [.av [] 0 .full,.int .i64 0,.int .i64 0])] V4
theorem ace:ql Go.Proofs.Try.prog Pc 52=some (V2,34,[.cell 4 (.str 3)]):=by kernel_rfl
end Go.Proofs.Ytkoioidpbbbaiaa.Ab


namespace Go.Proofs.Ytkoioidpbbbaiaa.Ab
open Go
set_option maxRecDepth 20000
set_option maxHeartbeats 4000000
def Ky:List qn→List (Int×Int)→Option (List (Int×Int))
 | [],S=>some S
 | c::r,S=>qy (0≤c.1∧c.1<(S.length:Int)) <| Ky r (S.set c.1.toNat c.2)
def M3 (p:p_) (l:List qn):Option p_ :=
 qy (p.1≠[]∧p.1.length≤1000∧l.length≤1000) <| (Ky l p.1).bind fun S=>some (S,p.2)
theorem UF {p:p_} {l:List qn} {S':List (Int×Int)} (ao:l.length≤1000) (Da:Ky l p.1=some S') {vid rid:Nat} {Hs:List (Int×Int)→List ar} (aQ:∀ S,∃ x,(Hs S)[0]?=some (.cells [x,h0 0,h0 0])) (ad:∀ S,(Hs S)[vid]?=some (.cells [.ref rid 0 p.1.length none 2,h0 p.2.1,h0 p.2.2])) (ai:∀ S,(Hs S)[rid]?=some (.cells (S.flatMap p7))) (ah:∀ S bL,(Hs S).set rid (.cells (bL.flatMap p7))=Hs bL)
  (nK:∀ (S:List (Int×Int)) (T:List I),S.length=p.1.length→df T 4=.ptr 0 0→Hl [.cell 4 (.str 3)] (.agg [.av (S.flatMap p7) S.length .shared,h0 p.2.1,h0 p.2.2]) .ret T ((Hs S).set 0 (.cells [.ref rid 0 p.1.length none 2,h0 p.2.1,h0 p.2.2])))
  {Q:cQ→List I→List ar→Prop} (bp:∀ T H,Hl [.cell 4 (.str 3)] (.agg [.av (S'.flatMap p7) S'.length .shared,h0 p.2.1,h0 p.2.2]) .ret T H→Q .ret T H) {T:List I} {v2:I} (b0:T=qa 34 [(1,.av (l.flatMap qm) l.length .shared),(2,v2),(4,.ptr 0 0),(5,.ptr vid 0)]) :
  dQ Try.prog Pc 52 0 none NM T (Hs p.1) Q:=by
 subst b0;unfold NM V3;obtain ⟨a7,cf⟩:∃ c,QS=c:=⟨_,rfl⟩;rw [cf];conv=>whnf
 refine .intro (fun m T H=>∃ (i:Nat) (S:List (Int×Int)),i≤l.length∧m=l.length-i∧S.length=p.1.length∧Ky (l.drop i) S=some S'∧T=qa 34 [(1,.av (l.flatMap qm) l.length .shared),(4,.ptr 0 0),(5,.ptr vid 0),(6,h0 i)]∧H=Hs S) l.length ⟨0,p.1,sD _,rfl,rfl,Da,rfl,rfl⟩ ?_;rintro m T H ⟨i,S,hi,rfl,cp,al,rfl,rfl⟩;conv=>whnf
 refine Hm (fun aR=>?_) (fun aR=>?_)
 ·have HB:i<l.length:=by omega
  rw [s7 HB] at al;unfold Ky at al;obtain ⟨jN,al⟩:=rL al;subst cf;unfold QS;conv=>whnf
  refine Ex (ad S) ?_;conv=>whnf
  have Ik:0≤(i:Int)∧(i:Int)<(l.length:Int):=by omega
  refine ⟨Ik,?_⟩;rw [Ib qm 3 HV l (i:Int) Ik];rw [rI HB];conv=>whnf
  refine ⟨Ik,?_⟩;rw [Ib qm 3 HV l (i:Int) Ik];rw [rI HB];obtain ⟨c,P5⟩:∃ c,c=l[i]:=⟨_,rfl⟩;rw [←P5] at al jN ⊢;conv=>whnf
  refine ⟨by omega,?_⟩;conv=>whnf
  refine Ex (ai S) ?_;conv=>whnf
  rw [show 0+c.1.toNat*2=c.1.toNat*2 by omega];have pF:(S.flatMap p7).length=S.length*2:=Ii p7 2 (fun _=>rfl) S;refine Gp (by omega) ?_;conv=>whnf
  refine Gp (by rw [List.length_set];omega) ?_;conv=>whnf
  erw [Rq S c.1.toNat c.2.1 c.2.2 (by omega),ah];have rz:IntKind.i64.wrap ((i:Int)+1)=((i+1:Nat):Int):=by rw [Hj _ (by omega) (by omega)];omega
  exact ⟨l.length-(i+1),by omega,i+1,S.set c.1.toNat c.2,by omega,rfl,by simpa using cp,al,by rw [rz];rfl,rfl⟩
 ·obtain rfl:i=l.length:=by omega
  rw [vb] at al;obtain rfl:=Option.some.inj al;conv=>whnf
  refine Ex (ad S) ?_;conv=>whnf
  obtain ⟨x,aj⟩:=aQ S;refine Ex aj ?_;conv=>whnf
  exact bp _ _ (nK S _ cp rfl)
theorem Tw {S:List (Int×Int)} {H:List ar} {id n d:Nat} {x y:Int} (aE:id<H.length) (ag:H[id]?=some (.cells (S.flatMap p7))) (aI:S.length=n):bM H 0 H.length 0 (d+3) (.agg [.ref id 0 n none 2,h0 x,h0 y])=some (.agg [.av (S.flatMap p7) n .shared,h0 x,h0 y]):=by
 have e1:bM H 0 H.length 0 (d+2) (.ref id 0 n none 2)=some (.av (S.flatMap p7) n .shared):=by
  show (if id<0 then some (I.ref id 0 n none 2) else if id=H.length then some (.ref 0 0 n none 2) else match rowOf H (.ref id 0 n none 2) with | some row=>(ea (bM H 0 H.length 0 (d+1)) row).map fun cs=>.av cs n (e3 none n) | none=>none)=_;rw [if_neg (by omega),if_neg (by omega),Wx ag aI];have l3:ea (bM H 0 H.length 0 (d+1)) (S.flatMap p7)=some (S.flatMap p7):=zW fun u hu=>by
   obtain ⟨x,_,aj⟩:=tL.1 hu;simp only [p7,sA,tS,or_false] at aj;rcases aj with rfl | rfl <;> rfl
  simp only [l3,se];rfl
 show (ea (bM H 0 H.length 0 (d+2)) [.ref id 0 n none 2,h0 x,h0 y]).map I.agg=_;rw [rk e1 (rk rfl (rk rfl Iy))];rfl
theorem agL {p:p_} {l:List qn} {v:p_} (h:M3 p l=some v):qu 52 [.agg [.av (p.1.flatMap p7) p.1.length .shared,h0 p.2.1,h0 p.2.2],.av (l.flatMap qm) l.length .shared] (.agg [.av (v.1.flatMap p7) v.1.length .shared,h0 v.2.1,h0 v.2.2]):=by
 unfold M3 at h;obtain ⟨⟨bJ,aB,ao⟩,h⟩:=rL h;obtain ⟨S',ak,h⟩:=p9 h;obtain rfl:=Option.some.inj h;refine qH eG ace rfl (HU (p5 (adL _ _ _) (p5 rfl (p5 rfl rfl)))) fun Q bp=>?_;have jK:∀ T H,Hl [.cell 4 (.str 3)] (.agg [.av (S'.flatMap p7) S'.length .shared,h0 p.2.1,h0 p.2.2]) .ret T H→Q .ret T H:=fun T H bE=>bp _ T H bE;have pF:(p.1.flatMap p7).length=p.1.length*2:=Ii p7 2 (fun _=>rfl) p.1;have TZ:p.1.length≠0:=fun e=>bJ (sO.1 e);have e1:∀ S:List (Int×Int),S.length=p.1.length→∀ T:List I,df T 4=.ptr 0 0→Hl [.cell 4 (.str 3)] (.agg [.av (S.flatMap p7) S.length .shared,h0 p.2.1,h0 p.2.2]) .ret T [.cells [.ref 1 0 p.1.length none 2,h0 p.2.1,h0 p.2.2],.cells (S.flatMap p7),.cells [.ref 1 0 p.1.length none 2,h0 p.2.1,h0 p.2.2]]:=fun S cp T b0=>by
  refine ⟨.inr rfl,[.agg [.ref 1 0 p.1.length none 2,h0 p.2.1,h0 p.2.2]],by simp only [rF,b0];rfl,_,Tw (S:=S) (by simp) rfl cp,by rw [cp];rfl⟩
 have b':∀ S:List (Int×Int),S.length=p.1.length→∀ T:List I,df T 4=.ptr 0 0→Hl [.cell 4 (.str 3)] (.agg [.av (S.flatMap p7) S.length .shared,h0 p.2.1,h0 p.2.2]) .ret T [.cells [.ref 2 0 p.1.length none 2,h0 p.2.1,h0 p.2.2],.cells [.ref 2 0 p.1.length none 2,h0 p.2.1,h0 p.2.2],.cells (S.flatMap p7)]:=fun S cp T b0=>by
  refine ⟨.inr rfl,[.agg [.ref 2 0 p.1.length none 2,h0 p.2.1,h0 p.2.2]],by simp only [rF,b0];rfl,_,Tw (S:=S) (by simp) rfl cp,by rw [cp];rfl⟩
 unfold V2 V4;obtain ⟨ahe,PD⟩:∃ c,NM=c:=⟨_,rfl⟩;rw [PD];conv=>whnf
 refine ⟨rfl,?_⟩;conv=>whnf
 refine ⟨?_,?_⟩
 ·conv=>whnf
  refine ⟨pF,by omega,?_⟩;conv=>whnf
  refine ⟨rfl,by omega,?_⟩;conv=>whnf
  refine ⟨by omega,?_⟩;conv=>whnf
  rw [sB];subst PD;refine UF ao ak (vid:=2) (rid:=1) (Hs:=fun S=>[.cells [.av [] 0 .full,h0 0,h0 0],.cells (S.flatMap p7),.cells [.ref 1 0 p.1.length none 2,h0 p.2.1,h0 p.2.2]]) (fun _=>⟨_,rfl⟩) (fun _=>rfl) (fun _=>rfl) (fun _ _=>rfl) (fun S T cp b0=>e1 S cp T b0) jK rfl
 ·conv=>whnf
  refine ⟨pF,by omega,?_⟩;conv=>whnf
  refine ⟨rfl,by omega,?_⟩;conv=>whnf
  refine ⟨by omega,?_⟩;conv=>whnf
  rw [sB];subst PD;refine UF ao ak (vid:=1) (rid:=2) (Hs:=fun S=>[.cells [.av [] 0 .full,h0 0,h0 0],.cells [.ref 2 0 p.1.length none 2,h0 p.2.1,h0 p.2.2],.cells (S.flatMap p7)]) (fun _=>⟨_,rfl⟩) (fun _=>rfl) (fun _=>rfl) (fun _ _=>rfl) (fun S T cp b0=>b' S cp T b0) jK rfl

abbrev qS:=Int×Int
abbrev qY:=List (Nat×qS×qS)
def q2 (A:qY):List (Nat×I×I):=A.map fun a=>(a.1,.agg (p7 a.2.1),.agg (p7 a.2.2))
theorem Pt (a b:qS):gK (.agg (p7 a)) (.agg (p7 b))=some (decide (a=b)):=by
 simp only [gK,p7,dL,if_true,se,tu,Option.some.injEq];rw [Bool.eq_iff_iff];simp only [beq_iff_eq,decide_eq_true_eq,Bool.and_eq_true];exact ⟨fun h=>Prod.ext h.1 h.2,fun h=>by rw [h];exact ⟨rfl,rfl⟩⟩
theorem Px {k:qS}:∀ {A:qY} {n:Nat},(∀ x∈A,k≠x.2.1)→fH (.agg (p7 k)) (q2 A) n=some none
 | [],n,_=>rfl
 | a::A,n,h=>by
   simp only [q2,sE,fH,Pt];rw [decide_eq_false (h a (by simp))];exact Px (n:=n+1) fun x aj=>h x (by simp [aj])
theorem Nq {k:qS} {a:Nat×qS×qS} {R:qY} (cu:a.2.1=k):∀ {A:qY} {n:Nat},(∀ x∈A,k≠x.2.1)→fH (.agg (p7 k)) (q2 (A++a::R)) n=some (some (n+A.length))
 | [],n,_=>by
   simp only [tP,q2,sE,fH,Pt];rw [decide_eq_true cu.symm];rfl
 | b::A,n,h=>by
   simp only [List.cons_append,q2,sE,fH,Pt];rw [decide_eq_false (h b (by simp))];have:=Nq (R:=R) cu (A:=A) (n:=n+1) fun x aj=>h x (by simp [aj]);simp only [q2] at this;show fH (.agg (p7 k)) _ (n+1)=_;rw [this,sK];congr 2;omega
theorem MQ (k:qS):∀ (A:qY),(∀ x∈A,k≠x.2.1)∨∃ L a R,A=L++a::R∧a.2.1=k∧∀ x∈L,k≠x.2.1
 | []=>.inl (by simp)
 | b::A=>by
   by_cases h:b.2.1=k
   ·exact .inr ⟨[],b,A,rfl,h,by simp⟩
   ·rcases MQ k A with ab | ⟨L,a,R,ab,ae,aF⟩
    ·refine .inl fun x aj=>?_;rcases sA.1 aj with rfl | aj
     ·exact fun e=>h e.symm
     ·exact ab x aj
    ·refine .inr ⟨b::L,a,R,by rw [ab];rfl,ae,fun x aj=>?_⟩;rcases sA.1 aj with rfl | aj
     ·exact fun e=>h e.symm
     ·exact aF x aj
def HN (s:qY×Nat) (k v:qS):qY×Nat :=
 if s.1.any (fun a=>decide (k=a.2.1))=true then (s.1.map fun a=>if k=a.2.1 then (a.1,k,v) else a,s.2) else (s.1++[(s.2,k,v)],s.2+1)
structure Jp (s:qY×Nat):Prop where
 ids:(s.1.map (·.1)).Nodup
 low:∀ a∈s.1,a.1<s.2
 keys:(s.1.map (·.2.1)).Nodup
theorem T_ {L R:qY} {a:Nat×qS×qS} (h:((L++a::R).map (·.2.1)).Nodup):(∀ x∈L,a.2.1≠x.2.1)∧∀ x∈R,a.2.1≠x.2.1:=by
 rw [sP,sE] at h;obtain ⟨_,ae,aF⟩:=uo.1 h;refine ⟨fun x aj e=>aF _ (tf aj) _ (by simp) e.symm,fun x aj e=>?_⟩;exact (tW.1 ae).1 (by rw [e];exact tf aj)
theorem UT {s:qY×Nat} {k v:qS} (h:∀ x∈s.1,k≠x.2.1):HN s k v=(s.1++[(s.2,k,v)],s.2+1):=by
 unfold HN;rw [if_neg];rw [vF];rintro ⟨x,aj,e⟩;exact h x aj (of_decide_eq_true e)
theorem UU {L R:qY} {a:Nat×qS×qS} {c:Nat} {v:qS} (al:((L++a::R).map (·.2.1)).Nodup):HN (L++a::R,c) a.2.1 v=(L++(a.1,a.2.1,v)::R,c):=by
 obtain ⟨ab,ae⟩:=T_ al;unfold HN;rw [if_pos (by rw [vF];exact ⟨a,by simp,decide_eq_true rfl⟩)];have key:∀ l:qY,(∀ x∈l,a.2.1≠x.2.1)→l.map (fun x=>if a.2.1=x.2.1 then (x.1,a.2.1,v) else x)=l:=fun l ao=>Qm fun x aj=>if_neg (ao x aj);show (List.map _ (L++a::R),c)=_;rw [sP,sE,key L ab,key R ae,if_pos rfl]
theorem Jp.put {s:qY×Nat} (h:Jp s) (k v:qS):Jp (HN s k v):=by
 rcases MQ k s.1 with ab | ⟨L,a,R,ab,ae,aF⟩
 ·rw [UT ab];refine ⟨?_,?_,?_⟩
  ·rw [sP,uo];refine ⟨h.ids,by simp,fun x aj y aY e=>?_⟩;obtain ⟨z,bk,rfl⟩:=sC.1 aj;have:=h.low z bk;simp at aY;omega
  ·intro z bk;rcases th.1 bk with bk | bk
   ·have:=h.low z bk;show z.1<s.2+1;omega
   ·simp at bk;subst bk;show s.2<s.2+1;omega
  ·rw [sP,uo];refine ⟨h.keys,by simp,fun x aj y aY e=>?_⟩;obtain ⟨z,bk,rfl⟩:=sC.1 aj;simp at aY;exact ab z bk (by rw [e,aY])
 ·obtain ⟨s1,c⟩:=s;simp only at ab;subst ab ae;rw [UU h.keys];refine ⟨?_,?_,?_⟩
  ·have:=h.ids;simpa using this
  ·intro z bk;rcases th.1 bk with bk | bk
   ·exact h.low z (by simp [bk])
   ·rcases sA.1 bk with rfl | bk
    ·exact h.low a (by simp)
    ·exact h.low z (by simp [bk])
  ·have:=h.keys;simpa using this
theorem UR {α:Type} (f:α→α) (x:α) (R:List α):∀ L:List α,(L++x::R).modify L.length f=L++f x::R
 | []=>rfl
 | a::L=>by
   show (a::(L++x::R)).modify (L.length+1) f=a::(L++f x::R);rw [List.modify_succ_cons,UR f x R L]
theorem Ve {k v:qS} {s:qY×Nat} (ah:Jp s) :
  (∃ i,fH (.agg (p7 k)) (q2 s.1) 0=some (some i)∧(q2 s.1).modify i (fun e=>(e.1,.agg (p7 k),.agg (p7 v)))=q2 (HN s k v).1∧s.2=(HN s k v).2) ∨
  (fH (.agg (p7 k)) (q2 s.1) 0=some none∧q2 s.1++[(s.2,.agg (p7 k),.agg (p7 v))]=q2 (HN s k v).1∧s.2+1=(HN s k v).2):=by
 rcases MQ k s.1 with ab | ⟨L,a,R,ab,ae,aF⟩
 ·refine .inr ⟨Px ab,?_⟩;rw [UT ab];exact ⟨by simp [q2],rfl⟩
 ·obtain ⟨s1,c⟩:=s;simp only at ab;subst ab ae;refine .inl ⟨_,Nq rfl aF,?_⟩;rw [UU ah.keys];refine ⟨?_,rfl⟩;rw [sB];simp only [q2,sP,sE];have:=UR (fun e:Nat×I×I=>(e.1,I.agg (p7 a.2.1),I.agg (p7 v))) (a.1,I.agg (p7 a.2.1),I.agg (p7 a.2.2)) (R.map fun a=>(a.1,I.agg (p7 a.2.1),I.agg (p7 a.2.2))) (L.map fun a=>(a.1,I.agg (p7 a.2.1),I.agg (p7 a.2.2)));rw [sX] at this;exact this
def Jd (A:qY) (k:qS):Option qS:=(A.find? fun a=>decide (k=a.2.1)).map (·.2.2)
theorem acz (k:qS) (A:qY) :
  (∃ v i e,Jd A k=some v∧fH (.agg (p7 k)) (q2 A) 0=some (some i)∧(q2 A)[i]?=some e∧e.2.2=.agg (p7 v))∨(Jd A k=none∧fH (.agg (p7 k)) (q2 A) 0=some none):=by
 rcases MQ k A with ab | ⟨L,a,R,ab,ae,aF⟩
 ·refine .inr ⟨?_,Px ab⟩;unfold Jd;rw [vG.2 fun x aj=>by simpa using ab x aj];rfl
 ·subst ab ae;refine .inl ⟨a.2.2,_,(a.1,.agg (p7 a.2.1),.agg (p7 a.2.2)),?_,Nq rfl aF,?_,rfl⟩
  ·unfold Jd;rw [List.find?_append,vG.2 fun x aj=>by simpa using aF x aj];simp
  ·simp only [q2,sP,sE,sB];rw [ss (by simp)];simp
theorem aaa {A:qY} {a:Nat×qS×qS} (al:(A.map (·.2.1)).Nodup) (cu:a∈A):∃ i,fH (.agg (p7 a.2.1)) (q2 A) 0=some (some i)∧(q2 A).eraseIdx i=q2 (A.filter fun x=>decide (a.2.1≠x.2.1)):=by
 obtain ⟨k,TV⟩:∃ k,k=a.2.1:=⟨_,rfl⟩;rw [←TV];rcases MQ k A with ab | ⟨L,b,R,ab,ae,aF⟩
 ·exact absurd TV (ab a cu)
 ·subst ab ae;refine ⟨_,Nq rfl aF,?_⟩;obtain ⟨aJ,aN⟩:=T_ al;have e1:(L++b::R).filter (fun x=>decide (b.2.1≠x.2.1))=L++R:=by
   rw [uc,uC (by simp),tC.2 fun x aj=>decide_eq_true (aJ x aj),tC.2 fun x aj=>decide_eq_true (aN x aj)]
  rw [e1,sB];simp only [q2,sP,sE];rw [List.eraseIdx_append_of_length_le (by simp)];simp
end Go.Proofs.Ytkoioidpbbbaiaa.Ab


namespace Go.Proofs.Ytkoioidpbbbaiaa.Ab
open Go
noncomputable def Q9:gE :=
 .ow false [p3 44 1,p3 45 7,p3 46 6,p3 47 0,p0 48 [.Bu 47] .z6,qx 49 48 0,qx 50 49 1,qx 51 50 0,qf 52 51,qo 53 46 52 .mul,qo 54 45 53 .add,qo 55 44 54 .mul,p0 56 [.Bu 55,.cv (.int .i64 0)] (.build [.int .i64 0,.int .i64 0] [(0,1),(1,1)]),⟨none,[.nd 8,.jq 56],none,none,.st 2⟩]
noncomputable def NY:gE :=
 p2 [p3 57 5,p0 58 [.Bu 8] (.zG (.str 2)),p3 59 7,p3 60 6,p0 61 [.Bu 59,.Bu 60] (.build [.int .i64 0,.int .i64 0] [(0,1),(1,1)]),⟨none,[.Bu 57,.Bu 58,.Bu 61],none,none,.zT (.str 2)⟩] (p2 [p3 62 1,qw 63 62 0 .eql] (.cond (.nd 63) (.exit 0) .skip))
noncomputable def Rb:gE :=
 .seq (.seq (q_ [p3 31 0,p0 32 [.Bu 31] .z6,qx 33 32 0,qx 34 33 1,qx 35 34 0,qf 36 35,p3 37 0,p0 38 [.Bu 37] .z6,qx 39 38 0,qx 40 39 1,qx 41 40 1,qf 42 41,qo 43 36 42 .eql]) (.cond (.nd 43) Q9 .skip)) NY
noncomputable def NZ:gE :=
 .block 3 (p2 [p3 24 1,p3 25 7,qo 26 24 25 .mul,p3 27 1,p3 28 6,qo 29 27 28 .mul,p0 30 [.Bu 26,.Bu 29] (.build [.int .i64 0,.int .i64 0] [(0,1),(1,1)]),p0 8 [] (.alloc [.int .i64 0,.int .i64 0]),⟨none,[.nd 8,.jq 30],none,none,.st 2⟩] Rb)
noncomputable def Wg:gE :=
 .seq (p2 [p3 20 7,qw 21 20 100 .leq] (.cond (.nd 21) .skip (.exit 2))) (.seq NZ (qG [p1 22 7,qT 23 22 1,p1 7 23]))
noncomputable def N0:gE :=
 .loop (some (p8 false [0,2,3,3,115])) Wg
noncomputable def Wh:gE :=
 .block 1 (p2 [qc 7 0] (.block 2 N0))
noncomputable def Wi:gE :=
 .seq (p2 [p3 16 6,qw 17 16 10 .leq] (.cond (.nd 17) .skip (.exit 0))) (.seq Wh (qG [p1 18 6,qT 19 18 1,p1 6 19]))
noncomputable def Rc:gE :=
 .ow false [p1 95 10,p3 96 9,qx 97 12 0,qf 98 97,p3 99 13,p1 100 13,p0 101 [.Bu 100] (.un .neg),p0 102 [.jq 98,.jq 99,.jq 101] .max,qo 103 96 102 .mul,qo 104 95 103 .add,p1 10 104]
noncomputable def Rd:gE :=
 .seq (q_ [p0 83 [.nd 12] (.yO 0),qf 84 83,p0 85 [.nd 12] (.yO 1),qf 86 85,p3 87 0,p0 88 [.Bu 87] .z6,qx 89 88 0,qx 90 89 1,qx 91 90 0,qf 92 91,qo 93 86 92 .mul,qo 94 84 93 .add,p1 13 94]) Rc
noncomputable def We:gE :=
 .block 5 (p2 [p0 81 [.nd 77,.nd 79] (.kZ 2),p0 82 [.Bu 81] (.zG (.str 2)),p0 12 [] (.alloc [.int .i64 0,.int .i64 0]),⟨none,[.nd 12,.jq 82],none,none,.st 2⟩] Rd)
noncomputable def Q_:gE :=
 p2 [p3 112 10,p0 113 [.Bu 112] (.un .neg),p3 114 10,p0 115 [.nd 14] (.yO 0),qf 116 115,p0 117 [.Bu 116] (.yD 1 1 [.int .i64 0] [0]),p0 118 [.cv (.func 37 [] []),.nd 113,.nd 114,.nd 117] (.call 3),p0 119 [.Bu 118] (.un .not)] (.cond (.nd 119) (qG [p3 120 5,p0 121 [.Bu 14] (.zG (.str 2)),⟨none,[.jq 120,.jq 121],none,none,.zR (.str 2)⟩]) .skip)
noncomputable def Q':gE :=
 .block 7 (p2 [p0 110 [.nd 107] .yJ,p0 111 [.Bu 110] (.ext 0),p0 14 [] (.alloc [.int .i64 0,.int .i64 0]),⟨none,[.nd 14,.jq 111],none,none,.st 2⟩] Q_)
noncomputable def Wj:gE :=
 .loop (some (p8 false [5,1,4,1,96,1,15])) (.seq (.z8 107 (some 108) [p0 109 [.Bu 108] (.ext 0)]) (.seq (.cond (.nd 109) .skip (.exit 6)) Q'))
noncomputable def NW:gE :=
 .seq (p2 [p3 106 5,p0 107 [.Bu 106] .AP] (.block 6 Wj)) (p2 [p1 122 5,p1 4 122] .ret)
noncomputable def N1:gE :=
 .loop (some (p8 false [0,1,4,1,3,2,66,3,43])) (p2 [p0 80 [.nd 79,.nd 78] (.bin .lss)] (.seq (.cond (.nd 80) .skip (.exit 4)) (.seq We (qG [qT 105 79 1,p1 79 105]))))
noncomputable def Wf:gE :=
 .seq (p2 [p3 73 0,p0 74 [.Bu 73] .z6,qx 75 74 0,qx 76 75 0,qf 77 76,p0 78 [.nd 77] .zL,qc 79 0] (.block 4 N1)) NW
noncomputable def Ra:gE :=
 p2 [p3 64 0,p3 65 0,p0 66 [.Bu 65] .z6,qx 67 66 0,qx 68 67 0,qf 69 68,qU 70 69,qw 71 70 1 .sub,p0 72 [.cv (.func 68 [] []),.nd 64,.nd 71] (.call 3),p1 9 72] (p2 [qc 10 0] Wf)
noncomputable def N2:gE :=
 .loop (some (p8 false [0,2,3,2,116])) Wi
noncomputable def Wd:gE :=
 p2 [p0 4 [.cv .a0] .mV] (p2 [p0 15 [] .z1,p1 5 15] (.seq .skip (.seq (p2 [qc 6 (-10)] (.block 0 N2)) Ra)))
theorem acj:ql Go.Proofs.Try.prog Ku 71=some (Wd,123,[.tmp 4]):=by kernel_rfl
end Go.Proofs.Ytkoioidpbbbaiaa.Ab


namespace Go.Proofs.Ytkoioidpbbbaiaa.Ab
open Go
set_option maxRecDepth 20000
set_option maxHeartbeats 4000000
def Iw (f:Int→Bool) (A:qY) (seen:List Nat):qY:=A.filter fun a=>!(decide (a.1∈seen)) || f a.2.1.1
theorem abV (f:Int→Bool) (A:qY):Iw f A []=A:=by
 unfold Iw;exact tC.2 fun a _=>by simp
theorem abR {f:Int→Bool} {A:qY} {seen:List Nat} (h:∀ a∈Iw f A seen,a.1∈seen):Iw f A seen=A.filter fun a=>f a.2.1.1:=by
 unfold Iw;refine uj fun a cu=>?_;by_cases ah:a.1∈seen
 ·simp [ah]
 ·cases aP:f a.2.1.1 with
  | true=>simp
  | false =>
    exfalso;exact ah (h a (tc.2 ⟨cu,by simp [ah]⟩))
theorem MA {α β:Type} {g:α→β}:∀ {l:List α},(l.map g).Nodup→∀ {x y:α},x∈l→y∈l→g x=g y→x=y
 | [],_,x,y,aj,_,_=>absurd aj (by simp)
 | a::l,h,x,y,aj,aY,e=>by
   obtain ⟨ab,ae⟩:=tW.1 h;rcases sA.1 aj with aF | aF
   ·rcases sA.1 aY with a_ | a_
    ·rw [aF,a_]
    ·exact absurd (by rw [←aF,e];exact tf a_) ab
   ·rcases sA.1 aY with a_ | a_
    ·exact absurd (by rw [←a_,←e];exact tf aF) ab
    ·exact MA ae aF a_ e
theorem abT {f:Int→Bool} {A:qY} {c:Nat} {seen:List Nat} {a:Nat×qS×qS} (aL:Jp (A,c)) (cu:a∈A) (aP:f a.2.1.1=true):Iw f A (seen++[a.1])=Iw f A seen:=by
 unfold Iw;refine uj fun x aj=>?_;by_cases e:x.1=a.1
 ·have:=MA aL.ids aj cu e;subst this;simp [aP]
 ·simp [e]
theorem abS {f:Int→Bool} {A:qY} {c:Nat} {seen:List Nat} {a:Nat×qS×qS} (aL:Jp (A,c)) (cu:a∈A) (aP:f a.2.1.1=false):Iw f A (seen++[a.1])=(Iw f A seen).filter fun x=>decide (a.2.1≠x.2.1):=by
 unfold Iw;rw [uS];refine uj fun x aj=>?_;by_cases e:x.1=a.1
 ·have:=MA aL.ids aj cu e;subst this;simp [aP]
 ·have:a.2.1≠x.2.1:=fun b'=>e (by rw [MA aL.keys aj cu b'.symm])
  simp [e,this]
theorem abU {f:Int→Bool} {A:qY} {c:Nat} {seen:List Nat} (aL:Jp (A,c)):((Iw f A seen).map (·.2.1)).Nodup:=aL.keys.sublist (List.filter_sublist.map _)
theorem Ti:∀ {A:qY} {a:Nat×qS×qS},(A.map (·.1)).Nodup→a∈A→(q2 A).find? (fun e=>e.1 == a.1)=some (a.1,.agg (p7 a.2.1),.agg (p7 a.2.2))
 | [],a,_,h=>absurd h (by simp)
 | b::A,a,aI,h=>by
   obtain ⟨ab,ae⟩:=tW.1 aI;simp only [q2,sE,List.find?_cons];by_cases e:b.1=a.1
   ·rw [MA aI (by simp) h e];simp
   ·have:(b.1 == a.1)=false:=by simpa using e
    rw [this];rcases sA.1 h with aF | aF
    ·exact absurd (by rw [aF]) e
    ·exact Ti ae aF
theorem S9:∀ {A:qY} {seen:List Nat} {a:Nat×qS×qS},(A.map (·.1)).Nodup→a∈A→a.1 ∉ seen→(A.filter fun x=>!(decide (x.1∈seen++[a.1]))).length+1=(A.filter fun x=>!(decide (x.1∈seen))).length
 | [],_,_,_,h,_=>absurd h (by simp)
 | b::A,seen,a,aI,cu,ah=>by
   obtain ⟨ab,ae⟩:=tW.1 aI;by_cases e:b.1=a.1
   ·have b':A.filter (fun x=>!(decide (x.1∈seen++[a.1])))=A.filter fun x=>!(decide (x.1∈seen)):=uj fun x aj=>by
     have:x.1≠a.1:=fun h=>ab (show b.1∈A.map (·.1) by rw [e,←h];exact tf aj)
     simp [this]
    rw [uC (by simp [e]),u_ (by simp [e,ah]),b',sK]
   ·have aaP:a∈A:=by
     rcases sA.1 cu with h | h
     ·exact absurd (by rw [h]) e
     ·exact h
    have a8:=S9 ae aaP ah;by_cases af:b.1∈seen
    ·rw [uC (by simp [af]),uC (by simp [af])];exact a8
    ·rw [u_ (by simp [af,e]),u_ (by simp [af]),sK,sK];omega
theorem aeY {A:qY} {c:Nat} (aL:Jp (A,c)) {f:Int→Bool} {most:Int} (aP:∀ a∈A,IA (w (-most)) most [a.2.1.1]=some (f a.2.1.1)) {Y:List ar} {v0 v1 Oj afD Oh afE Oi:I} {Q:cQ→List I→List ar→Prop}
  (bp:∀ T qz,qz.length=Y.length+1+A.length→df T 4=.map 0→Q .ret T (.map (q2 (A.filter fun a=>f a.2.1.1)) c::qz)):dQ Try.prog Ku 71 0 none NW (qa 123 [(0,v0),(1,v1),(5,.map 0),(9,Oj),(10,h0 most),(77,afD),(78,Oh),(79,afE),(80,Oi)]) (.map (q2 A) c::Y) Q:=by
 unfold NW Wj;obtain ⟨ZC,Mn⟩:∃ c,Q'=c:=⟨_,rfl⟩;rw [Mn];conv=>whnf
 refine ⟨_,_,rfl,?_⟩;conv=>whnf
 refine .intro (fun m T H=>∃ (seen:List Nat) (Z:List ar),Z.length+(A.filter fun a=>!(decide (a.1∈seen))).length=A.length∧m=(A.filter fun a=>!(decide (a.1∈seen))).length∧T=qa 123 [(5,.map 0),(10,h0 most),(107,.ptr (Y.length+1) 0)]∧H=(.map (q2 (Iw f A seen)) c::Y)++(.iter 0 c seen c::Z)) _ ⟨[],[],by simp [tC.2],rfl,rfl,by rw [abV]⟩ ?_;rintro m T H ⟨seen,Z,J7,rfl,rfl,rfl⟩;conv=>whnf
 have ai:∀ (e:ar) (s:List Nat) (Z:List ar),((e::Y)++(.iter 0 c s c::Z))[Y.length+1]?=some (.iter 0 c s c):=fun e s Z=>by
  rw [ss (by simp)];simp
 refine ⟨0,c,seen,c,_,ai _ _ _,rfl,sc _,?_,?_,?_⟩
 ·intro e he;obtain ⟨a,cu,rfl⟩:=sC.1 he;exact aL.low a (tc.1 cu).1
 ·intro c1;conv=>whnf
  rw [abR fun a cu=>c1 _ (tf cu)];refine bp _ (Y++(.iter 0 c seen c::Z)) ?_ rfl
  have gb:(A.filter fun a=>!(decide (a.1∈seen))).length=0:=sO.2 (List.filter_eq_nil_iff.2 fun a cu ah=>by
   have hl:a.1 ∉ seen:=by simpa using ah
   exact hl (c1 _ (tf (f:=fun a:Nat×qS×qS=>(a.1,I.agg (p7 a.2.1),I.agg (p7 a.2.2))) (tc.2 ⟨cu,by simp [hl]⟩))))
  simp;omega
 ·intro e he abC;obtain ⟨a,cu,rfl⟩:=sC.1 he;have hg:a∈A:=(tc.1 cu).1;have eH:∀ (e:ar) (x y:ar),((e::Y)++(x::Z)).set (Y.length+1) y=(e::Y)++(y::Z):=fun e x y=>by
   rw [uW _ _ (by simp)];simp
  conv=>whnf
  rw [eH];subst Mn;unfold Q';obtain ⟨ZB,Mm⟩:∃ c,Q_=c:=⟨_,rfl⟩;rw [Mm];conv=>whnf
  have abk:(q2 (Iw f A seen)).find? (fun e=>e.1 == a.1)=some (a.1,.agg (p7 a.2.1),.agg (p7 a.2.2)):=Ti (aL.ids.sublist (List.filter_sublist.map _)) cu;refine ⟨0,c,seen++[a.1],c,a.1,_,_,ai _ _ _,by simp,rfl,abk,?_⟩;conv=>whnf
  refine Ex (x:=ar.cells [h0 0,h0 0]) (by first | exact qC.h | rfl | (simp [sj,I.settle];done)) ?_
  conv=>whnf
  rw [HQ];subst Mm;unfold Q_;conv=>whnf
  refine Ex (x:=ar.cells [h0 a.2.1.1,h0 a.2.1.2]) (by first | exact qC.h | rfl | (simp [sj,I.settle];done)) ?_
  conv=>whnf
  refine ⟨p5 rfl (p5 rfl (p5 rfl rfl)),_,Kl (aP a hg),?_⟩;conv=>whnf
  have aht:(A.filter fun x=>!(decide (x.1∈seen++[a.1]))).length+1=(A.filter fun x=>!(decide (x.1∈seen))).length:=S9 aL.ids hg abC;have GN:(A.filter fun x=>!(decide (x.1∈seen++[a.1]))).length<(A.filter fun x=>!(decide (x.1∈seen))).length:=by omega
  have TN:∀ o,(Z++[o]).length+(A.filter fun x=>!(decide (x.1∈seen++[a.1]))).length=A.length:=fun o=>by rw [sy,List.length_singleton];omega
  cases TR:f a.2.1.1 with
  | true =>
    (conv=>whnf);exact ⟨_,GN,seen++[a.1],Z++[.cells [h0 a.2.1.1,h0 a.2.1.2]],TN _,rfl,rfl,by rw [abT aL hg TR];simp;exact ⟨rfl,rfl⟩⟩
  | false =>
    (conv=>whnf);refine Ex (x:=ar.cells [h0 a.2.1.1,h0 a.2.1.2]) (by first | exact qC.h | rfl | (simp [sj,I.settle];done)) ?_
    (conv=>whnf);obtain ⟨aab,abg,abh⟩:=aaa (abU (f:=f) (seen:=seen) aL) cu;refine ⟨rfl,_,_,rfl,some aab,abg,?_⟩;(conv=>whnf);rw [abh];exact ⟨_,GN,seen++[a.1],Z++[.cells [h0 a.2.1.1,h0 a.2.1.2]],TN _,rfl,rfl,by rw [abS aL hg TR];simp;exact ⟨rfl,rfl⟩⟩
def I0 (far lo:Int):List qS→Int→Int
 | [],n=>n
 | s::r,n=>I0 far lo r (w (n+w (far*max (max s.1 (w (s.1+w (s.2*lo)))) (w (-(w (s.1+w (s.2*lo))))))))
theorem ado {b:((List (Int×Int))×(Int×Int))×Unit} (af:b.1.1.length≤1000) {rB:ar} {far:Int} {Y:List ar} {T:List I} {Q:cQ→List I→List ar→Prop}
  (b0:eZ [true,false,false,false,false,true,false,false,false,true,true,false,false,false,false,false,false,false,false,false,false,false,false,false,false,false,false,false,false,false,false,false,false,false,false,false,false,false,false,false,false,false,false,false,false,false,false,false,false,false,false,false,false,false,false,false,false,false,false,false,false,false,false,false,false,false,false,false,false,false,false,false,false,false,false,false,false,true,true,true,false,false,false,false,false,false,false,false,false,false,false,false,false,false,false,false,false,false,false,false,false,false,false,false,false,false,false,false,false,false,false,false,false,false,false,false,false,false,false,false,false,false,false] T=qa 123 [(0,lq b),(5,.map 0),(9,h0 far),(10,h0 0),(77,.av (b.1.1.flatMap p7) b.1.1.length .shared),(78,h0 b.1.1.length),(79,h0 0)])
  (bp:∀ qz Oi,qz.length=Y.length+b.1.1.length→Q (.exit 4) (qa 123 [(0,lq b),(5,.map 0),(9,h0 far),(10,h0 (I0 far b.1.2.1 b.1.1 0)),(77,.av (b.1.1.flatMap p7) b.1.1.length .shared),(78,h0 b.1.1.length),(79,h0 b.1.1.length),(80,Oi)]) (rB::qz)):dQ Try.prog Ku 71 0 none N1 T (rB::Y) Q:=by
 unfold N1;refine wp_loop b0 ?_;refine .intro (fun m T H=>∃ (i:Nat) (n:Int) (qz:List ar),i≤b.1.1.length∧qz.length=Y.length+i∧m=b.1.1.length-i∧I0 far b.1.2.1 (b.1.1.drop i) n=I0 far b.1.2.1 b.1.1 0∧T=qa 123 [(0,lq b),(5,.map 0),(9,h0 far),(10,h0 n),(77,.av (b.1.1.flatMap p7) b.1.1.length .shared),(78,h0 b.1.1.length),(79,h0 i)]∧H=rB::qz) _ ⟨0,0,Y,sD _,rfl,rfl,rfl,rfl,rfl⟩ ?_;clear b0;rintro m T H ⟨i,n,Mg,hi,aaN,rfl,hm,rfl,rfl⟩;conv=>whnf
 refine Hm (fun aR=>?_) (fun aR=>?_)
 ·have HB:i<b.1.1.length:=by omega
  have Ik:0≤(i:Int)∧(i:Int)<(b.1.1.length:Int):=by omega
  rw [s7 HB] at hm;unfold We;obtain ⟨B_,KA⟩:∃ c,Rd=c:=⟨_,rfl⟩;rw [KA];conv=>whnf
  refine ⟨Ik,?_⟩;rw [Ib p7 2 Je b.1.1 (i:Int) Ik,rI HB];obtain ⟨s,ah⟩:∃ s,s=b.1.1[i]:=⟨_,rfl⟩;rw [←ah] at hm ⊢;conv=>whnf
  refine Ex (x:=ar.cells [h0 0,h0 0]) (by first | exact qC.h | rfl | (simp [sj,I.settle];done)) ?_
  conv=>whnf
  rw [HQ];subst KA;unfold Rd;obtain ⟨nw,I_⟩:∃ c,Rc=c:=⟨_,rfl⟩;rw [I_];conv=>whnf
  refine Ex (x:=ar.cells [h0 s.1,h0 s.2]) (by first | exact qC.h | rfl | (simp [sj,I.settle];done)) ?_
  conv=>whnf
  refine Ex (x:=ar.cells [h0 s.1,h0 s.2]) (by first | exact qC.h | rfl | (simp [sj,I.settle];done)) ?_
  conv=>whnf
  subst I_;unfold Rc;conv=>whnf
  refine Ex (x:=ar.cells [h0 s.1,h0 s.2]) (by first | exact qC.h | rfl | (simp [sj,I.settle];done)) ?_
  conv=>whnf
  have rz:IntKind.i64.wrap ((i:Int)+1)=((i+1:Nat):Int):=by rw [Hj _ (by omega) (by omega)];omega
  exact ⟨b.1.1.length-(i+1),by omega,i+1,_,_,by omega,by simp;omega,rfl,hm,by rw [rz];rfl,rfl⟩
 ·obtain rfl:i=b.1.1.length:=by omega
  rw [vb] at hm;obtain rfl:n=I0 far b.1.2.1 b.1.1 0:=hm;conv=>whnf
  exact bp _ _ (by omega)

def HS (lo hi x m p:Int):qS:=if lo=hi then (w (x*w (p+w (m*lo))),0) else (w (x*p),w (x*m))
def rY (lo hi x:Int):Nat→qY×Nat
 | 0=>([],0)
 | t+1=>HN (rY lo hi x t) (HS lo hi x ((t / 101:Nat)-10) ((t % 101:Nat))) ((t % 101:Nat),(t / 101:Nat)-10)
theorem Rt (lo hi x:Int):∀ t,Jp (rY lo hi x t)
 | 0=>⟨by simp [rY],by simp [rY],by simp [rY]⟩
 | t+1=>(Rt lo hi x t).put _ _
abbrev Ka (s:qY×Nat):ar:=.map (q2 s.1) s.2
theorem Zw {b:((List (Int×Int))×(Int×Int))×Unit} {x m p:Int} {s:qY×Nat} (ah:Jp s) {Y:List ar} {Jk:I} {Q:cQ→List I→List ar→Prop}
  (bp:∀ qz Ke Kf,qz.length=Y.length+1→Q (if x=0 then .exit 0 else .normal) (qa 123 [(0,lq b),(1,h0 x),(5,.map 0),(6,h0 m),(7,h0 p),(21,Jk),(43,Ke),(63,Kf)]) (Ka (HN s (HS b.1.2.1 b.1.2.2 x m p) (p,m))::qz)) :
  dQ Try.prog Ku 71 0 none NZ (qa 123 [(0,lq b),(1,h0 x),(5,.map 0),(6,h0 m),(7,h0 p),(21,Jk)]) (Ka s::Y) Q:=by
 unfold NZ;obtain ⟨bt,eS⟩:∃ c,Rb=c:=⟨_,rfl⟩;rw [eS];conv=>whnf
 refine Ex (x:=ar.cells [h0 0,h0 0]) (by first | exact qC.h | rfl | (simp [sj,I.settle];done)) ?_
 conv=>whnf
 rw [HQ];subst eS;unfold Rb;obtain ⟨a7,cf⟩:∃ c,Q9=c:=⟨_,rfl⟩;obtain ⟨a9,ca⟩:∃ c,NY=c:=⟨_,rfl⟩;rw [cf,ca];conv=>whnf
 by_cases a1:b.1.2.1=b.1.2.2
 ·rw [decide_eq_true a1];conv=>whnf
  subst cf;unfold Q9;conv=>whnf
  refine Ex (x:=ar.cells [h0 (w (x*p)),h0 (w (x*m))]) (by first | exact qC.h | rfl | (simp [sj,I.settle];done)) ?_
  conv=>whnf
  rw [HQ];conv=>whnf
  subst ca;unfold NY;conv=>whnf
  refine Ex (x:=ar.cells [h0 (w (x*w (p+w (m*b.1.2.1)))),h0 0]) (by first | exact qC.h | rfl | (simp [sj,I.settle];done)) ?_
  conv=>whnf
  have hP:HS b.1.2.1 b.1.2.2 x m p=((w (x*w (p+w (m*b.1.2.1)))),0):=by unfold HS;rw [if_pos a1]
  rw [hP] at bp;rcases Ve (k:=((w (x*w (p+w (m*b.1.2.1)))),0)) (v:=(p,m)) ah with ⟨i,ab,ae,aF⟩ | ⟨ab,ae,aF⟩
  ·refine ⟨rfl,_,_,rfl,some i,ab,?_⟩;(conv=>whnf);erw [ae,aF];by_cases aj:x=0
   ·rw [if_pos aj] at bp;rw [decide_eq_true aj];(conv=>whnf);exact bp _ _ _ (by simp)
   ·rw [if_neg aj] at bp;rw [decide_eq_false aj];(conv=>whnf);exact bp _ _ _ (by simp)
  ·refine ⟨rfl,_,_,rfl,none,ab,?_⟩;(conv=>whnf);erw [ae,aF];by_cases aj:x=0
   ·rw [if_pos aj] at bp;rw [decide_eq_true aj];(conv=>whnf);exact bp _ _ _ (by simp)
   ·rw [if_neg aj] at bp;rw [decide_eq_false aj];(conv=>whnf);exact bp _ _ _ (by simp)
 ·rw [decide_eq_false a1];conv=>whnf
  subst ca;unfold NY;conv=>whnf
  refine Ex (x:=ar.cells [h0 (w (x*p)),h0 (w (x*m))]) (by first | exact qC.h | rfl | (simp [sj,I.settle];done)) ?_
  conv=>whnf
  have hP:HS b.1.2.1 b.1.2.2 x m p=((w (x*p)),(w (x*m))):=by unfold HS;rw [if_neg a1]
  rw [hP] at bp;rcases Ve (k:=((w (x*p)),(w (x*m)))) (v:=(p,m)) ah with ⟨i,ab,ae,aF⟩ | ⟨ab,ae,aF⟩
  ·refine ⟨rfl,_,_,rfl,some i,ab,?_⟩;(conv=>whnf);erw [ae,aF];by_cases aj:x=0
   ·rw [if_pos aj] at bp;rw [decide_eq_true aj];(conv=>whnf);exact bp _ _ _ (by simp)
   ·rw [if_neg aj] at bp;rw [decide_eq_false aj];(conv=>whnf);exact bp _ _ _ (by simp)
  ·refine ⟨rfl,_,_,rfl,none,ab,?_⟩;(conv=>whnf);erw [ae,aF];by_cases aj:x=0
   ·rw [if_pos aj] at bp;rw [decide_eq_true aj];(conv=>whnf);exact bp _ _ _ (by simp)
   ·rw [if_neg aj] at bp;rw [decide_eq_false aj];(conv=>whnf);exact bp _ _ _ (by simp)
theorem abH {b:((List (Int×Int))×(Int×Int))×Unit} {x:Int} {a:Nat} (cu:a≤20) (abF:x=0→a=0) {Y:List ar} {T:List I} {Q:cQ→List I→List ar→Prop}
  (b0:eZ [true,true,false,false,false,true,true,true,false,false,false,false,false,false,false,false,false,false,false,false,false,false,false,false,false,false,false,false,false,false,false,false,false,false,false,false,false,false,false,false,false,false,false,false,false,false,false,false,false,false,false,false,false,false,false,false,false,false,false,false,false,false,false,false,false,false,false,false,false,false,false,false,false,false,false,false,false,false,false,false,false,false,false,false,false,false,false,false,false,false,false,false,false,false,false,false,false,false,false,false,false,false,false,false,false,false,false,false,false,false,false,false,false,false,false,false,false,false,false,false,false,false,false] T=qa 123 [(0,lq b),(1,h0 x),(5,.map 0),(6,h0 ((a:Nat)-10)),(7,h0 0)])
  (aaE:x=0→a=0→∀ qz Jl Jk Ke Kf,qz.length=Y.length+1→Q (.exit 0) (qa 123 [(0,lq b),(1,h0 x),(5,.map 0),(6,h0 ((a:Nat)-10)),(7,Jl),(21,Jk),(43,Ke),(63,Kf)]) (Ka (rY b.1.2.1 b.1.2.2 x 1)::qz))
  (bp:x≠0→∀ qz Jl Jk,qz.length=Y.length+101→Q (.exit 2) (qa 123 [(0,lq b),(1,h0 x),(5,.map 0),(6,h0 ((a:Nat)-10)),(7,Jl),(21,Jk)]) (Ka (rY b.1.2.1 b.1.2.2 x ((a+1)*101))::qz)) :
  dQ Try.prog Ku 71 0 none N0 T (Ka (rY b.1.2.1 b.1.2.2 x (a*101))::Y) Q:=by
 unfold N0;refine wp_loop b0 ?_;refine .intro (fun m T H=>∃ (q:Nat) (qz:List ar),q≤101∧qz.length=Y.length+q∧(x=0→q=0)∧m=101-q∧T=qa 123 [(0,lq b),(1,h0 x),(5,.map 0),(6,h0 ((a:Nat)-10)),(7,h0 q)]∧H=Ka (rY b.1.2.1 b.1.2.2 x (a*101+q))::qz) _ ⟨0,Y,sD _,rfl,fun _=>rfl,rfl,rfl,rfl⟩ ?_;clear b0;rintro m T H ⟨q,Mg,a',aaN,Ny,rfl,rfl,rfl⟩;unfold Wg;obtain ⟨b6,iP⟩:∃ c,NZ=c:=⟨_,rfl⟩;rw [iP];conv=>whnf
 refine Hm (fun aR=>?_) (fun aR=>?_)
 ·conv=>whnf
  subst iP;have cJ:HN (rY b.1.2.1 b.1.2.2 x (a*101+q)) (HS b.1.2.1 b.1.2.2 x ((a:Nat)-10) (q:Nat)) ((q:Nat),(a:Nat)-10)=rY b.1.2.1 b.1.2.2 x (a*101+(q+1)):=by
   show _=HN (rY b.1.2.1 b.1.2.2 x (a*101+q)) (HS b.1.2.1 b.1.2.2 x (((a*101+q) / 101:Nat)-10) (((a*101+q) % 101:Nat))) ((((a*101+q) % 101:Nat):Int),(((a*101+q) / 101:Nat):Int)-10);rw [show (a*101+q) / 101=a by omega,show (a*101+q) % 101=q by omega]
  refine Zw (Rt _ _ _ _) fun YH Ke Kf aaO=>?_;rw [cJ];by_cases aj:x=0
  ·rw [if_pos aj];have ab:=abF aj;have ae:=Ny aj;subst ab ae;(conv=>whnf);exact aaE aj rfl _ _ _ _ _ (by omega)
  ·rw [if_neg aj];(conv=>whnf);(have rz:IntKind.i64.wrap ((q:Int)+1)=((q+1:Nat):Int):=by rw [Hj _ (by omega) (by omega)];omega);exact ⟨101-(q+1),by omega,q+1,_,by omega,by omega,fun h=>absurd h aj,rfl,by rw [rz];rfl,rfl⟩
 ·have abD:q=101:=by omega
  subst abD;have aj:x≠0:=fun h=>absurd (Ny h) (by decide);conv=>whnf
  rw [show a*101+101=(a+1)*101 by omega];exact bp aj _ _ _ (by omega)
theorem adx {b:((List (Int×Int))×(Int×Int))×Unit} {x:Int} {T:List I} {Q:cQ→List I→List ar→Prop}
  (b0:eZ [true,true,false,false,false,true,true,false,false,false,false,false,false,false,false,false,false,false,false,false,false,false,false,false,false,false,false,false,false,false,false,false,false,false,false,false,false,false,false,false,false,false,false,false,false,false,false,false,false,false,false,false,false,false,false,false,false,false,false,false,false,false,false,false,false,false,false,false,false,false,false,false,false,false,false,false,false,false,false,false,false,false,false,false,false,false,false,false,false,false,false,false,false,false,false,false,false,false,false,false,false,false,false,false,false,false,false,false,false,false,false,false,false,false,false,false,false,false,false,false,false,false,false] T=qa 123 [(0,lq b),(1,h0 x),(5,.map 0),(6,h0 (-10))])
  (bp:∀ Y v6 Jl W' Jk Ke Kf,Y.length=(if x=0 then 1 else 2121)→Q (.exit 0) (qa 123 [(0,lq b),(1,h0 x),(5,.map 0),(6,v6),(7,Jl),(17,W'),(21,Jk),(43,Ke),(63,Kf)]) (Ka (rY b.1.2.1 b.1.2.2 x (if x=0 then 1 else 2121))::Y)) :
  dQ Try.prog Ku 71 0 none N2 T [.map [] 0] Q:=by
 unfold N2;refine wp_loop b0 ?_;refine .intro (fun m T H=>∃ (a:Nat) (Y:List ar),a≤21∧Y.length=a*101∧(x=0→a=0)∧m=21-a∧T=qa 123 [(0,lq b),(1,h0 x),(5,.map 0),(6,h0 ((a:Nat)-10))]∧H=Ka (rY b.1.2.1 b.1.2.2 x (a*101))::Y) _ ⟨0,[],sD _,rfl,fun _=>rfl,rfl,rfl,rfl⟩ ?_;clear b0;rintro m T H ⟨a,Y,cu,aaL,TP,rfl,rfl,rfl⟩;unfold Wi Wh;obtain ⟨b6,iP⟩:∃ c,N0=c:=⟨_,rfl⟩;rw [iP];conv=>whnf
 refine Hm (fun aR=>?_) (fun aR=>?_)
 ·conv=>whnf
  subst iP;refine abH (a:=a) (by omega) TP (by exact rfl) (fun aj aQ Y Jl Jk Ke Kf aaM=>?_) (fun aj Y Jl Jk aaM=>?_)
  ·(conv=>whnf);have:=bp Y;rw [if_pos aj] at this;exact this _ _ _ _ _ _ (by subst aQ;omega)
  ·(conv=>whnf);(have rz:IntKind.i64.wrap (((a:Nat):Int)-10+1)=((a+1:Nat):Int)-10:=by rw [Hj _ (by omega) (by omega)];omega);exact ⟨21-(a+1),by omega,a+1,_,by omega,by omega,fun h=>absurd h aj,rfl,by rw [rz];rfl,rfl⟩
 ·have aaQ:a=21:=by omega
  subst aaQ;have aj:x≠0:=fun h=>absurd (TP h) (by decide);conv=>whnf
  have:=bp Y;rw [if_neg aj] at this;exact this _ _ _ _ _ _ (by omega)
theorem PB:∃ m,qk=m+2:=⟨qk-2,rfl⟩
theorem L8 (lo hi n:Int):IA lo hi [n]=some (decide (lo≤n) && decide (n≤hi)):=by
 obtain ⟨m,hm⟩:=PB;have aaw:K9 n lo hi=some (!(decide (lo≤n) && decide (n≤hi))):=by
  unfold K9;by_cases ab:n<lo
  ·rw [if_pos (decide_eq_true ab),decide_eq_false (show ¬ lo≤n by omega)];rfl
  ·rw [if_neg (by simpa using ab),decide_eq_true (show lo≤n by omega)];by_cases ae:hi<n
   ·rw [decide_eq_true ae,decide_eq_false (show ¬ n≤hi by omega)];rfl
   ·rw [decide_eq_false ae,decide_eq_true (show n≤hi by omega)];rfl
 unfold IA M9 M';rw [hm,JA.eq_2,if_pos (show decide ((0:Int)<(([n]:List Int).length:Int))=true from rfl),qE ⟨sU _,show (0:Int)<(1:Int) by decide⟩,show ix [n] (0:Int)=n from rfl,aaw,sb];cases ak:(decide (lo≤n) && decide (n≤hi))
 ·rfl
 ·rw [show w (0+1:Int)=1 from rfl,JA.eq_2];rfl
def L' (b:((List (Int×Int))×(Int×Int))×Unit) (x:Int):Option qY :=
 qy (b.1.1.length≤1000) <|
 (JV b (w (b.1.1.length-1))).bind fun far =>
 some ((rY b.1.2.1 b.1.2.2 x (if x=0 then 1 else 2121)).1.filter fun a=>decide (w (-(I0 far b.1.2.1 b.1.1 0))≤a.2.1.1) && decide (a.2.1.1≤I0 far b.1.2.1 b.1.1 0))
theorem agX {b:((List (Int×Int))×(Int×Int))×Unit} {x:Int} {A:qY} (h:L' b x=some A):∃ (c:Nat) (D:List ar),Sem Try.prog (.fn 71) [lq b,h0 x] [] 0 (.map 0) (.map (q2 A) c::D):=by
 unfold L' at h;obtain ⟨aI,h⟩:=rL h;obtain ⟨far,P9,h⟩:=p9 h;obtain rfl:=Option.some.inj h;obtain ⟨N,CC⟩:∃ N,N=(if x=0 then 1 else 2121)+b.1.1.length+1+(rY b.1.2.1 b.1.2.2 x (if x=0 then 1 else 2121)).1.length:=⟨_,rfl⟩;refine ⟨(rY b.1.2.1 b.1.2.2 x (if x=0 then 1 else 2121)).2,List.replicate N .dead,?_⟩;refine ri eG acj rfl (Ix (sD _)) fun Q bp=>?_;unfold Wd;obtain ⟨ahd,Tz⟩:∃ c,Ra=c:=⟨_,rfl⟩;obtain ⟨b6,iP⟩:∃ c,N2=c:=⟨_,rfl⟩;rw [Tz,iP];conv=>whnf
 subst iP;refine adx (b:=b) (x:=x) (by exact rfl) fun Y v6 Jl W' Jk Ke Kf aaL=>?_;conv=>whnf
 subst Tz;unfold Ra Wf;obtain ⟨ahc,Ty⟩:∃ c,NW=c:=⟨_,rfl⟩;obtain ⟨bt,eS⟩:∃ c,N1=c:=⟨_,rfl⟩;rw [Ty,eS];conv=>whnf
 refine ⟨p5 (H4 b) (p5 rfl rfl),_,Kp P9,?_⟩;conv=>whnf
 subst eS;refine ado (b:=b) (far:=far) aI (by exact rfl) fun YH Oi aaO=>?_;conv=>whnf
 subst Ty;refine aeY (f:=fun k=>decide (w (-(I0 far b.1.2.1 b.1.1 0))≤k) && decide (k≤I0 far b.1.2.1 b.1.1 0)) (Rt _ _ _ _) (fun a _=>L8 _ _ _) fun T ag8 ahs b0=>?_;refine bp _ _ _ ⟨.inr rfl,⟨by simp;omega,fun id o aq=>?_⟩,by simp only [rF,b0,jg,se]⟩;cases id with
 | zero=>exact .inr aq
 | succ id =>
   refine .inl ?_
   have:(List.replicate N ar.dead)[id]?=some o:=aq
   rw [List.getElem?_replicate] at this;split at this
   ·exact (Option.some.inj this).symm
   ·cases this

noncomputable def Yl:gE :=
 p2 [p0 1 [.jq 0] .box,p0 2 [.cv (.bool false)] .mV] (p2 [p0 3 [.nd 1] (.yO 0),qf 4 3,qw 5 4 0 .geq,p1 6 5,cl 7 [.nd 1] 6 true (.yO 0),cl 8 [.Bu 7] 6 true (.zG .one),cl 9 [.Bu 8,.cv (.int .i64 100)] 6 true (.bin .leq),p0 10 [.Bu 6,.Bu 9,.cv (.bool false)] .pick,p1 11 10,cl 12 [.nd 1] 11 true (.yO 1),cl 13 [.Bu 12] 11 true (.zG .one),cl 14 [.Bu 13,.cv (.int .i64 (-10))] 11 true (.bin .geq),p0 15 [.Bu 11,.Bu 14,.cv (.bool false)] .pick,p1 16 15,cl 17 [.Bu 1] 16 true (.yO 1),cl 18 [.Bu 17] 16 true (.zG .one),cl 19 [.Bu 18,.cv (.int .i64 10)] 16 true (.bin .leq),p0 20 [.Bu 16,.Bu 19,.cv (.bool false)] .pick,p1 2 20] .ret)
theorem ac0:ql Try.prog Sy 45=some (Yl,21,[.tmp 2]):=by kernel_rfl
def K5 (s:(Int×Int)):Option Bool :=
 if (decide ((0:Int)≤s.1))=true then
  if (decide (s.1≤(100:Int)))=true then
   if (decide ((-10:Int)≤s.2))=true then
    some (decide (s.2≤(10:Int)))
   else
    some false
  else
   some false
 else
  some false
theorem RJ {s:(Int×Int)} {v:Bool} (h:K5 s=some v):qu 45 [(.agg [(h0 s.1),(h0 s.2)])] (B v):=by
 refine qH eG ac0 rfl rfl fun Q bp=>?_;have jK:qJ [.tmp 2] Q (fun v=>(B v)) v:=fun T H bE=>bp _ T H bE;unfold K5 at h;unfold Yl;conv=>whnf
 refine bs h (fun gM h=>?_) fun gM h=>?_
 ·rw [gM];conv=>whnf
  refine bs h (fun gN h=>?_) fun gN h=>?_
  ·rw [gN];(conv=>whnf);refine bs h (fun qs h=>?_) fun qs h=>?_
   ·rw [qs];(conv=>whnf);exact qg h jK rfl rfl
   ·rw [qs];(conv=>whnf);exact qg h jK rfl rfl
  ·rw [gN];(conv=>whnf);exact qg h jK rfl rfl
 ·rw [gM];conv=>whnf
  exact qg h jK rfl rfl

noncomputable def OS:gE :=
 .loop (some (p8 false [1,1,1,2,44])) (.seq (p2 [p3 18 4,p3 19 3,qo 20 18 19 .lss] (.cond (.nd 20) .skip (.exit 0))) (.seq (.block 1 (p2 [p0 23 [.nd 1] (.yO 0),qf 24 23,p3 25 4,q5 26 24 25 2,p0 27 [.Bu 26] (.zG (.str 2)),p0 28 [.cv (.func 45 [] []),.nd 27] (.call 3),p0 29 [.Bu 28] (.un .not)] (.cond (.nd 29) (p2 [qc 2 3] .ret) .skip))) (qG [p1 21 4,qT 22 21 1,p1 4 22])))
noncomputable def OT:gE :=
 .seq (p2 [qc 4 0] (.block 0 OS)) (.seq (p2 [p0 30 [.nd 1] (.yO 1),qx 31 30 0,qf 32 31,qw 33 32 0 .lss,p1 34 33,cl 35 [.nd 1] 34 false (.yO 1),cl 36 [.Bu 35] 34 false (.yO 0),cl 37 [.Bu 36] 34 false (.zG .one),cl 38 [.nd 1] 34 false (.yO 1),cl 39 [.Bu 38] 34 false (.yO 1),cl 40 [.Bu 39] 34 false (.zG .one),cl 41 [.Bu 37,.Bu 40] 34 false (.bin .gtr),p0 42 [.Bu 34,.cv (.bool true),.Bu 41] .pick,p1 43 42,cl 44 [.Bu 1] 43 false (.yO 1),cl 45 [.Bu 44] 43 false (.yO 1),cl 46 [.Bu 45] 43 false (.zG .one),cl 47 [.Bu 46,.cv (.int .i64 50)] 43 false (.bin .gtr),p0 48 [.Bu 43,.cv (.bool true),.Bu 47] .pick] (.cond (.nd 48) (p2 [qc 2 3] .ret) .skip)) (p2 [qc 2 0] .ret))
noncomputable def Yh:gE :=
 p2 [p0 1 [.jq 0] .box,qc 2 0] (p2 [p0 5 [.nd 1] (.yO 0),qf 6 5,qU 7 6,p1 3 7] (.seq (p2 [p3 8 3,qw 9 8 3 .neq,p1 10 9,cl 11 [.nd 3] 10 true .mV,cl 12 [.Bu 11,.cv (.int .i64 5)] 10 true (.bin .neq),p0 13 [.Bu 10,.Bu 12,.cv (.bool false)] .pick,p1 14 13,cl 15 [.nd 3] 14 true .mV,cl 16 [.Bu 15,.cv (.int .i64 7)] 14 true (.bin .neq),p0 17 [.Bu 14,.Bu 16,.cv (.bool false)] .pick] (.cond (.nd 17) (p2 [qc 2 6] .ret) .skip)) OT))
theorem acW:ql Try.prog Nd 17=some (Yh,49,[.tmp 2]):=by kernel_rfl
def K3 (p:(qj×(Int×Int))) (rC:Unit→Option Int):Nat→Int→Option Int
 | 0,_=>none
 | m+1,s1 =>
   if (decide (s1<(p.1.length:Int)))=true then
    qy (0≤s1∧s1<(p.1.length:Int)) <|
    (K5 (ix p.1 s1)).bind fun aS =>
    if aS=true then
     K3 p rC m (w (s1+(1:Int)))
    else
     some (3:Int)
   else
    rC ()
def K2 (p:(qj×(Int×Int)))  : Option Int :=
 K3 p (fun _ =>
   if (decide (p.2.1<(0:Int)))=true then
    some (3:Int)
   else
    if (decide (p.2.2<p.2.1))=true then
     some (3:Int)
    else
     if (decide ((50:Int)<p.2.2))=true then
      some (3:Int)
     else
      some (0:Int)) qk (0:Int)
def K1 (p:(qj×(Int×Int))):Option Int :=
 if (decide ((p.1.length:Int)≠(3:Int)))=true then
  if (decide ((p.1.length:Int)≠(5:Int)))=true then
   if (decide ((p.1.length:Int)≠(7:Int)))=true then
    some (6:Int)
   else
    K2 p
  else
   K2 p
 else
  K2 p
theorem agH {p:(qj×(Int×Int))} {rC:Unit→Option Int} {s1:Int} {v:Int} {Q:HL}   (jK:qJ [.tmp 2] Q (fun v=>(h0 v)) v) (JI:∀ (qe:List I),rC ()=some v→rm 49 [(1,(.ptr 0 0))] qe→Q (.exit 0) qe [ar.cells [(q' p.1 .shared),(h0 p.2.1),(h0 p.2.2)]]) {T:List I} (b0:eZ (p8 false [1,1,1,2,44]) T=qa 49 [(1,(.ptr 0 0)),(3,(h0 (p.1.length:Int))),(4,(h0 s1))]) (h:K3 p rC qk s1=some v) :
  dQ Try.prog Nd 17 0 none OS T [ar.cells [(q' p.1 .shared),(h0 p.2.1),(h0 p.2.2)]] Q:=by
 unfold OS;refine wp_loop b0 ?_;refine .intro (fun m T H=>∃ (s1:Int),T=qa 49 [(1,(.ptr 0 0)),(3,(h0 (p.1.length:Int))),(4,(h0 s1))]∧H=[ar.cells [(q' p.1 .shared),(h0 p.2.1),(h0 p.2.2)]]∧K3 p rC m s1=some v) qk ⟨s1,rfl,rfl,h⟩ ?_;clear h b0;rintro m T H ⟨s1,rfl,rfl,h⟩;cases m
 ·exact rT h
 rename_i m;rw [K3.eq_2] at h;conv=>whnf
 refine bs h (fun qP h=>?_) fun qP h=>?_
 ·rw [qP];conv=>whnf
  refine qV h id fun rj h=>?_;rw [Ib p7 2 Je p.1 s1 rj];conv=>whnf
  obtain ⟨aS,rU,h⟩:=p9 h;refine ⟨qi.pl,_,RJ rU,?_⟩;conv=>whnf
  cases aS
  ·(conv=>whnf);replace h:=HC rfl h;exact qg h jK rfl rfl
  ·(conv=>whnf);replace h:=HD rfl h;exact ⟨m,sG m,(w (s1+(1:Int))),rfl,rfl,h⟩
 ·rw [qP];conv=>whnf
  exact JI  _ h ⟨rfl,rfl⟩
theorem RH {p:(qj×(Int×Int))} {v:Int} {Q:HL}  {qe:List I}  (jK:qJ [.tmp 2] Q (fun v=>(h0 v)) v) (qA:rm 49 [(1,(.ptr 0 0)),(3,(h0 (p.1.length:Int)))] qe) (h:K2 p  = some v) :
  dQ Try.prog Nd 17 0 none OT qe [ar.cells [(q' p.1 .shared),(h0 p.2.1),(h0 p.2.2)]] Q:=by
 obtain ⟨rG,rfl⟩:=qA.ex;unfold K2 at h;unfold OT;obtain ⟨HY,qF⟩:∃ c,OS=c:=⟨_,rfl⟩;rw [qF];conv=>whnf
 subst qF;refine agH ?_ ?_ (by exact rfl) h
 ·exact fun T H bE=>jK T H bE
 ·intro  qe h qA;obtain ⟨rG,rfl⟩:=qA.ex;conv=>whnf
  refine bs h (fun qX h=>?_) fun qX h=>?_
  ·rw [qX];(conv=>whnf);exact qg h jK rfl rfl
  ·rw [qX];(conv=>whnf);refine bs h (fun Hr h=>?_) fun Hr h=>?_
   ·rw [Hr];(conv=>whnf);exact qg h jK rfl rfl
   ·rw [Hr];(conv=>whnf);refine bs h (fun rN h=>?_) fun rN h=>?_
    ·rw [rN];(conv=>whnf);exact qg h jK rfl rfl
    ·rw [rN];(conv=>whnf);exact qg h jK rfl rfl
theorem RI {p:(qj×(Int×Int))} {v:Int} (h:K1 p=some v):qu 17 [(.agg [(.av (p.1.flatMap p7) p.1.length .shared),(h0 p.2.1),(h0 p.2.2)])] (h0 v):=by
 refine qH eG acW rfl rfl fun Q bp=>?_;have jK:qJ [.tmp 2] Q (fun v=>(h0 v)) v:=fun T H bE=>bp _ T H bE;unfold K1 at h;unfold Yh;obtain ⟨Kx,rM⟩:∃ c,OT=c:=⟨_,rfl⟩;rw [rM];conv=>whnf
 refine bs h (fun gM h=>?_) fun gM h=>?_
 ·rw [gM];conv=>whnf
  refine bs h (fun gN h=>?_) fun gN h=>?_
  ·rw [gN];(conv=>whnf);refine bs h (fun qs h=>?_) fun qs h=>?_
   ·rw [qs];(conv=>whnf);exact qg h jK rfl rfl
   ·rw [qs];(conv=>whnf);subst rM;refine RH ?_ (by exact ⟨rfl,rfl⟩) h;exact fun T H bE=>jK T H bE
  ·rw [gN];(conv=>whnf);subst rM;refine RH ?_ (by exact ⟨rfl,rfl⟩) h;exact fun T H bE=>jK T H bE
 ·rw [gM];conv=>whnf
  subst rM;refine RH ?_ (by exact ⟨rfl,rfl⟩) h;exact fun T H bE=>jK T H bE

noncomputable def OY:gE :=
 .loop (some (p8 false [0,2,3,1,12])) (.seq (p2 [p3 6 5,p3 7 0,qU 8 7,qo 9 6 8 .lss] (.cond (.nd 9) .skip (.exit 0))) (.seq (.block 1 (p2 [p3 12 0,p3 13 5,q5 14 12 13 1,qf 15 14,p3 16 1,qo 17 15 16 .eql] (.cond (.nd 17) (p2 [p0 4 [.cv (.bool true)] .mV] .ret) .skip))) (qG [p1 10 5,qT 11 10 1,p1 5 11])))
noncomputable def Yr:gE :=
 p2 [p0 4 [.cv (.bool false)] .mV] (.seq (p2 [qc 5 0] (.block 0 OY)) (p2 [p0 4 [.cv (.bool false)] .mV] .ret))
theorem ac6:ql Try.prog O9 26=some (Yr,18,[.tmp 4]):=by kernel_rfl
def K8 (l:qb) (n:Int) (qd:Unit→Option Bool):Nat→Int→Option Bool
 | 0,_=>none
 | m+1,s1 =>
   if (decide (s1<(l.length:Int)))=true then
    qy (0≤s1∧s1<(l.length:Int)) <|
    if (decide ((ix l s1)=n))=true then
     some true
    else
     K8 l n qd m (w (s1+(1:Int)))
   else
    qd ()
def M8 (l:qb) (n:Int):Option Bool :=
 K8 l n (fun _ =>
   some false) qk (0:Int)
theorem agR {l:qb} {n:Int} {qd:Unit→Option Bool} {s1:Int} {v:Bool} {Q:HL}   (jK:qJ [.tmp 4] Q (fun v=>(B v)) v) (rn:∀ (qe:List I),qd ()=some v→rm 18 [] qe→Q (.exit 0) qe []) {T:List I} (b0:eZ (p8 false [0,2,3,1,12]) T=qa 18 [(0,(qM l .shared)),(1,(h0 n)),(5,(h0 s1))]) (h:K8 l n qd qk s1=some v) :
  dQ Try.prog O9 26 0 none OY T [] Q:=by
 unfold OY;refine wp_loop b0 ?_;refine .intro (fun m T H=>∃ (s1:Int),T=qa 18 [(0,(qM l .shared)),(1,(h0 n)),(5,(h0 s1))]∧H=[]∧K8 l n qd m s1=some v) qk ⟨s1,rfl,rfl,h⟩ ?_;clear h b0;rintro m T H ⟨s1,rfl,rfl,h⟩;cases m
 ·exact rT h
 rename_i m;rw [K8.eq_2] at h;conv=>whnf
 refine bs h (fun gM h=>?_) fun gM h=>?_
 ·rw [gM];conv=>whnf
  refine qV h id fun gN h=>?_;rw [rb h0 l s1 gN];conv=>whnf
  refine bs h (fun qs h=>?_) fun qs h=>?_
  ·rw [qs];(conv=>whnf);exact qg h jK rfl rfl
  ·rw [qs];(conv=>whnf);exact ⟨m,sG m,(w (s1+(1:Int))),rfl,rfl,h⟩
 ·rw [gM];conv=>whnf
  exact rn  _ h ⟨rfl,rfl⟩
theorem agS {l:qb} {n:Int} {v:Bool} (h:M8 l n=some v):qu 26 [(.av (l.map h0) l.length .shared),(h0 n)] (B v):=by
 refine qH eG ac6 rfl rfl fun Q bp=>?_;have jK:qJ [.tmp 4] Q (fun v=>(B v)) v:=fun T H bE=>bp _ T H bE;unfold M8 at h;unfold Yr;obtain ⟨HY,qF⟩:∃ c,OY=c:=⟨_,rfl⟩;rw [qF];conv=>whnf
 subst qF;refine agR ?_ ?_ (by exact rfl) h
 ·exact fun T H bE=>jK T H bE
 ·intro  qe h qA;obtain ⟨rG,rfl⟩:=qA.ex;conv=>whnf
  exact qg h jK rfl rfl

noncomputable def OU:gE :=
 .loop (some (p8 false [1,2,2,1,42])) (.seq (p2 [p3 17 5,p3 18 1,qU 19 18,qo 20 17 19 .lss] (.cond (.nd 20) .skip (.exit 0))) (.seq (.block 1 (.seq (q_ [p3 23 1,p3 24 5,q5 25 23 24 1,qf 26 25,qw 27 26 0 .lss,p1 28 27,cl 29 [.nd 1] 28 false .mV,cl 30 [.nd 5] 28 false .mV,cl 31 [.Bu 29,.Bu 30] 28 false (.kZ 1),cl 32 [.Bu 31] 28 false (.zG .one),cl 33 [.nd 2] 28 false (.yO 0),cl 34 [.Bu 33] 28 false (.zG .one),cl 35 [.jq 34] 28 false .zL,cl 36 [.Bu 32,.Bu 35] 28 false (.bin .geq),p0 37 [.nd 28,.cv (.bool true),.Bu 36] .pick,p1 38 37,cl 39 [.nd 1] 38 false .mV,cl 40 [.nd 5] 38 false .mV,⟨some 41,[.jq 39,.jq 40],some (38,false),none,.Bj 1 false true false⟩,cl 42 [.nd 1] 38 false .mV,cl 43 [.nd 5] 38 false .mV,cl 44 [.Bu 42,.Bu 43] 38 false (.kZ 1),cl 45 [.Bu 44] 38 false (.zG .one),⟨some 46,[.cv (.func 26 [] []),.nd 41,.nd 45],some (38,false),none,.call 3⟩,p0 47 [.nd 38,.cv (.bool true),.Bu 46] .pick]) (.cond (.nd 47) (p2 [qc 4 16] .ret) .skip))) (qG [p1 21 5,qT 22 21 1,p1 5 22])))
noncomputable def Yk:gE :=
 p2 [p0 2 [.jq 0] .box,qc 4 0] (.seq (p2 [p0 6 [.nd 2] (.zG (.str 3)),p0 7 [.cv (.func 17 [] []),.nd 6] (.call 3),qw 8 7 0 .neq] (.cond (.nd 8) (p2 [p0 9 [.Bu 2] (.zG (.str 3)),p0 10 [.cv (.func 17 [] []),.nd 9] (.call 3),p1 4 10] .ret) .skip)) (.seq (p2 [p3 11 1,qU 12 11,p0 13 [.nd 2] (.yO 0),qf 14 13,qU 15 14,qo 16 12 15 .neq] (.cond (.nd 16) (p2 [qc 4 16] .ret) .skip)) (.seq (p2 [qc 5 0] (.block 0 OU)) (p2 [qc 4 0] .ret))))
theorem acZ:ql Try.prog O' 39=some (Yk,48,[.tmp 4]):=by kernel_rfl
def K4 (p:(qj×(Int×Int))) (order:qb) (qd:Unit→Option Int):Nat→Int→Option Int
 | 0,_=>none
 | m+1,s1 =>
   if (decide (s1<(order.length:Int)))=true then
    qy (0≤s1∧s1<(order.length:Int)) <|
    if (decide ((ix order s1)<(0:Int)))=true then
     some (16:Int)
    else
     qy (0≤s1∧s1<(order.length:Int)) <|
     if (decide ((p.1.length:Int)≤(ix order s1)))=true then
      some (16:Int)
     else
      qy (0≤s1∧s1≤(order.length:Int)) <|
      qy (0≤s1∧s1<(order.length:Int)) <|
      (M8 (order.take s1.toNat) (ix order s1)).bind fun eK =>
      if eK=true then
       some (16:Int)
      else
       K4 p order qd m (w (s1+(1:Int)))
   else
    qd ()
def L9 (p:(qj×(Int×Int))) (order:qb):Option Int :=
 (K1 p).bind fun aS =>
 if (decide (aS≠(0:Int)))=true then
  (K1 p).bind fun bj =>
  some bj
 else
  if (decide ((order.length:Int)≠(p.1.length:Int)))=true then
   some (16:Int)
  else
   K4 p order (fun _ =>
     some (0:Int)) qk (0:Int)
theorem agK {p:(qj×(Int×Int))} {order:qb} {qd:Unit→Option Int} {s1:Int} {v:Int} {Q:HL}   (jK:qJ [.tmp 4] Q (fun v=>(h0 v)) v) (rn:∀ (bx:ar) (qe:List I),qd ()=some v→rm 48 [] qe→Q (.exit 0) qe [bx]) {T:List I} (b0:eZ (p8 false [1,2,2,1,42]) T=qa 48 [(1,(qM order .shared)),(2,(.ptr 0 0)),(5,(h0 s1))]) (h:K4 p order qd qk s1=some v) :
  dQ Try.prog O' 39 0 none OU T [ar.cells [(q' p.1 .shared),(h0 p.2.1),(h0 p.2.2)]] Q:=by
 unfold OU;refine wp_loop b0 ?_;refine .intro (fun m T H=>∃ (s1:Int),T=qa 48 [(1,(qM order .shared)),(2,(.ptr 0 0)),(5,(h0 s1))]∧H=[ar.cells [(q' p.1 .shared),(h0 p.2.1),(h0 p.2.2)]]∧K4 p order qd m s1=some v) qk ⟨s1,rfl,rfl,h⟩ ?_;clear h b0;rintro m T H ⟨s1,rfl,rfl,h⟩;cases m
 ·exact rT h
 rename_i m;rw [K4.eq_2] at h;conv=>whnf
 refine bs h (fun rj h=>?_) fun rj h=>?_
 ·rw [rj];conv=>whnf
  refine qV h id fun rU h=>?_;rw [rb h0 order s1 rU];conv=>whnf
  refine bs h (fun qX h=>?_) fun qX h=>?_
  ·rw [qX];(conv=>whnf);exact qg h jK rfl rfl
  ·rw [qX];(conv=>whnf);refine qV h id fun Hr h=>?_;rw [rb h0 order s1 Hr];(conv=>whnf);refine bs h (fun rN h=>?_) fun rN h=>?_
   ·rw [rN];(conv=>whnf);exact qg h jK rfl rfl
   ·rw [rN];(conv=>whnf);refine qV h id fun Hq h=>?_;erw [WN h0 order s1 Hq];(conv=>whnf);refine qV h id fun J8 h=>?_;rw [rb h0 order s1 J8];(conv=>whnf);obtain ⟨eK,KD,h⟩:=p9 h;refine ⟨qi.pl,_,agS KD,Hi,?_⟩;(conv=>whnf);cases eK
    ·(conv=>whnf);replace h:=HC rfl h;exact ⟨m,sG m,(w (s1+(1:Int))),rfl,rfl,h⟩
    ·(conv=>whnf);replace h:=HD rfl h;exact qg h jK rfl rfl
 ·rw [rj];conv=>whnf
  exact rn _ _ h ⟨rfl,rfl⟩
theorem XI {p:(qj×(Int×Int))} {order:qb} {v:Int} (h:L9 p order=some v):qu 39 [(.agg [(.av (p.1.flatMap p7) p.1.length .shared),(h0 p.2.1),(h0 p.2.2)]),(.av (order.map h0) order.length .shared)] (h0 v):=by
 refine qH eG acZ rfl rfl fun Q bp=>?_;have jK:qJ [.tmp 4] Q (fun v=>(h0 v)) v:=fun T H bE=>bp _ T H bE;unfold L9 at h;unfold Yk;obtain ⟨HY,qF⟩:∃ c,OU=c:=⟨_,rfl⟩;rw [qF];conv=>whnf
 obtain ⟨aS,gM,h⟩:=p9 h;refine ⟨qi.pl,_,RI gM,?_⟩;conv=>whnf
 refine bs h (fun gN h=>?_) fun gN h=>?_
 ·rw [gN];conv=>whnf
  obtain ⟨bj,qs,h⟩:=p9 h;refine ⟨qi.pl,_,RI qs,?_⟩;conv=>whnf
  exact qg h jK rfl rfl
 ·rw [gN];conv=>whnf
  refine bs h (fun qP h=>?_) fun qP h=>?_
  ·rw [qP];(conv=>whnf);exact qg h jK rfl rfl
  ·rw [qP];(conv=>whnf);subst qF;refine agK ?_ ?_ (by exact rfl) h
   ·exact fun T H bE=>jK T H bE
   ·intro bx qe h qA;obtain ⟨rG,rfl⟩:=qA.ex;(conv=>whnf);exact qg h jK rfl rfl
end Go.Proofs.Ytkoioidpbbbaiaa.Ab


namespace Go.Proofs.Ytkoioidpbbbaiaa.Ab
open Go
set_option maxRecDepth 20000
set_option maxHeartbeats 1000000
def rh (p:p_):Int:=if p.1.length=3∨p.1.length=5∨p.1.length=7 then (if (∀ s∈p.1,qK s)∧0≤p.2.1∧p.2.1≤p.2.2∧p.2.2≤50 then 0 else 3) else 6
theorem XJ (s:qv):K5 s=some (decide (qK s)):=by
 unfold K5 qK;by_cases ab:0≤s.1
 ·rw [if_pos (decide_eq_true ab)];by_cases ae:s.1≤100
  ·rw [if_pos (decide_eq_true ae)];by_cases aF:-10≤s.2
   ·rw [if_pos (decide_eq_true aF)];simp [ab,ae,aF]
   ·rw [if_neg (by simpa using aF)];simp [aF]
  ·rw [if_neg (by simpa using ae)];simp [ae]
 ·rw [if_neg (by simpa using ab)];simp [ab]
theorem Uj {p:p_} (aB:p.1.length≤1000) {K:Option Int}:∀ (m i:Nat),i≤p.1.length→p.1.length-i<m→(∀ j,j<i→qK (ix p.1 (j:Int))) →
  K3 p (fun _=>K) m (i:Int)=if ∀ s∈p.1,qK s then K else some 3
 | 0,_,_,h,_=>absurd h (by omega)
 | m+1,i,hi,hm,aw=>by
   rw [K3];by_cases aR:i<p.1.length
   ·rw [if_pos (decide_eq_true (by omega)),qE (by omega),XJ,sb,Iz i (by omega)];by_cases al:qK (ix p.1 (i:Int))
    ·rw [if_pos (decide_eq_true al)];refine Uj aB m (i+1) (by omega) (by omega) fun j gi=>?_;by_cases e:j=i
     ·rw [e];exact al
     ·exact aw j (by omega)
    ·rw [if_neg (by simpa using al),if_neg];exact fun c1=>al (c1 _ (Jb (by omega)))
   ·rw [if_neg (by simpa using by omega),if_pos];intro s ah;obtain ⟨j,ef,rfl⟩:=uY ah;have:=aw j (by omega)
    rwa [rI ef] at this
theorem XF {p:p_} (aB:p.1.length≤1000):K1 p=some (rh p):=by
 have aw:K2 p=some (if (∀ s∈p.1,qK s)∧0≤p.2.1∧p.2.1≤p.2.2∧p.2.2≤50 then 0 else 3):=by
  unfold K2;rw [show (0:Int)=((0:Nat):Int) from rfl,Uj aB qk 0 (by omega) (IH (by omega)) (fun j h=>absurd h (by omega))];by_cases h:∀ s∈p.1,qK s
  ·rw [if_pos h];by_cases ab:p.2.1<0
   ·rw [if_pos (decide_eq_true (by exact ab)),if_neg (by omega)]
   ·rw [if_neg (by simpa using by omega)];by_cases ae:p.2.2<p.2.1
    ·rw [if_pos (decide_eq_true ae),if_neg (by omega)]
    ·rw [if_neg (by simpa using by omega)];by_cases aF:50<p.2.2
     ·rw [if_pos (decide_eq_true aF),if_neg (by omega)]
     ·rw [if_neg (by simpa using by omega),if_pos ⟨h,by omega,by omega,by omega⟩]
  ·rw [if_neg h,if_neg (fun k=>h k.1)]
 unfold K1 rh;by_cases aF:p.1.length=3
 ·rw [if_neg (by simp [aF]),if_pos (.inl aF),aw]
 ·rw [if_pos (decide_eq_true (by omega))];by_cases bP:p.1.length=5
  ·rw [if_neg (by simp [bP]),if_pos (.inr (.inl bP)),aw]
  ·rw [if_pos (decide_eq_true (by omega))];by_cases cO:p.1.length=7
   ·rw [if_neg (by simp [cO]),if_pos (.inr (.inr cO)),aw]
   ·rw [if_pos (decide_eq_true (by omega)),if_neg (by omega)]
theorem XG (s:qv):Km s=some (!decide (qK s)):=by
 unfold Km;rw [L8,sb];unfold qK;by_cases h:0≤s.1∧s.1≤100
 ·rw [if_pos (by simp [h.1,h.2]),L8,sb];by_cases ae:-10≤s.2 <;> by_cases aF:s.2≤10 <;> simp [h.1,h.2,ae,aF]
 ·rw [if_neg (by simpa using h)];rw [decide_eq_false (show ¬ (0≤s.1∧s.1≤100∧-10≤s.2∧s.2≤10) from fun k=>h ⟨k.1,k.2.1⟩)];rfl
theorem T' {S:List qv} (aB:S.length≤1000):∀ (m i:Nat),i≤S.length→S.length-i<m→(∀ j,j<i→qK (ix S (j:Int))) →
  ∃ r,KU S (fun q4=>Km q4) (fun _=>some (-1:Int)) m (i:Int)=some r∧decide (0≤r)=!decide (∀ s∈S,qK s)
 | 0,_,_,h,_=>absurd h (by omega)
 | m+1,i,hi,hm,aw=>by
   rw [KU];by_cases aR:i<S.length
   ·rw [if_pos (decide_eq_true (by omega)),qE (by omega),XG,sb,Iz i (by omega)];by_cases al:qK (ix S (i:Int))
    ·rw [if_neg (by simpa using al)];refine T' aB m (i+1) (by omega) (by omega) fun j gi=>?_;by_cases e:j=i
     ·rw [e];exact al
     ·exact aw j (by omega)
    ·rw [if_pos (by simpa using al)];refine ⟨_,rfl,?_⟩;rw [decide_eq_true (by omega),decide_eq_false fun c1=>al (c1 _ (Jb (by omega)))];rfl
   ·rw [if_neg (by simpa using by omega)];refine ⟨-1,rfl,?_⟩;rw [decide_eq_false (by omega),decide_eq_true];rfl;intro s ah;obtain ⟨j,ef,rfl⟩:=uY ah;have:=aw j (by omega)
    rwa [rI ef] at this
theorem agZ {S:List qv} (aB:S.length≤1000):M_ S (fun q4=>Km q4)=some (!decide (∀ s∈S,qK s)):=by
 unfold M_ On;obtain ⟨r,ab,ae⟩:=T' aB qk 0 (by omega) (IH (by omega)) (fun j h=>absurd h (by omega));rw [show (0:Int)=((0:Nat):Int) from rfl,ab,sb];exact congrArg some ae
theorem XV (n lo hi:Int):K9 n lo hi=some (!(decide (lo≤n) && decide (n≤hi))):=by
 unfold K9;by_cases ab:n<lo
 ·rw [if_pos (decide_eq_true ab),decide_eq_false (show ¬ lo≤n by omega)];rfl
 ·rw [if_neg (by simpa using ab),decide_eq_true (show lo≤n by omega)];by_cases ae:hi<n
  ·rw [decide_eq_true ae,decide_eq_false (show ¬ n≤hi by omega)];rfl
  ·rw [decide_eq_false ae,decide_eq_true (show n≤hi by omega)];rfl
theorem agI (lo hi n k:Int):IA lo hi [n,k]=some ((decide (lo≤n) && decide (n≤hi)) && (decide (lo≤k) && decide (k≤hi))):=by
 obtain ⟨m,hm⟩:∃ m,qk=m+3:=⟨qk-3,rfl⟩;unfold IA M9 M';rw [hm,JA.eq_2,if_pos (show decide ((0:Int)<(([n,k]:List Int).length:Int))=true from rfl),qE ⟨sU _,show (0:Int)<(2:Int) by decide⟩,show ix [n,k] (0:Int)=n from rfl,XV,sb];cases ak:(decide (lo≤n) && decide (n≤hi))
 ·rfl
 ·rw [show w (0+1:Int)=1 from rfl,if_neg (by decide),JA.eq_2,if_pos (show decide ((1:Int)<(([n,k]:List Int).length:Int))=true from rfl),qE ⟨by decide,show (1:Int)<(2:Int) by decide⟩,show ix [n,k] (1:Int)=k from rfl,XV,sb];cases ak:(decide (lo≤k) && decide (k≤hi))
  ·rfl
  ·rw [show w (1+1:Int)=2 from rfl,JA.eq_2];rfl
theorem XT {p:p_} (aB:p.1.length≤1000):M6 p=some (rh p):=by
 have aw:L_ p (fun _=>some (0:Int)) false=some (if (∀ s∈p.1,qK s)∧0≤p.2.1∧p.2.1≤p.2.2∧p.2.2≤50 then 0 else 3):=by
  unfold L_;rw [if_neg (by decide),agZ aB,sb];by_cases h:∀ s∈p.1,qK s
  ·rw [if_neg (by simpa using h),agI,sb];by_cases ab:(0≤p.2.1∧p.2.1≤50)∧(0≤p.2.2∧p.2.2≤50)
   ·rw [if_pos (by simp [ab])];by_cases ae:p.2.2<p.2.1
    ·rw [if_pos (decide_eq_true ae),if_neg (by omega)]
    ·rw [if_neg (by simpa using by omega),if_pos ⟨h,by omega,by omega,by omega⟩]
   ·rw [if_neg (by simpa [and_assoc] using fun a b c=>by omega),if_neg (by omega)]
  ·rw [if_pos (by simpa using h),if_neg (fun k=>h k.1)]
 unfold M6 rh;rw [L8,sb];have iN:(p.1.length:Int).tmod 2=((p.1.length % 2:Nat):Int):=MT _;by_cases ai:3≤p.1.length∧p.1.length≤7
 ·rw [if_pos (by simp;omega),qE (by decide),iN];by_cases h:p.1.length=3∨p.1.length=5∨p.1.length=7
  ·rw [if_pos h,decide_eq_false (by omega),aw]
  ·rw [if_neg h,decide_eq_true (by omega)];rfl
 ·rw [if_neg (by simp;omega),if_neg (by omega)];rfl
def qq (n:Nat) (o:List Int):Prop:=o.length=n∧o.Nodup∧∀ x∈o,0≤x∧x<(n:Int)
instance (n:Nat) (o:List Int):Decidable (qq n o):=by unfold qq;exact inferInstance
def rK (p:p_) (o:List Int):Int:=if rh p≠0 then rh p else if qq p.1.length o then 0 else 16
theorem Um {l:List Int} (ao:l.length≤1000) {v:Int}:∀ (m i:Nat),i≤l.length→l.length-i<m→(∀ j,j<i→ix l (j:Int)≠v)→K8 l v (fun _=>some false) m (i:Int)=some (decide (v∈l))
 | 0,_,_,h,_=>absurd h (by omega)
 | m+1,i,hi,hm,aw=>by
   rw [K8];by_cases aR:i<l.length
   ·rw [if_pos (decide_eq_true (by omega)),qE (by omega),Iz i (by omega)];by_cases al:ix l (i:Int)=v
    ·rw [if_pos (decide_eq_true al),decide_eq_true (by rw [←al];exact Jb (by omega))]
    ·rw [if_neg (by simpa using al)];refine Um ao m (i+1) (by omega) (by omega) fun j gi=>?_;by_cases e:j=i
     ·rw [e];exact al
     ·exact aw j (by omega)
   ·rw [if_neg (by simpa using by omega),decide_eq_false];intro ah;obtain ⟨j,ef,e⟩:=uY ah;exact aw j (by omega) (by rw [rI ef];exact e)
theorem agQ {l:List Int} (ao:l.length≤1000) (v:Int):M8 l v=some (decide (v∈l)):=by
 unfold M8;exact Um ao qk 0 (by omega) (IH (by omega)) (fun j h=>absurd h (by omega))
def MB (n:Nat) (o:List Int) (i:Nat):Prop:=(o.take i).Nodup∧∀ x∈o.take i,0≤x∧x<(n:Int)
theorem adF {n:Nat} {o:List Int} {i:Nat} (hi:i<o.length):MB n o (i+1)↔MB n o i∧(0≤ix o (i:Int)∧ix o (i:Int)<(n:Int))∧ix o (i:Int) ∉ o.take i:=by
 unfold MB;rw [vd hi,rI hi,uo];constructor
 ·rintro ⟨⟨ab,_,aF⟩,a_⟩;exact ⟨⟨ab,fun x aj=>a_ x (List.mem_append_left _ aj)⟩,a_ _ (List.mem_append_right _ (sS.2 rfl)),fun hm=>aF _ hm _ (sS.2 rfl) rfl⟩
 ·rintro ⟨⟨ab,ae⟩,aF,a_⟩;refine ⟨⟨ab,by simp,?_⟩,?_⟩
  ·intro a cu b af e;rw [sS] at af;subst af;subst e;exact a_ cu
  ·intro x aj;rcases th.1 aj with aj | aj
   ·exact ae x aj
   ·rw [sS] at aj;subst aj;exact aF
theorem Uk {p:p_} {o:List Int} (ao:o.length≤1000) (aI:o.length=p.1.length):∀ (m i:Nat),i≤o.length→o.length-i<m→MB p.1.length o i→K4 p o (fun _=>some 0) m (i:Int)=some (if qq p.1.length o then 0 else 16)
 | 0,_,_,h,_=>absurd h (by omega)
 | m+1,i,hi,hm,aw=>by
   rw [K4];by_cases aR:i<o.length
   ·rw [if_pos (decide_eq_true (by omega)),qE (by omega),Iz i (by omega)];have ft:(¬ (0≤ix o (i:Int)∧ix o (i:Int)<(p.1.length:Int))∨ix o (i:Int)∈o.take i)→¬ qq p.1.length o:=fun af al=>by
     rcases af with af | af
     ·exact af (al.2.2 _ (Jb (by omega)))
     ·have:(o.take (i+1)).Nodup:=al.2.1.sublist (List.take_sublist _ _)
      rw [vd aR,uo] at this;exact this.2.2 _ af _ (by rw [rI aR];simp) rfl
    by_cases ab:ix o (i:Int)<0
    ·rw [if_pos (decide_eq_true ab),if_neg (ft (.inl (by omega)))]
    ·rw [if_neg (by simpa using by omega),qE (by omega)];by_cases ae:(p.1.length:Int)≤ix o (i:Int)
     ·rw [if_pos (decide_eq_true ae),if_neg (ft (.inl (by omega)))]
     ·rw [if_neg (by simpa using by omega),qE (by omega),qE (by omega),tw,agQ (by rw [sZ];omega),sb];by_cases aF:ix o (i:Int)∈o.take i
      ·rw [if_pos (decide_eq_true aF),if_neg (ft (.inr aF))]
      ·rw [if_neg (by simpa using aF)];exact Uk ao aI m (i+1) (by omega) (by omega) ((adF aR).2 ⟨aw,by omega,aF⟩)
   ·(obtain rfl:i=o.length:=by omega);rw [if_neg (by simp),if_pos];unfold MB at aw;rw [uZ] at aw;exact ⟨aI,aw.1,aw.2⟩
theorem agJ {p:p_} (aB:p.1.length≤1000) {o:List Int} (ao:o.length≤1000):L9 p o=some (rK p o):=by
 unfold L9 rK;rw [XF aB,sb,sb];by_cases h:rh p=0
 ·rw [if_neg (show ¬ decide (rh p≠0)=true by simpa using h),if_neg (show ¬ rh p≠0 by simpa using h)];by_cases aI:o.length=p.1.length
  ·rw [if_neg (show ¬ decide ((o.length:Int)≠(p.1.length:Int))=true by simp [aI])];exact Uk ao aI qk 0 (by omega) (IH (by omega)) ⟨by simp,by simp⟩
  ·rw [if_pos (show decide ((o.length:Int)≠(p.1.length:Int))=true from decide_eq_true (by omega)),if_neg (fun k=>aI k.1)]
 ·rw [if_pos (decide_eq_true h),if_pos h]
theorem afs:Sort.SWO Sort.ltInt:=by
 constructor <;> intros <;> simp_all [Sort.ltInt] <;> omega
theorem WS (l:List Int):(IP l).Perm l∧(IP l).Pairwise (·≤·):=by
 obtain ⟨⟨ab,_,aF⟩,a_⟩:=Sort.insertionSort_holds (lt:=Sort.ltInt) afs l.toArray 0 l.length (sD _) (by simp);unfold IP;generalize Sort.insertionSort Sort.ltInt l.toArray 0 l.length=d at ab aF a_;have ab:d.size=l.length:=by simpa using ab
 have e1:(d.extract 0 l.length).toList=d.toList:=by rw [←ab];simp
 have b':(l.toArray.extract 0 l.length).toList=l:=by simp
 rw [e1,b'] at aF;refine ⟨aF,List.pairwise_iff_getElem.2 fun i j hi aw h_=>?_⟩;have hi':i<d.size:=by simpa using hi
 have ef:j<d.size:=by simpa using aw
 have:=a_ i j (sD _) h_ (by omega);rw [getElem!_pos d i hi',getElem!_pos d j ef] at this;simp only [Sort.ltInt,decide_eq_false_iff_not] at this;simp only [Array.getElem_toList];omega
theorem My {n:Nat} {x:Int}:x∈qh n↔0≤x∧x<(n:Int):=by
 simp only [qh,sC,sH];exact ⟨by rintro ⟨i,hi,rfl⟩;omega,fun h=>⟨x.toNat,by omega,by omega⟩⟩
theorem W9 (n:Nat):(qh n).Pairwise (·<·):=by
 unfold qh;rw [List.pairwise_map];exact List.pairwise_lt_range.imp fun h=>by omega
theorem afC (n:Nat):(qh n).Nodup:=aeV (W9 n)
theorem UX:∀ {a b:List Int},a.Nodup→(∀ x∈a,x∈b)→b.length≤a.length→a.Perm b
 | [],b,_,_,h=>by
   rw [sO.1 (show b.length=0 by simpa using h)]
 | x::a,b,aI,ah,h=>by
   have aj:x∈b:=ah x (by simp);obtain ⟨ab,ae⟩:=tW.1 aI;refine (List.Perm.cons x (UX (b:=b.erase x) ae (fun y aY=>?_) ?_)).trans (List.perm_cons_erase aj).symm
   ·exact (List.mem_erase_of_ne (fun e=>ab (by rw [←e];exact aY))).2 (ah y (by simp [aY]))
   ·rw [tV aj];simp at h;omega
theorem Lw {n:Nat} {o:List Int}:qq n o↔o.Perm (qh n):=by
 constructor
 ·rintro ⟨ab,ae,aF⟩;exact UX ae (fun x aj=>My.2 (aF x aj)) (by simp [qh,ab])
 ·intro h;exact ⟨by rw [h.length_eq];simp [qh],h.nodup_iff.2 (afC n),fun x aj=>My.1 (h.mem_iff.1 aj)⟩
theorem adt {n:Nat} {o:List Int}:qq n o↔o∈qW n (qh n):=by
 rw [Lw,NG n _ _ (by simp [qh])]
theorem WT {l:List Int}:(∀ j:Nat,j<(IP l).length→ix (IP l) (j:Int)=(j:Int))↔qq l.length l:=by
 obtain ⟨ab,ae⟩:=WS l;have ao:=ab.length_eq;constructor
 ·intro h;have e:IP l=qh l.length:=by
   refine List.ext_getElem (by simp [qh,ao]) fun j a b=>?_;have:=h j a;rw [rI a] at this;rw [this];simp [qh]
  rw [Lw,←e];exact ab.symm
 ·intro h;have e:IP l=qh l.length:=by
   refine List.Perm.eq_of_pairwise (le:=fun (a b:Int)=>a≤b) (fun a b _ _ x y=>by omega) ae ((W9 _).imp fun h=>by omega) (ab.trans (Lw.1 h))
  intro j aw;rw [rI aw];simp only [e];simp [qh]
theorem Ui {eK:List Int} (ai:eK.length≤1000) {K:Option (Option (p_×Unit)×Int)}:∀ (m i:Nat),i≤eK.length→eK.length-i<m→(∀ j,j<i→ix eK (j:Int)=(j:Int)) →
  Iq eK (fun _=>K) m (i:Int)=if ∀ j:Nat,j<eK.length→ix eK (j:Int)=(j:Int) then K else some (none,16)
 | 0,_,_,h,_=>absurd h (by omega)
 | m+1,i,hi,hm,aw=>by
   rw [Iq];by_cases aR:i<eK.length
   ·rw [if_pos (decide_eq_true (by omega)),qE (by omega),Iz i (by omega)];by_cases al:ix eK (i:Int)=(i:Int)
    ·rw [if_neg (by simpa using al)];refine Ui ai m (i+1) (by omega) (by omega) fun j gi=>?_;by_cases e:j=i
     ·rw [e];exact al
     ·exact aw j (by omega)
    ·rw [if_pos (decide_eq_true al),if_neg (fun h=>al (h i aR))]
   ·rw [if_neg (by simpa using by omega),if_pos fun j ao=>aw j (by omega)]
theorem OA {p:p_} (aB:p.1.length≤1000) {o:List Int} (ao:o.length≤12):rD p [o]=some (if rK p o=0 then (some (p,()),0) else (none,rK p o)):=by
 unfold rD rK;rw [XT aB,sb];by_cases h:rh p=0
 ·rw [if_neg (show ¬ decide (rh p≠0)=true by simpa using h)];rw [if_neg (show ¬ rh p≠0 by simpa using h)];obtain ⟨m,hm⟩:=PB;rw [show Hw p [o] (fun _=>some (some (p,()),0)) qk 0=Hw p [o] (fun _=>some (some (p,()),0)) (m+2) 0 by rw [hm],Hw.eq_2,if_pos (show decide ((0:Int)<(([o]:List (List Int)).length:Int))=true from rfl),qE ⟨sU _,show (0:Int)<(1:Int) by decide⟩,show ix [o] (0:Int)=o from rfl];rw [show OC o=some () from rfl,sb,show OB o=some (IP o) from if_pos ao,sb];have ah:=WS o;have DH:=ah.1.length_eq;rw [show (0:Int)=((0:Nat):Int) from rfl,Ui (by omega) qk 0 (by omega) (IH (by omega)) (fun j h=>absurd h (by omega))];by_cases ab:qq o.length o
  ·rw [if_pos (WT.2 ab)];by_cases aI:o.length=p.1.length
   ·rw [if_neg (show ¬ decide ((o.length:Int)≠(p.1.length:Int))=true by simp [aI]),if_pos (by rw [←aI,if_pos ab]),show w (((0:Nat):Int)+1)=1 from rfl,Hw.eq_2];rfl
   ·have ft:¬ qq p.1.length o:=fun k=>aI k.1;rw [if_pos (show decide ((o.length:Int)≠(p.1.length:Int))=true from decide_eq_true (by omega)),if_neg ft];rfl
  ·have ft:¬ qq p.1.length o:=fun k=>ab (by rw [k.1];exact k);rw [if_neg (fun k=>ab (WT.1 k)),if_neg ft];rfl
 ·rw [if_pos (decide_eq_true h),if_pos h,if_neg h]
theorem RF {p:p_} (aB:p.1.length≤1000):rD p []=some (if rh p=0 then (some (p,()),0) else (none,rh p)):=by
 unfold rD;rw [XT aB,sb];by_cases h:rh p=0
 ·rw [if_neg (show ¬ decide (rh p≠0)=true by simpa using h),if_pos h];obtain ⟨m,hm⟩:=PB;rw [show Hw p [] (fun _=>some (some (p,()),0)) qk 0=Hw p [] (fun _=>some (some (p,()),0)) (m+2) 0 by rw [hm],Hw.eq_2];rfl
 ·rw [if_pos (decide_eq_true h),if_neg h]
structure q3 (p:p_):Prop where
 n:p.1.length=3∨p.1.length=5∨p.1.length=7
 s:∀ s∈p.1,qK s
 lo:0≤p.2.1
 le:p.2.1≤p.2.2
 hi:p.2.2≤50
theorem JE {p:p_}:rh p=0↔q3 p:=by
 unfold rh;constructor
 ·intro h;split at h
  ·rename_i ab;split at h
   ·rename_i ae;exact ⟨ab,ae.1,ae.2.1,ae.2.2.1,ae.2.2.2⟩
   ·omega
  ·omega
 ·intro h;rw [if_pos h.n,if_pos ⟨h.s,h.lo,h.le,h.hi⟩]
theorem KJ {p:p_} {o:List Int}:rK p o=0↔q3 p∧qq p.1.length o:=by
 unfold rK;by_cases h:rh p=0
 ·rw [if_neg (by simpa using h)];by_cases ab:qq p.1.length o
  ·rw [if_pos ab];exact ⟨fun _=>⟨JE.1 h,ab⟩,fun _=>rfl⟩
  ·rw [if_neg ab];exact ⟨fun k=>by omega,fun k=>absurd k.2 ab⟩
 ·rw [if_pos h];exact ⟨fun k=>absurd k h,fun k=>JE.2 k.1⟩
theorem rZ {S:List qv} {o:List Int} (h:qq S.length o):JC S o:=fun i hi=>h.2.2 _ (Jb (by omega))
end Go.Proofs.Ytkoioidpbbbaiaa.Ab
