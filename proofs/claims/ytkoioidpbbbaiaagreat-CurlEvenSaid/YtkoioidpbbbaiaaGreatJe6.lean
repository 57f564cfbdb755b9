
import Derived.Test.YtkoioidpbbbaiaaGreatJe5
import Derived.KernelRfl
import Derived.Test.YtkoioidpbbbaiaaGreatJe4
import Derived.Test.YtkoioidpbbbaiaaGreatProg
set_option linter.unusedSimpArgs false
set_option linter.unusedVariables false
set_option linter.unusedSectionVars false

open Array renaming length_toList→sZ
open Bool renaming and_true→tt
open Classical renaming choose_spec→uy
open Int renaming le_refl→sU,toNat_natCast→tp
open List renaming any_eq_true→vC,append_assoc→sx,append_nil→sM,drop_eq_getElem_cons→s0,drop_length→uY,exists_cons_of_ne_nil→tK,filter_append→t_,filter_congr→ui,filter_cons_of_neg→uB,filter_cons_of_pos→uX,filter_eq_self→tC,filter_filter→uP,find?_eq_none→vD,flatMap_append→ug,getD_eq_getElem?_getD→sw,getElem?_append→sq,getElem?_append_right→ss,getElem?_eq_getElem→si,getElem?_eq_some_iff→sa,getElem?_map→sk,getElem_map→tZ,getElem_of_mem→uh,length_append→sA,length_cons→sK,length_eq_zero_iff→sO,length_erase_of_mem→tS,length_map→sY,length_nil→tU,length_take→s9,map_append→sP,map_cons→sG,map_set→tH,mem_append→tf,mem_cons→sB,mem_filter→ta,mem_flatMap→tJ,mem_map→sD,mem_map_of_mem→td,mem_range→sH,mem_singleton→sS,nil_append→tM,nodup_append→uj,nodup_cons→tT,not_mem_nil→tP,set_append_right→uT,take_length→uV,take_of_length_le→te,take_succ_eq_append_getElem→uZ
open Nat renaming add_assoc→tc,le_refl→sc,lt_succ_self→sE,zero_add→sy,zero_le→sC
open Option renaming bind_some→sb,map_eq_some_iff→r_,map_some→se
namespace Go.Proofs.YtkoioidpbbbaiaaGreat.Ab
open Go
set_option maxRecDepth 20000
set_option maxHeartbeats 4000000
theorem W' (l:List Int) (ao:l.length≤1000):Seq Tryz.prog 87 [.bS [.av (l.map h0) l.length .shared]] (l.map h0):=by
 intro L N qN hlen fq ai Y;obtain ⟨Z,KL,Kc⟩:=af_ ai Y;have Hh:(l.map h0).length=l.length:=by simp
 have Uk:∀ j (h:j<l.length),Sem Tryz.prog (.yield L) [h0 l[j]] (qN j++Z j) 0 (.bool true) (qN (j+1)++Z (j+1)):=fun j aw=>by
  have:=Kc j (by rw [Hh];exact aw);rw [tZ] at this;exact this
 refine ⟨Z l.length,?_⟩;rw [Hh];refine rn eG adj rfl (IA ?_) fun Q bp=>?_
 ·have key:∀ j,j≤l.length→(qN 0++Y).length≤(qN j++Z j).length:=fun j=>by
   induction j with
   | zero=>intro _;rw [KL];exact sc _
   | succ j a8=>intro aw;exact Nat.le_trans (a8 (by omega)) (Uk j (by omega)).1.1
  exact key l.length (sc _)
 unfold WW;conv=>whnf
 refine .intro (fun m T H=>∃ j:Nat,j≤l.length∧m=l.length-j∧T=qa 16 [(0,.yield L),(5,.av (l.map h0) l.length .shared),(6,h0 (l.length:Int)),(7,h0 (j:Int))]∧H=qN j++Z j) l.length ⟨0,sC _,rfl,rfl,by rw [KL]⟩ ?_;rintro m T H ⟨j,aw,rfl,rfl,rfl⟩;conv=>whnf
 refine Hm (fun JN=>?_) (fun JN=>?_)
 ·have aR:j<l.length:=by omega
  have af:0≤(j:Int)∧(j:Int)<(l.length:Int):=by omega
  conv=>whnf
  refine ⟨af,?_⟩;rw [rb h0 l (j:Int) af];conv=>whnf
  rw [ru aR];refine ⟨_,_,rj (Uk j aR),?_⟩;conv=>whnf
  refine ⟨l.length-(j+1),by omega,j+1,by omega,rfl,?_,rfl⟩;rw [show ((j+1:Nat):Int)=IntKind.i64.wrap ((j:Int)+1) by rw [rY _ (by omega) (by omega)];omega];rfl
 ·obtain rfl:j=l.length:=by omega
  conv=>whnf
  exact bp _ _ _ ⟨.inl rfl,lI.refl _,rfl⟩
def IQ (l:List Int):List Int:=(Sort.insertionSort Sort.ltInt l.toArray 0 l.length).toList
theorem UC (lt:Int→Int→Bool) (d:Array Int) (a b:Nat):(Sort.insertionSort lt d a b).size=d.size:=by
 have kE:∀ (j:Nat) (d:Array Int),(Sort.insInner lt a j d).size=d.size:=fun j=>by
  induction j with
  | zero=>intro d;rfl
  | succ j a8 =>
    intro d;rw [Sort.insInner];split
    ·rw [a8,swp_size]
    ·rfl
 show (Sort.insOuter lt a b (a+1) d).size=d.size
 have:∀ (n i:Nat) (d:Array Int),b-i=n→(Sort.insOuter lt a b i d).size=d.size:=fun n=>by
  induction n with
  | zero=>intro i d h;rw [Sort.insOuter.eq_1,if_neg (by omega)]
  | succ n a8=>intro i d h;rw [Sort.insOuter.eq_1,if_pos (by omega),a8 _ _ (by omega),kE]
 exact this _ _ d rfl
section
variable {H:List ar} {lo:Nat}
theorem acD:Sem Go.Proofs.Tryz.prog (.fn 110) [.av [] 0 .full,h0 0,h0 0] H lo (.tuple []) H:=by
 refine rn eG U' rfl (a'.refl _ _) fun Q bp=>?_;unfold Q2;conv=>whnf
 refine .intro (fun m T H'=>T=qa 49 [(0,.av [] 0 .full),(1,h0 0),(2,h0 0),(6,h0 1)]∧H=H') 0 ⟨rfl,rfl⟩ ?_;rintro m T H' ⟨rfl,rfl⟩;conv=>whnf
 exact bp _ _ _ ⟨.inl rfl,⟨by simp,fun j o aw=>.inr aw⟩,rfl⟩
theorem aeD {Jf:Int}:Sem Go.Proofs.Tryz.prog (.fn 103) [.av [] 0 .full,h0 0,h0 0,h0 Jf] H lo (.tuple []) H:=by
 refine rn eG U_ rfl (a'.refl _ _) fun Q bp=>?_;unfold Q0;obtain ⟨PF,Jb⟩:∃ c,MK=c:=⟨_,rfl⟩;rw [Jb];conv=>whnf
 refine .intro (fun m T H'=>T=qa 134 [(0,.av [] 0 .full),(1,h0 0),(2,h0 0),(3,h0 Jf),(8,B true),(9,B true)]∧H'=H) 0 ⟨rfl,rfl⟩ ?_;rintro m T H' ⟨rfl,rfl⟩;subst Jb;unfold MK;obtain ⟨a7,cf⟩:∃ c,MJ=c:=⟨_,rfl⟩;obtain ⟨PE,KI⟩:∃ c,Q1=c:=⟨_,rfl⟩;rw [cf,KI];conv=>whnf
 subst cf;unfold MJ;conv=>whnf
 refine ⟨_,_,rj acD,?_⟩;conv=>whnf
 exact bp _ _ _ ⟨.inr rfl,⟨rfl,fun j o aw=>.inr aw⟩,rfl⟩
theorem agi:Sem Go.Proofs.Tryz.prog (.fn 86) [.av [] 0 .full] H lo (.tuple []) H:=by
 refine rn eG Ve rfl (a'.refl _ _) fun Q bp=>?_;unfold RM;conv=>whnf
 refine ⟨by first | rfl | simp only [List.all_cons,List.all_nil,LK,LS,LL,LN,LM,LO,LV,LU,JW,LP,LQ,LR,tt,Bool.and_self],_,Nv 0 (by decide),?_⟩
 conv=>whnf
 refine ⟨_,_,rj aeD,?_⟩;conv=>whnf
 exact bp _ _ _ ⟨.inl rfl,⟨by simp,fun j o aw=>.inr aw⟩,rfl⟩
end
def OQ (l:List Int):Option (List Int):=if l.length≤12 then some (IQ l) else none
theorem Sl {l v:List Int} (h:OQ l=some v):qx 67 [.func 87 [] [.bS [.av (l.map h0) l.length .shared]]] (.av (v.map h0) v.length .shared):=by
 unfold OQ at h;split at h
 ·rename_i ak;obtain rfl:=Option.some.inj h;by_cases aQ:l.length=0
  ·obtain rfl:=sO.1 aQ;have acx:IQ []=[]:=sO.1 (by unfold IQ;rw [sZ,UC];rfl);rw [acx];have hk:[I.bS [.av (([]:List Int).map h0) ([]:List Int).length .shared]].all (cr 7)=true:=rfl;refine qK eG Vb rfl (rC (fun _=>rfl) _ _ _) fun Q bp=>?_;unfold Rm WK;(conv=>whnf);refine ⟨_,_,Mo (p6 (IP rfl hk) rfl) (TN hk (W' [] (by simp)) (by simp)) _ _,?_⟩;(conv=>whnf);refine ⟨_,_,rj agi,?_⟩;(conv=>whnf);refine ⟨_,_,fun C=>rfl,?_⟩;(conv=>whnf);exact bp _ _ _ ⟨.inr rfl,_,rfl,_,yW rfl,rfl⟩
  replace ak:0<l.length∧l.length≤12:=⟨by omega,ak⟩;have hk:[I.bS [.av (l.map h0) l.length .shared]].all (cr 7)=true:=p6 (Ig (p6 (rC (fun _=>rfl) _ _ _) rfl)) rfl;have cH:=TN hk (W' l (by omega)) (by omega);have cp:=agd (lo:=0) (id:=0) (sc 0) l.toArray (by simpa using ak.2) (H:=[It l.toArray]) rfl;obtain ⟨S,P5⟩:∃ S,S=Sort.insertionSort Sort.ltInt l.toArray 0 l.toArray.size:=⟨_,rfl⟩;have ad:IQ l=S.toList:=by rw [P5];unfold IQ;simp
  have bR:S.size=l.length:=by rw [P5,UC];simp
  rw [←P5] at cp;rw [ad];have bJ:l≠[]:=fun e=>by rw [e] at ak;exact absurd ak.1 (by decide)
  have ab7:Ny l=.av (l.map h0) l.length (.uniq 1):=by
   cases l with
   | nil=>exact absurd rfl bJ
   | cons a l=>rfl
  rw [ab7] at cH;refine qK eG Vb rfl (rC (fun _=>rfl) _ _ _) fun Q bp=>?_;unfold Rm;conv=>whnf
  refine ⟨_,_,Mo (p6 (IP rfl hk) rfl) cH _ _,?_⟩;conv=>whnf
  refine .inl ⟨by omega,?_⟩;conv=>whnf
  have e1:ar.cells (l.map h0)=It l.toArray:=rfl;have b':I.ref 0 0 l.length none 1=J7 0 l.toArray.size:=by unfold J7;simp
  erw [e1];refine ⟨_,_,rj (by show Sem Tryz.prog (.fn 86) [I.ref 0 0 l.length none 1] [It l.toArray] 0 (.tuple []) [It S];rw [b'];exact cp),?_⟩;conv=>whnf
  have cI:rowOf [It S] (.ref 0 0 l.length none 1)=some (S.toList.map h0):=af3 rfl (bR.symm.trans sZ.symm) fun _=>rfl;refine ⟨.av (S.toList.map h0) l.length .shared,[.dead],fun C=>?_,?_⟩
  ·show ((rowOf [It S] (.ref 0 0 l.length none 1)).bind fun row=>some (I.av row l.length .shared,[ar.dead]))=_;rw [cI];rfl
  conv=>whnf
  rw [show S.toList.length=l.length from sZ.trans bR] at bp;exact bp _ _ _ ⟨.inr rfl,_,rfl,_,yW (rC (fun _=>rfl) _ _ _),rfl⟩
 ·cases h

noncomputable def Pd:gE :=
 .loop (some (p8 false [0,2,5,2,10])) (p2 [p0 9 [.nc 8,.nc 7] (.bin .lss)] (.seq (.cond (.nc 9) .skip (.exit 0)) (.seq (.block 1 (p2 [p3 10 8,p1 5 10] (p2 [p3 11 1,p3 12 0,p3 13 5,q5 14 12 13 1,qg 15 14,p0 16 [.nc 11,.nc 15] (.call 6)] (.cond (.nc 16) (p2 [p1 17 5,p1 4 17] .ret) .skip)))) (qF [qP 18 8 1,p1 8 18]))))
noncomputable def Zb:gE :=
 p2 [qd 4 0] (.seq (p2 [p3 6 0,qT 7 6,qd 8 0] (.block 0 Pd)) (p2 [qd 4 (-1)] .ret))
theorem aeb:ql Tryz.prog PB 88=some (Zb,19,[.tmp 4]):=by kernel_rfl
def JG (s:p9) (f:(Int→Option Bool)) (p_:Unit→Option Int):Nat→Int→Option Int
 | 0,_=>none
 | m+1,s1 =>
   if (decide (s1<(s.length:Int)))=true then
    qs (0≤s1∧s1<(s.length:Int)) <|
    (f (ix s s1)).bind fun aS =>
    if aS=true then
     some s1
    else
     JG s f p_ m (w (s1+(1:Int)))
   else
    p_ ()
def Nm (s:p9) (f:(Int→Option Bool)):Option Int :=
 JG s f (fun _ =>
   some (-1:Int)) qi (0:Int)
theorem aib {s:p9} {f:(Int→Option Bool)} {p_:Unit→Option Int} {s1:Int} {Hi:FuncId} {rz:List I} (Hw:HA rz) (Jd:∀ (q6:Int) (r:Bool),f q6=some r→qx Hi ((h0 q6)::rz) (B r)) {v:Int} {Q:Hr}   (jJ:qH [.tmp 4] Q (fun v=>(h0 v)) v) (rf:∀ (qf:List I),p_ ()=some v→ry 19 [] qf→Q (.exit 0) qf []) {T:List I} (b0:eZ (p8 false [0,2,5,2,10]) T=qa 19 [(0,(qG s .shared)),(1,(.func Hi [] rz)),(7,(h0 (s.length:Int))),(8,(h0 s1))]) (h:JG s f p_ qi s1=some v) :
  dQ Tryz.prog PB 88 0 none Pd T [] Q:=by
 unfold Pd;refine wp_loop b0 ?_;refine .intro (fun m T H=>∃ (s1:Int),T=qa 19 [(0,(qG s .shared)),(1,(.func Hi [] rz)),(7,(h0 (s.length:Int))),(8,(h0 s1))]∧H=[]∧JG s f p_ m s1=some v) qi ⟨s1,rfl,rfl,h⟩ ?_;clear h b0;rintro m T H ⟨s1,rfl,rfl,h⟩;cases m
 ·exact rT h
 rename_i m;rw [JG.eq_2] at h;conv=>whnf
 refine bs h (fun gM h=>?_) fun gM h=>?_
 ·rw [gM];conv=>whnf
  refine qW h id fun gN h=>?_;rw [rb h0 s s1 gN];conv=>whnf
  obtain ⟨aS,qp,h⟩:=p' h;refine ⟨_,_,call6 (bs:=((h0 (ix s s1))::rz)) (by simp only [sG,Hw.iD,Hw.cc];rfl) (by simp only [sG,Hw.iD];exact (p6 rfl Hw.SI)) (Jd _ _ qp) rfl,?_⟩;conv=>whnf
  cases aS
  ·(conv=>whnf);replace h:=Ho rfl h;exact ⟨m,sE m,(w (s1+(1:Int))),rfl,rfl,h⟩
  ·(conv=>whnf);replace h:=Hp rfl h;exact qe h jJ rfl rfl
 ·rw [gM];conv=>whnf
  exact rf  _ h ⟨rfl,rfl⟩
theorem aic {s:p9} {f:(Int→Option Bool)} {Hi:FuncId} {rz:List I} (Hw:HA rz) (Jd:∀ (q6:Int) (r:Bool),f q6=some r→qx Hi ((h0 q6)::rz) (B r)) {v:Int} (h:Nm s f=some v):qx 88 [(.av (s.map h0) s.length .shared),(.func Hi [] rz)] (h0 v):=by
 refine qK eG aeb rfl rfl fun Q bp=>?_;have jJ:qH [.tmp 4] Q (fun v=>(h0 v)) v:=fun T H bE=>bp _ T H bE;unfold Nm at h;unfold Zb;obtain ⟨HN,qD⟩:∃ c,Pd=c:=⟨_,rfl⟩;rw [qD];conv=>whnf
 subst qD;refine aib Hw Jd ?_ ?_ (by exact rfl) h
 ·exact fun T H bE=>jJ T H bE
 ·intro  qf h qA;obtain ⟨rD,rfl⟩:=qA.ex;conv=>whnf
  exact qe h jJ rfl rfl

noncomputable def Y7:gE :=
 p2 [p0 4 [.cv (.bool false)] .mU] (p2 [p1 5 0,p1 6 1,p0 7 [.cv (.func 88 [] []),.nc 5,.nc 6] (.call 6),qw 8 7 0 .geq,p1 4 8] .ret)
theorem ad6:ql Tryz.prog Tn 73=some (Y7,9,[.tmp 4]):=by kernel_rfl
def Nk (s:p9) (f:(Int→Option Bool)):Option Bool :=
 (Nm s f).bind fun aS =>
 some (decide ((0:Int)≤aS))
theorem ah4 {s:p9} {f:(Int→Option Bool)} {Hi:FuncId} {rz:List I} (Hw:HA rz) (Jd:∀ (q6:Int) (r:Bool),f q6=some r→qx Hi ((h0 q6)::rz) (B r)) {v:Bool} (h:Nk s f=some v):qx 73 [(.av (s.map h0) s.length .shared),(.func Hi [] rz)] (B v):=by
 refine qK eG ad6 rfl rfl fun Q bp=>?_;have jJ:qH [.tmp 4] Q (fun v=>(B v)) v:=fun T H bE=>bp _ T H bE;unfold Nk at h;unfold Y7;conv=>whnf
 obtain ⟨aS,gM,h⟩:=p' h;refine ⟨_,_,PG (cs:=[(qG s .shared),(.func Hi [] rz)]) (bs:=[(qG s .shared),(.func Hi [] rz)]) (Kf rfl (Kf (Hw.fn _ _) MD)) (by rfl) (by exact (p6 (rC (fun _=>rfl) _ _ _) (p6 (Hw.VI _) rfl))) (aic Hw Jd gM) rfl,?_⟩;conv=>whnf
 exact qe h jJ rfl rfl

noncomputable def Y8:gE :=
 p2 [p0 4 [.cv (.bool false)] .mU] (p2 [p3 5 0,qg 6 1,qm 7 5 6 .lss,p1 8 7,cl 9 [.jq 0] 8 false .mU,cl 10 [.Bs 2] 8 false (.zE .one),cl 11 [.Bs 9,.Bs 10] 8 false (.bin .gtr),p0 12 [.Bs 8,.cv (.bool true),.Bs 11] .pick,p1 4 12] .ret)
theorem ad7:ql Tryz.prog Tp 74=some (Y8,13,[.tmp 4]):=by kernel_rfl
def Lk (n g9 a7:Int):Option Bool :=
 if (decide (n<g9))=true then
  some true
 else
  some (decide (a7<n))
theorem ah5 {n:Int} {g9:Int} {a7:Int} {v:Bool} (h:Lk n g9 a7=some v):qx 74 [(h0 n),(.bS [(h0 g9)]),(.bS [(h0 a7)])] (B v):=by
 refine qK eG ad7 rfl rfl fun Q bp=>?_;have jJ:qH [.tmp 4] Q (fun v=>(B v)) v:=fun T H bE=>bp _ T H bE;unfold Lk at h;unfold Y8;conv=>whnf
 refine bs h (fun gM h=>?_) fun gM h=>?_
 ·rw [gM];conv=>whnf
  exact qe h jJ rfl rfl
 ·rw [gM];conv=>whnf
  exact qe h jJ rfl rfl

noncomputable def YV:gE :=
 p2 [p0 3 [.jq 0] .box,p0 4 [.jq 1] .box,p0 6 [.cv (.bool false)] .mU] (p2 [p1 7 2,p0 8 [.Bs 3,.Bs 4] (.zY 74 0 2),p0 9 [.cv (.func 73 [] []),.nc 7,.nc 8] (.call 6),p0 10 [.Bs 9] (.un .not),p1 6 10] .ret)
theorem adV:ql Tryz.prog Td 50=some (YV,11,[.tmp 6]):=by kernel_rfl
def ID (lo hi:Int) (l:p9):Option Bool :=
 (Nk l (fun q6=>Lk q6 lo hi)).bind fun aS =>
 some (!aS)
theorem Kv {lo:Int} {hi:Int} {l:p9} {v:Bool} (h:ID lo hi l=some v):qx 50 [(h0 lo),(h0 hi),(.av (l.map h0) l.length .shared)] (B v):=by
 refine qK eG adV rfl rfl fun Q bp=>?_;have jJ:qH [.tmp 6] Q (fun v=>(B v)) v:=fun T H bE=>bp _ T H bE;unfold ID at h;unfold YV;conv=>whnf
 obtain ⟨aS,gM,h⟩:=p' h;refine ⟨_,_,PG (cs:=[(qG l .shared),(.func 74 [] [(.bS [(h0 lo)]),(.bS [(h0 hi)])])]) (bs:=[(qG l .shared),(.func 74 [] [(.bS [(h0 lo)]),(.bS [(h0 hi)])])]) (Kf rfl (Kf (agc MD (Kf (Xi (cs:=[(h0 lo)]) (by first | exact qQ.h | rfl | (simp [sq,I.settle];done)) rfl) (Kf (Xi (cs:=[(h0 hi)]) (by first | exact qQ.h | rfl | (simp [sq,I.settle];done)) rfl) MD))) MD)) (by rfl) (by exact (p6 (rC (fun _=>rfl) _ _ _) (p6 (IP rfl (p6 (Ig (p6 rfl rfl)) (p6 (Ig (p6 rfl rfl)) rfl))) rfl))) (ah4 ⟨(p6 (Ig (p6 rfl rfl)) (p6 (Ig (p6 rfl rfl)) rfl)),by simp⟩ (fun _ _ aY=>ah5 aY) gM) rfl,?_⟩
 conv=>whnf
 exact qe h jJ rfl rfl

noncomputable def YW:gE :=
 p2 [p0 1 [.jq 0] .box,p0 2 [.cv (.bool false)] .mU] (p2 [p0 3 [.nc 1] (.yM 0),qg 4 3,p0 5 [.Bs 4] (.yB 1 1 [.int .i64 0] [0]),p0 6 [.cv (.func 50 [] []),.cv (.int .i64 0),.cv (.int .i64 100),.nc 5] (.call 3),p0 7 [.Bs 6] (.un .not),p1 8 7,cl 9 [.Bs 1] 8 false (.yM 1),cl 10 [.Bs 9] 8 false (.zE .one),⟨some 11,[.Bs 10],some (8,false),none,.yB 1 1 [.int .i64 0] [0]⟩,⟨some 12,[.cv (.func 50 [] []),.cv (.int .i64 (-10)),.cv (.int .i64 10),.nc 11],some (8,false),none,.call 3⟩,cl 13 [.Bs 12] 8 false (.un .not),p0 14 [.Bs 8,.cv (.bool true),.Bs 13] .pick,p1 2 14] .ret)
theorem adW:ql Tryz.prog Te 51=some (YW,15,[.tmp 2]):=by kernel_rfl
def Kw (s:(Int×Int)):Option Bool :=
 (ID (0:Int) (100:Int) [s.1]).bind fun aS =>
 if aS=true then
  (ID (-10:Int) (10:Int) [s.2]).bind fun bj =>
  some (!bj)
 else
  some true
theorem Ye {s:(Int×Int)} {v:Bool} (h:Kw s=some v):qx 51 [(.agg [(h0 s.1),(h0 s.2)])] (B v):=by
 refine qK eG adW rfl rfl fun Q bp=>?_;have jJ:qH [.tmp 2] Q (fun v=>(B v)) v:=fun T H bE=>bp _ T H bE;unfold Kw at h;unfold YW;conv=>whnf
 obtain ⟨aS,gM,h⟩:=p' h;refine ⟨(p6 rfl (p6 rfl (p6 rfl rfl))),_,Kv gM,?_⟩;conv=>whnf
 cases aS
 ·conv=>whnf
  replace h:=Ho rfl h;exact qe h jJ rfl rfl
 ·conv=>whnf
  replace h:=Hp rfl h;obtain ⟨bj,gN,h⟩:=p' h;refine ⟨(p6 rfl (p6 rfl (p6 rfl rfl))),_,Kv gN,?_⟩;conv=>whnf
  exact qe h jJ rfl rfl

noncomputable def OW:gE :=
 .loop (some (p8 false [0,2,5,2,10])) (p2 [p0 9 [.nc 8,.nc 7] (.bin .lss)] (.seq (.cond (.nc 9) .skip (.exit 0)) (.seq (.block 1 (p2 [p3 10 8,p1 5 10] (p2 [p3 11 1,p3 12 0,p3 13 5,q5 14 12 13 2,p0 15 [.Bs 14] (.zE (.str 2)),p0 16 [.nc 11,.nc 15] (.call 6)] (.cond (.nc 16) (p2 [p1 17 5,p1 4 17] .ret) .skip)))) (qF [qP 18 8 1,p1 8 18]))))
noncomputable def Yy:gE :=
 p2 [qd 4 0] (.seq (p2 [p3 6 0,qT 7 6,qd 8 0] (.block 0 OW)) (p2 [qd 4 (-1)] .ret))
theorem ady:ql Tryz.prog Pl 101=some (Yy,19,[.tmp 4]):=by kernel_rfl
def K4 (s:qk) (f:((Int×Int)→Option Bool)) (p_:Unit→Option Int):Nat→Int→Option Int
 | 0,_=>none
 | m+1,s1 =>
   if (decide (s1<(s.length:Int)))=true then
    qs (0≤s1∧s1<(s.length:Int)) <|
    (f (ix s s1)).bind fun aS =>
    if aS=true then
     some s1
    else
     K4 s f p_ m (w (s1+(1:Int)))
   else
    p_ ()
def OG (s:qk) (f:((Int×Int)→Option Bool)):Option Int :=
 K4 s f (fun _ =>
   some (-1:Int)) qi (0:Int)
theorem ahd {s:qk} {f:((Int×Int)→Option Bool)} {p_:Unit→Option Int} {s1:Int} {Hi:FuncId} {rz:List I} (Hw:HA rz) (Jd:∀ (q6:(Int×Int)) (r:Bool),f q6=some r→qx Hi ((.agg [(h0 q6.1),(h0 q6.2)])::rz) (B r)) {v:Int} {Q:Hr}   (jJ:qH [.tmp 4] Q (fun v=>(h0 v)) v) (rf:∀ (qf:List I),p_ ()=some v→ry 19 [] qf→Q (.exit 0) qf []) {T:List I} (b0:eZ (p8 false [0,2,5,2,10]) T=qa 19 [(0,(re s .shared)),(1,(.func Hi [] rz)),(7,(h0 (s.length:Int))),(8,(h0 s1))]) (h:K4 s f p_ qi s1=some v) :
  dQ Tryz.prog Pl 101 0 none OW T [] Q:=by
 unfold OW;refine wp_loop b0 ?_;refine .intro (fun m T H=>∃ (s1:Int),T=qa 19 [(0,(re s .shared)),(1,(.func Hi [] rz)),(7,(h0 (s.length:Int))),(8,(h0 s1))]∧H=[]∧K4 s f p_ m s1=some v) qi ⟨s1,rfl,rfl,h⟩ ?_;clear h b0;rintro m T H ⟨s1,rfl,rfl,h⟩;cases m
 ·exact rT h
 rename_i m;rw [K4.eq_2] at h;conv=>whnf
 refine bs h (fun gM h=>?_) fun gM h=>?_
 ·rw [gM];conv=>whnf
  refine qW h id fun gN h=>?_;rw [IZ p7 2 Kj s s1 gN];conv=>whnf
  obtain ⟨aS,qp,h⟩:=p' h;refine ⟨_,_,call6 (bs:=((.agg [(h0 (ix s s1).1),(h0 (ix s s1).2)])::rz)) (by simp only [sG,Hw.iD,Hw.cc];rfl) (by simp only [sG,Hw.iD];exact (p6 (HU (p6 rfl (p6 rfl rfl))) Hw.SI)) (Jd _ _ qp) rfl,?_⟩;conv=>whnf
  cases aS
  ·(conv=>whnf);replace h:=Ho rfl h;exact ⟨m,sE m,(w (s1+(1:Int))),rfl,rfl,h⟩
  ·(conv=>whnf);replace h:=Hp rfl h;exact qe h jJ rfl rfl
 ·rw [gM];conv=>whnf
  exact rf  _ h ⟨rfl,rfl⟩
theorem ahe {s:qk} {f:((Int×Int)→Option Bool)} {Hi:FuncId} {rz:List I} (Hw:HA rz) (Jd:∀ (q6:(Int×Int)) (r:Bool),f q6=some r→qx Hi ((.agg [(h0 q6.1),(h0 q6.2)])::rz) (B r)) {v:Int} (h:OG s f=some v):qx 101 [(.av (s.flatMap p7) s.length .shared),(.func Hi [] rz)] (h0 v):=by
 refine qK eG ady rfl rfl fun Q bp=>?_;have jJ:qH [.tmp 4] Q (fun v=>(h0 v)) v:=fun T H bE=>bp _ T H bE;unfold OG at h;unfold Yy;obtain ⟨HN,qD⟩:∃ c,OW=c:=⟨_,rfl⟩;rw [qD];conv=>whnf
 subst qD;refine ahd Hw Jd ?_ ?_ (by exact rfl) h
 ·exact fun T H bE=>jJ T H bE
 ·intro  qf h qA;obtain ⟨rD,rfl⟩:=qA.ex;conv=>whnf
  exact qe h jJ rfl rfl

noncomputable def Za:gE :=
 p2 [p0 4 [.cv (.bool false)] .mU] (p2 [p1 5 0,p1 6 1,p0 7 [.cv (.func 101 [] []),.nc 5,.nc 6] (.call 6),qw 8 7 0 .geq,p1 4 8] .ret)
theorem aea:ql Tryz.prog Tt 84=some (Za,9,[.tmp 4]):=by kernel_rfl
def Nl (s:qk) (f:((Int×Int)→Option Bool)):Option Bool :=
 (OG s f).bind fun aS =>
 some (decide ((0:Int)≤aS))
theorem aia {s:qk} {f:((Int×Int)→Option Bool)} {Hi:FuncId} {rz:List I} (Hw:HA rz) (Jd:∀ (q6:(Int×Int)) (r:Bool),f q6=some r→qx Hi ((.agg [(h0 q6.1),(h0 q6.2)])::rz) (B r)) {v:Bool} (h:Nl s f=some v):qx 84 [(.av (s.flatMap p7) s.length .shared),(.func Hi [] rz)] (B v):=by
 refine qK eG aea rfl rfl fun Q bp=>?_;have jJ:qH [.tmp 4] Q (fun v=>(B v)) v:=fun T H bE=>bp _ T H bE;unfold Nl at h;unfold Za;conv=>whnf
 obtain ⟨aS,gM,h⟩:=p' h;refine ⟨_,_,PG (cs:=[(re s .shared),(.func Hi [] rz)]) (bs:=[(re s .shared),(.func Hi [] rz)]) (Kf rfl (Kf (Hw.fn _ _) MD)) (by rfl) (by exact (p6 (Hy (fun _=>(p6 rfl (p6 rfl rfl))) _ _ _) (p6 (Hw.VI _) rfl))) (ahe Hw Jd gM) rfl,?_⟩;conv=>whnf
 exact qe h jJ rfl rfl

noncomputable def Pa:gE :=
 .cond (.nc 3) (p2 [qd 2 6] .ret) (p2 [p0 18 [.nc 1] (.yM 0),qg 19 18,p0 20 [.cv (.func 84 [] []),.nc 19,.cv (.func 51 [] [])] (.call 3),p1 21 20,cl 22 [.nc 1] 21 false (.yM 1),cl 23 [.Bs 22] 21 false (.yM 0),cl 24 [.Bs 23] 21 false (.zE .one),cl 25 [.nc 1] 21 false (.yM 1),cl 26 [.Bs 25] 21 false (.yM 1),cl 27 [.Bs 26] 21 false (.zE .one),⟨some 28,[.Bs 24,.Bs 27],some (21,false),none,.yB 2 1 [.int .i64 0] [0,1]⟩,⟨some 29,[.cv (.func 50 [] []),.cv (.int .i64 0),.cv (.int .i64 50),.nc 28],some (21,false),none,.call 3⟩,cl 30 [.Bs 29] 21 false (.un .not),p0 31 [.Bs 21,.cv (.bool true),.Bs 30] .pick,p1 32 31,cl 33 [.nc 1] 32 false (.yM 1),cl 34 [.Bs 33] 32 false (.yM 0),cl 35 [.Bs 34] 32 false (.zE .one),cl 36 [.Bs 1] 32 false (.yM 1),cl 37 [.Bs 36] 32 false (.yM 1),cl 38 [.Bs 37] 32 false (.zE .one),cl 39 [.Bs 35,.Bs 38] 32 false (.bin .gtr),p0 40 [.Bs 32,.cv (.bool true),.Bs 39] .pick,p1 17 40] (.cond (.nc 17) (p2 [qd 2 3] .ret) .skip))
noncomputable def Y4:gE :=
 p2 [p0 1 [.jq 0] .box,qd 2 0] (.seq (.block 0 (p2 [p0 4 [.nc 1] (.yM 0),qg 5 4,qT 6 5,p0 7 [.Bs 6] (.yB 1 1 [.int .i64 0] [0]),p0 8 [.cv (.func 50 [] []),.cv (.int .i64 3),.cv (.int .i64 7),.nc 7] (.call 3),p0 9 [.Bs 8] (.un .not),p1 10 9,cl 11 [.nc 1] 10 false (.yM 0),cl 12 [.Bs 11] 10 false (.zE .one),cl 13 [.jq 12] 10 false .zJ,cl 14 [.Bs 13,.cv (.int .i64 2)] 10 false (.bin .rem),cl 15 [.Bs 14,.cv (.int .i64 0)] 10 false (.bin .eql),p0 16 [.Bs 10,.cv (.bool true),.Bs 15] .pick,p1 3 16] Pa)) (p2 [qd 2 0] .ret))
theorem ad3:ql Tryz.prog Px 66=some (Y4,41,[.tmp 2]):=by kernel_rfl
def Me (p:(qk×(Int×Int))) (NR:Unit→Option Int) (dD:Bool):Option Int :=
 if dD=true then
  some (6:Int)
 else
  (Nl p.1 (fun q6=>Kw q6)).bind fun bj =>
  if bj=true then
   some (3:Int)
  else
   (ID (0:Int) (50:Int) [p.2.1,p.2.2]).bind fun eK =>
   if eK=true then
    if (decide (p.2.2<p.2.1))=true then
     some (3:Int)
    else
     NR ()
   else
    some (3:Int)
def Ni (p:(qk×(Int×Int))):Option Int :=
 (ID (3:Int) (7:Int) [(p.1.length:Int)]).bind fun aS =>
 if aS=true then
  qs ((2:Int)≠0) <|
  Me p (fun _ =>
    some (0:Int)) (decide (((p.1.length:Int).tmod (2:Int))=(0:Int)))
 else
  Me p (fun _ =>
    some (0:Int)) true
theorem Yr {p:(qk×(Int×Int))} {NR:Unit→Option Int} {dD:Bool} {v:Int} {Q:Hr}  {qf:List I}  (jJ:qH [.tmp 2] Q (fun v=>(h0 v)) v) (ack:∀ (bx:ar) (qf:List I),NR ()=some v→ry 41 [] qf→Q .normal qf [bx]) (qA:ry 41 [(1,(.ptr 0 0)),(3,(B dD))] qf) (h:Me p NR dD=some v) :
  dQ Tryz.prog Px 66 0 none Pa qf [ar.cells [(re p.1 .shared),(h0 p.2.1),(h0 p.2.2)]] Q:=by
 obtain ⟨rD,rfl⟩:=qA.ex;unfold Me at h;unfold Pa;conv=>whnf
 cases dD
 ·conv=>whnf
  replace h:=Ho rfl h;obtain ⟨bj,qp,h⟩:=p' h;refine ⟨(p6 (Hy (fun _=>(p6 rfl (p6 rfl rfl))) _ _ _) (p6 (IP rfl rfl) rfl)),_,aia ⟨rfl,by simp⟩ (fun _ _ aY=>Ye aY) qp,?_⟩;conv=>whnf
  cases bj
  ·(conv=>whnf);replace h:=Ho rfl h;obtain ⟨eK,qI,h⟩:=p' h;refine ⟨(p6 rfl (p6 rfl (p6 rfl rfl))),_,Kv qI,?_⟩;(conv=>whnf);cases eK
   ·(conv=>whnf);replace h:=Ho rfl h;exact qe h jJ rfl rfl
   ·(conv=>whnf);replace h:=Hp rfl h;refine bs h (fun q9 h=>?_) fun q9 h=>?_
    ·rw [q9];(conv=>whnf);exact qe h jJ rfl rfl
    ·rw [q9];(conv=>whnf);exact ack _ _ h ⟨rfl,rfl⟩
  ·(conv=>whnf);replace h:=Hp rfl h;exact qe h jJ rfl rfl
 ·conv=>whnf
  replace h:=Hp rfl h;exact qe h jJ rfl rfl
theorem Nj {p:(qk×(Int×Int))} {v:Int} (h:Ni p=some v):qx 66 [(.agg [(.av (p.1.flatMap p7) p.1.length .shared),(h0 p.2.1),(h0 p.2.2)])] (h0 v):=by
 refine qK eG ad3 rfl rfl fun Q bp=>?_;have jJ:qH [.tmp 2] Q (fun v=>(h0 v)) v:=fun T H bE=>bp _ T H bE;unfold Ni at h;unfold Y4;obtain ⟨HN,qD⟩:∃ c,Pa=c:=⟨_,rfl⟩;rw [qD];conv=>whnf
 obtain ⟨aS,gM,h⟩:=p' h;refine ⟨(p6 rfl (p6 rfl (p6 rfl rfl))),_,Kv gM,?_⟩;conv=>whnf
 cases aS
 ·conv=>whnf
  replace h:=Ho rfl h;subst qD;refine Yr ?_ ?_ (by exact ⟨rfl,rfl⟩) h
  ·exact fun T H bE=>jJ T H bE
  ·intro bx qf h qA;obtain ⟨rD,rfl⟩:=qA.ex;(conv=>whnf);exact qe h jJ rfl rfl
 ·conv=>whnf
  replace h:=Hp rfl h;refine qW h id fun gN h=>?_;conv=>whnf
  subst qD;refine Yr ?_ ?_ (by exact ⟨rfl,rfl⟩) h
  ·exact fun T H bE=>jJ T H bE
  ·intro bx qf h qA;obtain ⟨rD,rfl⟩:=qA.ex;(conv=>whnf);exact qe h jJ rfl rfl

noncomputable def Y5:gE :=
 p2 [p0 1 [.jq 0] .box,p0 2 [.cv .a0] .mU] (p2 [p0 3 [.Bs 1] (.zY 87 0 1),p1 2 3] .ret)
theorem ad4:ql Tryz.prog Tl 68=some (Y5,4,[.tmp 2]):=by kernel_rfl
def OS (s:p9):Option Unit :=
 some ()
theorem Sm {s:p9} {v:Unit} (h:OS s=some v):qx 68 [(.av (s.map h0) s.length .shared)] (.func 87 [] [(.bS [(.av (s.map h0) s.length .shared)])]):=by
 refine qK eG ad4 rfl (IP rfl (p6 (Ig (p6 (rC (fun _=>rfl) _ _ _) rfl)) rfl)) fun Q bp=>?_;have jJ:qH [.tmp 2] Q (fun v=>(.func 87 [] [(.bS [(qG s .shared)])])) v:=fun T H bE=>bp _ T H bE;unfold OS at h;unfold Y5;conv=>whnf
 exact jJ _ _ ⟨.inr rfl,_,rfl,_,(T4 IB (rv (T6 (l:=[(qG s .shared)]) (by first | exact qQ.h | rfl | (simp [sq,I.settle];done)) (p6 (rC (fun _=>rfl) _ _ _) rfl)) IB)),rfl⟩

def Mi (x:((qk×(Int×Int))×Unit)):List I:=[(re x.1.1 .shared),(h0 x.1.2.1),(h0 x.1.2.2),Hk]
instance {d:Nat} {x:((qk×(Int×Int))×Unit)}:qj (d+2) (Mi x):=⟨(inferInstance:qj (d+2) [(re x.1.1 .shared),(h0 x.1.2.1),(h0 x.1.2.2),Hk]).pl⟩
noncomputable def JH:gE :=
 .loop (some (p8 false [2,1,5,1,8,3,6,3,19])) (p2 [p0 29 [.nc 28,.nc 27] (.bin .lss)] (.seq (.cond (.nc 29) .skip (.exit 2)) (.seq (.block 3 (p2 [p3 30 28,p0 31 [.nc 26,.nc 28] (.kY 1),qg 32 31,p1 10 30,p1 11 32] (p2 [p1 33 11,p1 34 10,qm 35 33 34 .neq] (.cond (.nc 35) (p2 [p0 4 [.cv .eI] .mU,qd 5 16] .ret) .skip)))) (qF [qP 36 28 1,p1 28 36]))))
noncomputable def I8:gE :=
 .loop (some (p8 false [2,1,14,3,28])) (p2 [p0 20 [.nc 19,.nc 18] (.bin .lss)] (.seq (.cond (.nc 20) .skip (.exit 0)) (.seq (.block 1 (p2 [p0 21 [.nc 17,.nc 19] (.kY 1),qg 22 21,p1 8 22] (p2 [p3 23 8,p0 24 [.cv (.func 68 [] []),.nc 23] (.call 3),p0 25 [.cv (.func 67 [] []),.nc 24] (.call 3),p1 9 25] (.seq (p2 [p1 26 9,p0 27 [.nc 26] .zJ,qd 28 0] (.block 2 JH)) (p2 [p1 37 8,qT 38 37,p0 39 [.nc 2] (.yM 0),qg 40 39,qT 41 40,qm 42 38 41 .neq] (.cond (.nc 42) (p2 [p0 4 [.cv .eI] .mU,qd 5 16] .ret) .skip)))))) (qF [qP 43 19 1,p1 19 43]))))
noncomputable def Mh:gE :=
 p2 [p0 2 [.jq 0] .box,p0 4 [.cv .eI] .mU,qd 5 0] (.seq (p2 [p0 12 [.nc 2] (.zE (.str 3)),p0 13 [.cv (.func 66 [] []),.nc 12] (.call 3),p1 6 13] (p2 [p3 14 6,qw 15 14 0 .neq] (.cond (.nc 15) (p2 [p1 16 6,p0 4 [.cv .eI] .mU,p1 5 16] .ret) .skip))) (.seq (p2 [p1 17 1,p0 18 [.nc 17] .zJ,qd 19 0] (.block 0 I8)) (p2 [p0 44 [.Bs 2] (.zE (.str 3)),p0 45 [] .zZ,p0 46 [.Bs 44,.Bs 45] (.build [.av [] 0 .full,.int .i64 0,.int .i64 0,.a0] [(0,3),(3,1)]),p0 47 [.jq 46] .box,p1 4 47,qd 5 0] .ret)))
theorem MC:ql Tryz.prog J9 40=some (Mh,48,[.tmp 4,.tmp 5]):=by kernel_rfl
def Ir (eK:p9) (ri:Unit→Option ((Option ((qk×(Int×Int))×Unit))×Int)):Nat→Int→Option ((Option ((qk×(Int×Int))×Unit))×Int)
 | 0,_=>none
 | m+1,s2 =>
   if (decide (s2<(eK.length:Int)))=true then
    qs (0≤s2∧s2<(eK.length:Int)) <|
    if (decide ((ix eK s2)≠s2))=true then
     some (none,(16:Int))
    else
     Ir eK ri m (w (s2+(1:Int)))
   else
    ri ()
def Hz (p:(qk×(Int×Int))) (qc:KB) (p_:Unit→Option ((Option ((qk×(Int×Int))×Unit))×Int)):Nat→Int→Option ((Option ((qk×(Int×Int))×Unit))×Int)
 | 0,_=>none
 | m+1,s1 =>
   if (decide (s1<(qc.length:Int)))=true then
    qs (0≤s1∧s1<(qc.length:Int)) <|
    (OS (ix qc s1)).bind fun bj =>
    (OQ (ix qc s1)).bind fun eK =>
    Ir eK (fun _ =>
      if (decide (((ix qc s1).length:Int)≠(p.1.length:Int)))=true then
       some (none,(16:Int))
      else
       Hz p qc p_ m (w (s1+(1:Int)))) qi (0:Int)
   else
    p_ ()
def rI (p:(qk×(Int×Int))) (qc:KB):Option ((Option ((qk×(Int×Int))×Unit))×Int) :=
 (Ni p).bind fun aS =>
 if (decide (aS≠(0:Int)))=true then
  some (none,aS)
 else
  Hz p qc (fun _ =>
    some ((some (p,())),(0:Int))) qi (0:Int)
theorem ahJ {eK:p9} {ri:Unit→Option ((Option ((qk×(Int×Int))×Unit))×Int)} {s2:Int} {p:(qk×(Int×Int))} {qc:KB} {s1:Int} {v:((Option ((qk×(Int×Int))×Unit))×Int)} {Q:Hr}   (jJ:qH [.tmp 4,.tmp 5] Q (fun v=>(.tuple [(LH Mi v.1),(h0 v.2)])) v) (JO:∀ (qf:List I),ri ()=some v→ry 48 [(2,(.ptr 0 0)),(8,(qG (ix qc s1) .shared)),(17,(.av (qc.map oX) qc.length .shared)),(18,(h0 (qc.length:Int))),(19,(h0 s1))] qf→Q (.exit 2) qf [ar.cells [(re p.1 .shared),(h0 p.2.1),(h0 p.2.2)]]) {T:List I} (b0:eZ (p8 false [2,1,5,1,8,3,6,3,19]) T=qa 48 [(2,(.ptr 0 0)),(8,(qG (ix qc s1) .shared)),(17,(.av (qc.map oX) qc.length .shared)),(18,(h0 (qc.length:Int))),(19,(h0 s1)),(26,(qG eK .shared)),(27,(h0 (eK.length:Int))),(28,(h0 s2))]) (h:Ir eK ri qi s2=some v) :
  dQ Tryz.prog J9 40 0 none JH T [ar.cells [(re p.1 .shared),(h0 p.2.1),(h0 p.2.2)]] Q:=by
 unfold JH;refine wp_loop b0 ?_;refine .intro (fun m T H=>∃ (s2:Int),T=qa 48 [(2,(.ptr 0 0)),(8,(qG (ix qc s1) .shared)),(17,(.av (qc.map oX) qc.length .shared)),(18,(h0 (qc.length:Int))),(19,(h0 s1)),(26,(qG eK .shared)),(27,(h0 (eK.length:Int))),(28,(h0 s2))]∧H=[ar.cells [(re p.1 .shared),(h0 p.2.1),(h0 p.2.2)]]∧Ir eK ri m s2=some v) qi ⟨s2,rfl,rfl,h⟩ ?_;clear h b0;rintro m T H ⟨s2,rfl,rfl,h⟩;cases m
 ·exact rT h
 rename_i m;rw [Ir.eq_2] at h;conv=>whnf
 refine bs h (fun qU h=>?_) fun qU h=>?_
 ·rw [qU];conv=>whnf
  refine qW h id fun rN h=>?_;rw [rb h0 eK s2 rN];conv=>whnf
  refine bs h (fun rE h=>?_) fun rE h=>?_
  ·rw [rE];(conv=>whnf);exact qe h jJ rfl rfl
  ·rw [rE];(conv=>whnf);exact ⟨m,sE m,(w (s2+(1:Int))),rfl,rfl,h⟩
 ·rw [qU];conv=>whnf
  exact JO  _ h ⟨rfl,rfl⟩
theorem ahI {p:(qk×(Int×Int))} {qc:KB} {p_:Unit→Option ((Option ((qk×(Int×Int))×Unit))×Int)} {s1:Int} {v:((Option ((qk×(Int×Int))×Unit))×Int)} {Q:Hr}   (jJ:qH [.tmp 4,.tmp 5] Q (fun v=>(.tuple [(LH Mi v.1),(h0 v.2)])) v) (rf:∀ (qf:List I),p_ ()=some v→ry 48 [(2,(.ptr 0 0))] qf→Q (.exit 0) qf [ar.cells [(re p.1 .shared),(h0 p.2.1),(h0 p.2.2)]]) {T:List I} (b0:eZ (p8 false [2,1,14,3,28]) T=qa 48 [(2,(.ptr 0 0)),(17,(.av (qc.map oX) qc.length .shared)),(18,(h0 (qc.length:Int))),(19,(h0 s1))]) (h:Hz p qc p_ qi s1=some v) :
  dQ Tryz.prog J9 40 0 none I8 T [ar.cells [(re p.1 .shared),(h0 p.2.1),(h0 p.2.2)]] Q:=by
 unfold I8;obtain ⟨HN,qD⟩:∃ c,JH=c:=⟨_,rfl⟩;rw [qD];refine wp_loop b0 ?_;refine .intro (fun m T H=>∃ (s1:Int),T=qa 48 [(2,(.ptr 0 0)),(17,(.av (qc.map oX) qc.length .shared)),(18,(h0 (qc.length:Int))),(19,(h0 s1))]∧H=[ar.cells [(re p.1 .shared),(h0 p.2.1),(h0 p.2.2)]]∧Hz p qc p_ m s1=some v) qi ⟨s1,rfl,rfl,h⟩ ?_;clear h b0;rintro m T H ⟨s1,rfl,rfl,h⟩;cases m
 ·exact rT h
 rename_i m;rw [Hz.eq_2] at h;conv=>whnf
 refine bs h (fun qp h=>?_) fun qp h=>?_
 ·rw [qp];conv=>whnf
  refine qW h id fun qI h=>?_;rw [rb oX qc s1 qI];conv=>whnf
  obtain ⟨bj,q9,h⟩:=p' h;refine ⟨qj.pl,_,Sm q9,?_⟩;conv=>whnf
  obtain ⟨eK,rH,h⟩:=p' h;refine ⟨(p6 (IP rfl (p6 (Ig (p6 (rC (fun _=>rfl) _ _ _) rfl)) rfl)) rfl),_,Sl  rH,?_⟩;conv=>whnf
  subst qD;refine ahJ ?_ ?_ (by exact rfl) h
  ·exact fun T H bE=>jJ T H bE
  ·intro  qf h qA;obtain ⟨rD,rfl⟩:=qA.ex;(conv=>whnf);refine bs h (fun Hv h=>?_) fun Hv h=>?_
   ·rw [Hv];(conv=>whnf);exact qe h jJ rfl rfl
   ·rw [Hv];(conv=>whnf);exact ⟨m,sE m,(w (s1+(1:Int))),rfl,rfl,h⟩
 ·rw [qp];conv=>whnf
  exact rf  _ h ⟨rfl,rfl⟩
theorem Mb {p:(qk×(Int×Int))} {qc:KB} {v:((Option ((qk×(Int×Int))×Unit))×Int)} (h:rI p qc=some v):qx 40 [(.agg [(.av (p.1.flatMap p7) p.1.length .shared),(h0 p.2.1),(h0 p.2.2)]),(.av (qc.map oX) qc.length .shared)] (.tuple [(LH Mi v.1),(h0 v.2)]):=by
 refine qK eG MC rfl (I4 (p6 (VL (fun _=>(p6 (Hy (fun _=>(p6 rfl (p6 rfl rfl))) _ _ _) (p6 rfl (p6 rfl (p6 rfl rfl))))) _) (p6 rfl rfl))) fun Q bp=>?_;have jJ:qH [.tmp 4,.tmp 5] Q (fun v=>(.tuple [(LH Mi v.1),(h0 v.2)])) v:=fun T H bE=>bp _ T H bE;unfold rI at h;unfold Mh;obtain ⟨KG,rQ⟩:∃ c,I8=c:=⟨_,rfl⟩;rw [rQ];conv=>whnf
 obtain ⟨aS,gM,h⟩:=p' h;refine ⟨qj.pl,_,Nj gM,?_⟩;conv=>whnf
 refine bs h (fun gN h=>?_) fun gN h=>?_
 ·rw [gN];conv=>whnf
  exact qe h jJ rfl rfl
 ·rw [gN];conv=>whnf
  subst rQ;refine ahI ?_ ?_ (by exact rfl) h
  ·exact fun T H bE=>jJ T H bE
  ·intro  qf h qA;obtain ⟨rD,rfl⟩:=qA.ex;(conv=>whnf);obtain rfl:=Option.some.inj h;exact jJ _ _ ⟨.inr rfl,_,rfl,_,(Mq (rv (abf (l:=[(re p.1 .shared),(h0 p.2.1),(h0 p.2.2),(.map 1)]) (by first | exact qQ.h | rfl | (simp [sq,I.settle];done)) (rv (yW (Hy (fun _=>(p6 rfl (p6 rfl rfl))) _ _ _)) (rv (yW rfl) (rv (yW rfl) (rv (T5 (by simp) (by simp)) IB))))) (rv (yW rfl) IB))),rfl⟩
end Go.Proofs.YtkoioidpbbbaiaaGreat.Ab


namespace Go.Proofs.YtkoioidpbbbaiaaGreat.Ab
open Go
section
variable {P:Program}
theorem call9 {k:FuncId} {xs bs:List I} {H:List ar} {lo:Nat} {v:I} (af:(xs.map I.gw).map I.cc=bs) (aB:(xs.map I.gw).all (cr 8)=true) (h:nn P k bs v):oV P 9 lo (.fn k) xs H v.cc H:=by
 subst af;refine ⟨_,EB h.1,?_⟩;simp only [eQ,aB,EA,sb,yW h.2,se]
theorem af9 {k:FuncId} {args:List I} {H H':List ar} {lo:Nat} {r:I} (h:Sem P (.fn k) (args.map I.gw) H lo r H'):Sem P (.fn k) args H lo r H':=by
 obtain ⟨aQ,ab,ae⟩:=h;exact ⟨aQ,ab,fun B aa J S w vs ag aI ad=>ae B aa J S w vs ag aI ad.gw⟩
theorem aat {k:FuncId} {args:List I} {es:List (Nat×I×I)} {clock:Nat} {D:List ar} (cu:(args.map I.gw).all (cr 8)=true) (Jc:∀ (j i:Nat) (k v:I),es[j]?=some (i,k,v)→cr 8 k=true∧cr 8 v=true)
  (h:Sem P (.fn k) (args.map I.gw) [] 0 (.map 0) (.map es clock::D)) (H:List ar) (lo:Nat):oV P 2 lo (.fn k) args H (.map H.length) (H++[.map es clock]):=by
 refine ⟨_,EB (af9 (af7 cu Jc h H)),?_⟩;have e1:Co H.length (.map H.length)=some H.length:=by simp [Co,yU]
 have b':(H++[ar.map es clock])[H.length]?=some (.map es clock):=by simp
 have dA:bM (H++[ar.map es clock]) H.length H.length H.length 8 (.map H.length)=some (.map H.length):=by simp [bM]
 have gb:DM 2 H.length (H++[ar.map es clock]) (.map H.length)=some H.length:=e1;simp only [eQ,EA,sb,gb,b',dA,sc,if_true,Vi fun j i k v aw=>⟨yW (Jc j i k v aw).1,yW (Jc j i k v aw).2⟩]
def I.K0:I→I
 | .av c n (.own _)=>.av c n .shared
 | v=>v
variable {J:List Nat} {S:Nat→Nat→Prop} {w:World} {aa:Nat→Option aH}
theorem afR {u:I} {v:Value} (h:Rel J S w u v):Rel J S w u.K0 v:=by
 unfold I.K0;split
 ·rename_i c n z;exact h.view rfl
 ·exact h
theorem aey {l:aH} {u:I} {v:Value} (h:aU aa J S w l u v):aU aa J S w l u.K0 v:=by
 unfold I.K0;split
 ·exact aU.b4 rfl
 ·exact h
theorem agR {bA:Nat→aH} {T:List I} {bc:List Value} (h:a5 bA aa J S w T bc):a5 bA aa J S w (T.map I.K0) bc :=
 ⟨by simpa using h.len,fun i u v hu ad=>by
  rw [sk] at hu;simp only [r_] at hu;obtain ⟨x,aj,rfl⟩:=hu;exact afR (h.rel i x v aj ad),fun i u v hu ad=>by
  rw [sk] at hu;simp only [r_] at hu
  obtain ⟨x,aj,rfl⟩:=hu;exact aey (h.own i x v aj ad)⟩
theorem af8 {k:FuncId} {args:List I} {H H':List ar} {lo:Nat} {r:I} (h:Sem P (.fn k) (args.map I.K0) H lo r H'):Sem P (.fn k) args H lo r H':=by
 obtain ⟨aQ,ab,ae⟩:=h;exact ⟨aQ,ab,fun B aa J S w vs ag aI ad=>ae B aa J S w vs ag aI (agR ad)⟩
theorem aeN {k:FuncId} {args:List I} {v:I} (h:nn P k (args.map I.K0) v):nn P k args v:=⟨af8 h.1,h.2⟩
end
end Go.Proofs.YtkoioidpbbbaiaaGreat.Ab


namespace Go.Proofs.YtkoioidpbbbaiaaGreat.Ab
open Go
set_option maxRecDepth 20000
set_option maxHeartbeats 4000000
abbrev qb:=(List (Int×Int))×(Int×Int)
abbrev rF (p:qb):ar:=ar.cells [(.av (p.1.flatMap p7) p.1.length .shared),(h0 p.2.1),(h0 p.2.2)]
abbrev Ln (p:qb) (qc:List (List Int)):List I:=[(.agg [(.av (p.1.flatMap p7) p.1.length .shared),(h0 p.2.1),(h0 p.2.2)]),(.av (qc.map oX) qc.length .shared)]
theorem ahK {eK:(List Int)} {ri:Unit→Option ((Option (((List (Int×Int))×(Int×Int))×Unit))×Int)} {s2:Int} {p:((List (Int×Int))×(Int×Int))} {qc:(List (List Int))} {s1:Int} {v:((Option (((List (Int×Int))×(Int×Int))×Unit))×Int)} {Q:cQ→List I→List ar→Prop}   (jJ:∀ (e:Int) (T:List I),v=(none,e)→rK [rF p] T [.tmp 4,.tmp 5]=some [.eI,h0 e]→Q .ret T [rF p]) (JO:∀ (qf:List I),ri ()=some v→ry 48 [(2,(.ptr 0 0)),(8,(.av ((ix qc s1).map h0) (ix qc s1).length .shared)),(17,(.av (qc.map oX) qc.length .shared)),(18,(h0 (qc.length:Int))),(19,(h0 s1))] qf→Q (.exit 2) qf [ar.cells [(.av (p.1.flatMap p7) p.1.length .shared),(h0 p.2.1),(h0 p.2.2)]]) {T:List I} (b0:eZ [false,false,true,false,false,false,false,false,true,false,false,false,false,false,false,false,false,true,true,true,false,false,false,false,false,false,true,true,true,false,false,false,false,false,false,false,false,false,false,false,false,false,false,false,false,false,false,false] T=qa 48 [(2,(.ptr 0 0)),(8,(.av ((ix qc s1).map h0) (ix qc s1).length .shared)),(17,(.av (qc.map oX) qc.length .shared)),(18,(h0 (qc.length:Int))),(19,(h0 s1)),(26,(.av (eK.map h0) eK.length .shared)),(27,(h0 (eK.length:Int))),(28,(h0 s2))]) (h:Ir eK ri qi s2=some v) :
  dQ Tryz.prog J9 40 0 none JH T [ar.cells [(.av (p.1.flatMap p7) p.1.length .shared),(h0 p.2.1),(h0 p.2.2)]] Q:=by
 unfold JH;skip;refine wp_loop b0 ?_;refine .intro (fun m T H=>∃ (s2:Int),T=qa 48 [(2,(.ptr 0 0)),(8,(.av ((ix qc s1).map h0) (ix qc s1).length .shared)),(17,(.av (qc.map oX) qc.length .shared)),(18,(h0 (qc.length:Int))),(19,(h0 s1)),(26,(.av (eK.map h0) eK.length .shared)),(27,(h0 (eK.length:Int))),(28,(h0 s2))]∧H=[ar.cells [(.av (p.1.flatMap p7) p.1.length .shared),(h0 p.2.1),(h0 p.2.2)]]∧Ir eK ri m s2=some v) qi ⟨s2,rfl,rfl,h⟩ ?_;clear h b0;rintro m T H ⟨s2,rfl,rfl,h⟩;cases m
 ·exact rT h
 rename_i m;rw [Ir.eq_2] at h;conv=>whnf
 refine bs h (fun qU h=>?_) fun qU h=>?_
 ·rw [qU];conv=>whnf
  refine qW h id fun rN h=>?_;rw [rb h0 eK s2 rN];conv=>whnf
  refine bs h (fun rE h=>?_) fun rE h=>?_
  ·rw [rE];(conv=>whnf);obtain rfl:=Option.some.inj h;exact jJ _ _ rfl rfl
  ·rw [rE];(conv=>whnf);exact ⟨m,sE m,(w (s2+(1:Int))),rfl,rfl,h⟩
 ·rw [qU];conv=>whnf
  exact JO  _ h ⟨rfl,rfl⟩
theorem X_ {p:((List (Int×Int))×(Int×Int))} {qc:(List (List Int))} {p_:Unit→Option ((Option (((List (Int×Int))×(Int×Int))×Unit))×Int)} {s1:Int} {v:((Option (((List (Int×Int))×(Int×Int))×Unit))×Int)} {Q:cQ→List I→List ar→Prop}   (jJ:∀ (e:Int) (T:List I),v=(none,e)→rK [rF p] T [.tmp 4,.tmp 5]=some [.eI,h0 e]→Q .ret T [rF p]) (rf:∀ (qf:List I),p_ ()=some v→ry 48 [(2,(.ptr 0 0))] qf→Q (.exit 0) qf [ar.cells [(.av (p.1.flatMap p7) p.1.length .shared),(h0 p.2.1),(h0 p.2.2)]]) {T:List I} (b0:eZ [false,false,true,false,false,false,false,false,false,false,false,false,false,false,false,false,false,true,true,true,false,false,false,false,false,false,false,false,false,false,false,false,false,false,false,false,false,false,false,false,false,false,false,false,false,false,false,false] T=qa 48 [(2,(.ptr 0 0)),(17,(.av (qc.map oX) qc.length .shared)),(18,(h0 (qc.length:Int))),(19,(h0 s1))]) (h:Hz p qc p_ qi s1=some v) :
  dQ Tryz.prog J9 40 0 none I8 T [ar.cells [(.av (p.1.flatMap p7) p.1.length .shared),(h0 p.2.1),(h0 p.2.2)]] Q:=by
 unfold I8;obtain ⟨HN,qD⟩:∃ c,JH=c:=⟨_,rfl⟩;rw [qD];refine wp_loop b0 ?_;refine .intro (fun m T H=>∃ (s1:Int),T=qa 48 [(2,(.ptr 0 0)),(17,(.av (qc.map oX) qc.length .shared)),(18,(h0 (qc.length:Int))),(19,(h0 s1))]∧H=[ar.cells [(.av (p.1.flatMap p7) p.1.length .shared),(h0 p.2.1),(h0 p.2.2)]]∧Hz p qc p_ m s1=some v) qi ⟨s1,rfl,rfl,h⟩ ?_;clear h b0;rintro m T H ⟨s1,rfl,rfl,h⟩;cases m
 ·exact rT h
 rename_i m;rw [Hz.eq_2] at h;conv=>whnf
 refine bs h (fun qp h=>?_) fun qp h=>?_
 ·rw [qp];conv=>whnf
  refine qW h id fun qI h=>?_;rw [rb oX qc s1 qI];conv=>whnf
  obtain ⟨bj,q9,h⟩:=p' h;refine ⟨qj.pl,_,Sm q9,?_⟩;conv=>whnf
  obtain ⟨eK,rH,h⟩:=p' h;refine ⟨(p6 (IP rfl (p6 (Ig (p6 (rC (fun _=>rfl) _ _ _) rfl)) rfl)) rfl),_,Sl  rH,?_⟩;conv=>whnf
  subst qD;refine ahK ?_ ?_ (by exact rfl) h
  ·exact fun e T bE ai=>jJ e T bE ai
  ·intro  qf h qA;obtain ⟨rD,rfl⟩:=qA.ex;(conv=>whnf);refine bs h (fun Hv h=>?_) fun Hv h=>?_
   ·rw [Hv];(conv=>whnf);obtain rfl:=Option.some.inj h;exact jJ _ _ rfl rfl
   ·rw [Hv];(conv=>whnf);exact ⟨m,sE m,(w (s1+(1:Int))),rfl,rfl,h⟩
 ·rw [qp];conv=>whnf
  exact rf  _ h ⟨rfl,rfl⟩
theorem UT {eK:List Int} {K:Unit→Option (Option (qb×Unit)×Int)} {t:qb×Unit} {e:Int}:∀ {m:Nat} {s:Int},Ir eK K m s=some (some t,e)→K ()=some (some t,e)
 | 0,s,h=>by cases h
 | m+1,s,h=>by
   rw [Ir.eq_2] at h;split at h
   ·obtain ⟨_,h⟩:=rM h;split at h
    ·cases h
    ·exact UT h
   ·exact h
theorem US {p:qb} {qc:List (List Int)} {K:Unit→Option (Option (qb×Unit)×Int)} {t:qb×Unit} {e:Int}:∀ {m:Nat} {s:Int},Hz p qc K m s=some (some t,e)→K ()=some (some t,e)
 | 0,s,h=>by cases h
 | m+1,s,h=>by
   rw [Hz.eq_2] at h;split at h
   ·obtain ⟨_,h⟩:=rM h;obtain ⟨bj,_,h⟩:=p' h;obtain ⟨eK,_,h⟩:=p' h;have h:=UT h;split at h
    ·cases h
    ·exact US h
   ·exact h
theorem UR {p:qb} {qc:List (List Int)} {t:qb×Unit} {e:Int} (h:Hz p qc (fun _=>some (some (p,()),0)) qi 0=some (some t,e)):t=(p,())∧e=0:=by
 have h:=US h;obtain ⟨ab,ae⟩:=Prod.mk.inj (Option.some.inj h);exact ⟨(Option.some.inj ab).symm,ae.symm⟩
theorem X9 {p:qb} {qc:List (List Int)} {e:Int} (h:rI p qc=some (none,e)):Sem Tryz.prog (.fn 40) (Ln p qc) [] 0 (.tuple [.eI,h0 e]) [rF p]:=by
 refine rn eG MC rfl (IA (sC _)) fun Q bp=>?_;have jJ:∀ (cV:Int) (T:List I),((none,e):Option (qb×Unit)×Int)=(none,cV)→rK [rF p] T [.tmp 4,.tmp 5]=some [.eI,h0 cV]→Q .ret T [rF p]:=fun cV T he ai=>by
  obtain rfl:=(Prod.mk.inj he).2;exact bp _ _ _ ⟨.inr rfl,lI.refl _,by rw [ai];rfl⟩
 unfold rI at h;unfold Mh;obtain ⟨KG,rQ⟩:∃ c,I8=c:=⟨_,rfl⟩;rw [rQ];conv=>whnf
 obtain ⟨aS,gM,h⟩:=p' h;refine ⟨qj.pl,_,Nj gM,?_⟩;conv=>whnf
 refine bs h (fun gN h=>?_) fun gN h=>?_
 ·rw [gN];conv=>whnf
  obtain rfl:aS=e:=(Prod.mk.inj (Option.some.inj h)).2;exact jJ _ _ rfl rfl
 ·rw [gN];conv=>whnf
  subst rQ;refine X_ ?_ ?_ (by exact rfl) h
  ·exact fun e T bE ai=>jJ e T bE ai
  ·intro  qf h qA;exact absurd (Prod.mk.inj (Option.some.inj h)).1 (by simp)
theorem M9 {p:qb} {qc:List (List Int)} {t:qb×Unit} {e:Int} (h:rI p qc=some (some t,e)):t=(p,())∧e=0∧Sem Tryz.prog (.fn 40) (Ln p qc) [] 0 (.tuple [.ptr 2 0,h0 0]) [rF p,.map [] 0,.cells [(.av (p.1.flatMap p7) p.1.length .shared),(h0 p.2.1),(h0 p.2.2),.map 1]]:=by
 have ad:t=(p,())∧e=0:=by
  have aX:=h;unfold rI at aX;obtain ⟨aS,gM,aX⟩:=p' aX;split at aX
  ·cases aX
  ·exact UR aX
 obtain ⟨rfl,rfl⟩:=ad;refine ⟨rfl,rfl,?_⟩;refine rn eG MC rfl (IA (sC _)) fun Q bp=>?_;unfold rI at h;unfold Mh;obtain ⟨KG,rQ⟩:∃ c,I8=c:=⟨_,rfl⟩;rw [rQ];conv=>whnf
 obtain ⟨aS,gM,h⟩:=p' h;refine ⟨qj.pl,_,Nj gM,?_⟩;conv=>whnf
 refine bs h (fun gN h=>?_) fun gN h=>?_
 ·exact absurd (Prod.mk.inj (Option.some.inj h)).1 (by simp)
 ·rw [gN];conv=>whnf
  subst rQ;refine X_ ?_ ?_ (by exact rfl) h
  ·exact fun e T bE ai=>absurd (Prod.mk.inj bE).1 (by simp)
  ·intro  qf h qA;obtain ⟨rD,rfl⟩:=qA.ex;(conv=>whnf);exact bp _ _ _ ⟨.inr rfl,lI.refl _,rfl⟩
section
variable {p:qb} {qc:List (List Int)}
theorem aav {e:Int} {lo:Nat} (h:rI p qc=some (none,e)):oV Tryz.prog 2 lo (.fn 40) (Ln p qc) [] (.tuple [.eI,h0 e]) [] :=
 ⟨_,EB (X9 h),by
  show (k9 _ _ _ _ _ _ (.fn 40) (Ln p qc) [] 0).bind _=_
  rw [EA];rfl⟩
theorem aau {t:qb×Unit} {e:Int} {lo:Nat} (h:rI p qc=some (some t,e)):oV Tryz.prog 2 lo (.fn 40) (Ln p qc) [] (.tuple [.ptr 0 0,h0 0]) [.cells [(.av (p.1.flatMap p7) p.1.length .shared),(h0 p.2.1),(h0 p.2.2),Hk]] :=
 ⟨_,EB (M9 h).2.2,by
  show (k9 _ _ _ _ _ _ (.fn 40) (Ln p qc) [] 0).bind _=_;rw [EA];have e1:ea (bM [rF p,.map [] 0,.cells [(.av (p.1.flatMap p7) p.1.length .shared),(h0 p.2.1),(h0 p.2.2),.map 1]] 0 2 0 8) [(.av (p.1.flatMap p7) p.1.length .shared),(h0 p.2.1),(h0 p.2.2),.map 1]=some [(.av (p.1.flatMap p7) p.1.length .shared),(h0 p.2.1),(h0 p.2.2),Hk] :=
   rv (yW (Hy (fun _=>p6 rfl (p6 rfl rfl)) _ _ _)) (rv (yW rfl) (rv (yW rfl) (rv (T5 (by simp) (by simp)) IB)))
  show (if 0≤2 then (match ea (bM [rF p,.map [] 0,.cells [(.av (p.1.flatMap p7) p.1.length .shared),(h0 p.2.1),(h0 p.2.2),.map 1]] 0 2 0 8) [(.av (p.1.flatMap p7) p.1.length .shared),(h0 p.2.1),(h0 p.2.2),.map 1],bM _ 0 2 0 8 (.tuple [.ptr 2 0,h0 0]) with | some l',some v=>some (v,[]++[ar.cells l']) | _,_=>none) else none)=_
  rw [e1];rfl⟩
end
end Go.Proofs.YtkoioidpbbbaiaaGreat.Ab


namespace Go.Proofs.YtkoioidpbbbaiaaGreat.Ab
open Go
noncomputable def Ro:gE :=
 p2 [p0 5 [.Bs 1,.Bs 2,.Bs 3,.nc 4] (.zY 71 0 4),⟨none,[.nc 4,.jq 5],none,none,.st 1⟩] (qF [qg 6 4,p0 7 [.jq 6,.cv (.av [] 0 .full)] (.call 1)])
noncomputable def Rn:gE :=
 p2 [p0 2 [.jq 0] .box] (p2 [p0 3 [] (.alloc [.int .i64 0,.int .i64 0,.int .i64 0,.int .i64 0,.int .i64 0,.int .i64 0,.int .i64 0])] (p2 [p0 4 [] (.alloc [.a0])] Ro))
theorem Vc:ql Go.Proofs.Tryz.prog Tm 70=some (Rn,8,[]):=by kernel_rfl
noncomputable def aft:gE :=
 p2 [qg 18 2,p1 19 0,p0 20 [.jq 18,.jq 19] (.call 1),p1 6 20] .ret
noncomputable def MQ:gE :=
 p2 [p1 47 7,p0 48 [.nc 3,.Bs 47] (.zu 7 1),⟨none,[.jq 48,.cv (.int .i64 0)],none,none,.st 1⟩] (p2 [p1 49 8,p0 50 [.Bs 49] (.un .not)] (.cond (.nc 50) (p2 [p0 6 [.cv (.bool false)] .mU] .ret) .skip))
noncomputable def KX:gE :=
 p2 [p0 36 [.nc 4] (.zE .one),p3 37 0,p3 38 0,qT 39 38,p3 40 0,qT 41 40,p0 42 [.jq 37,.jq 39,.jq 41] (.Bh 1 false true true),p3 43 7,p0 44 [.Bs 43] (.yB 1 1 [.int .i64 0] [0]),p0 45 [.jq 42,.jq 44] (.app 1 8),p0 46 [.jq 36,.jq 45] (.call 1),p1 8 46] MQ
noncomputable def Rp:gE :=
 .seq (p2 [p3 30 7,p0 31 [.nc 3,.Bs 30] (.zu 7 1),qg 32 31,qw 33 32 0 .gtr] (.cond (.nc 33) (.exit 1) .skip)) (p2 [p3 34 7,p0 35 [.nc 3,.Bs 34] (.zu 7 1),⟨none,[.jq 35,.cv (.int .i64 1)],none,none,.st 1⟩] KX)
noncomputable def Rq:gE :=
 .block 1 (p2 [p3 29 27,p1 7 29] Rp)
noncomputable def Ji:gE :=
 .seq (p2 [qg 21 1,p0 22 [.Bs 21] .z4,qz 23 22 0,qz 24 23 0,qg 25 24,qT 26 25,qd 27 0] (.block 0 (.loop (some (p8 false [0,1,2,2,21,2,24])) (p2 [p0 28 [.nc 27,.nc 26] (.bin .lss)] (.seq (.cond (.nc 28) .skip (.exit 0)) (.seq Rq (qF [qP 51 27 1,p1 27 51]))))))) (p2 [p0 6 [.cv (.bool true)] .mU] .ret)
noncomputable def KY:gE :=
 .seq (p2 [p3 9 0,qT 10 9,p0 11 [.nc 1] (.zE .one),p0 12 [.Bs 11] .z4,qz 13 12 0,qz 14 13 0,qg 15 14,qT 16 15,qm 17 10 16 .eql] (.cond (.nc 17) aft .skip)) Ji
noncomputable def KW:gE :=
 p2 [p0 6 [.cv (.bool false)] .mU] KY
theorem NT:ql Go.Proofs.Tryz.prog J_ 71=some (KW,52,[.tmp 6]):=by kernel_rfl
end Go.Proofs.YtkoioidpbbbaiaaGreat.Ab


namespace Go.Proofs.YtkoioidpbbbaiaaGreat.Ab
open Go
set_option maxRecDepth 20000
set_option maxHeartbeats 4000000
def IJ (b:I) (p:Nat):I:=.func 71 [] [b,.ptr p 0,.ptr (p+1) 0,.ptr (p+2) 0]
@[irreducible] def rG (X Y0:List ar) (L:Nat) (b:I) (p:Nat) (U:List Int) (Y:List ar):List ar:=X++(Y0++([.cells [.yield L],.cells (U.map h0),.cells [IJ b p]]++Y))
section
variable {X Y0 Y:List ar} {L p:Nat} {b:I} {U:List Int} (aB:X.length+Y0.length=p)
include aB
theorem agl:(rG X Y0 L b p U Y)[p]?=some (.cells [.yield L]):=by
 unfold rG;rw [ss (by omega),ss (by omega),show p-X.length-Y0.length=0 by omega];rfl
theorem RX:(rG X Y0 L b p U Y)[p+1]?=some (.cells (U.map h0)):=by
 unfold rG;rw [ss (by omega),ss (by omega),show p+1-X.length-Y0.length=1 by omega];rfl
theorem Xp:(rG X Y0 L b p U Y)[p+2]?=some (.cells [IJ b p]):=by
 unfold rG;rw [ss (by omega),ss (by omega),show p+2-X.length-Y0.length=2 by omega];rfl
theorem Xq (Ml:List Int):(rG X Y0 L b p U Y).set (p+1) (.cells (Ml.map h0))=rG X Y0 L b p Ml Y:=by
 unfold rG;rw [uT _ _ (by omega),uT _ _ (by omega),show p+1-X.length-Y0.length=1 by omega];rfl
end
def Hg (l:List Int):I:=match l with | []=>.av [] 0 .full | _=>.av (l.map h0) l.length (.own 1)
theorem agk {K2 K3:I} {Q:cQ→List I→List ar→Prop} {begun:List Int} {i n:Nat} {X Y0 Y:List ar} {L p:Nat} {b:I} {U:List Int} (aB:X.length+Y0.length=p) (Hu:U.length=7) (hi:i<7) (af:begun.length≤7)
  (dW:∃ Lm qC,Lm.length=X.length∧Sem Tryz.prog (.fn 71) [.av ((begun++[(i:Int)]).map h0) (begun++[(i:Int)]).length (.uniq 1),b,.ptr p 0,.ptr (p+1) 0,.ptr (p+2) 0] (rG X Y0 L b p U Y) 0 (.bool true) (rG Lm Y0 L b p U qC) ∧
   Q .normal (qa 52 [(0,Hg begun),(3,.ptr (p+1) 0),(4,.ptr (p+2) 0),(26,h0 n),(27,h0 i),(28,K2),(33,K3),(50,.bool false)]) (rG Lm Y0 L b p (U.set i 0) qC)) :
  dQ Tryz.prog J_ 71 0 none KX (qa 52 [(0,Hg begun),(3,.ptr (p+1) 0),(4,.ptr (p+2) 0),(7,h0 i),(26,h0 n),(27,h0 i),(28,K2),(33,K3)]) (rG X Y0 L b p U Y) Q:=by
 obtain ⟨Lm,qC,aiC,cp,bp⟩:=dW;have Uw:Lm.length+Y0.length=p:=by omega
 have fin:∀ dH,dH=qa 52 [(0,Hg begun),(3,.ptr (p+1) 0),(4,.ptr (p+2) 0),(7,h0 i),(8,.bool true),(26,h0 n),(27,h0 i),(28,K2),(33,K3)]→dQ Tryz.prog J_ 71 0 none MQ dH (rG Lm Y0 L b p U qC) Q:=by
  rintro _ rfl;unfold MQ;conv=>whnf
  refine ⟨by omega,?_⟩;conv=>whnf
  refine Ew (RX Uw) ?_;conv=>whnf
  rw [show 0+(i:Int).toNat*1=i by omega];refine Gn (by simp;omega) ?_;conv=>whnf
  rw [show (List.map h0 U).set i (I.int IntKind.i64 0)=(U.set i 0).map h0 by rw [tH],Xq Uw];exact bp
 unfold KX;cases begun with
 | nil =>
   (conv=>whnf);refine Ew (Xp aB) ?_;(conv=>whnf);refine ⟨⟨by decide,by decide,by decide⟩,?_⟩;(conv=>whnf);refine ⟨rfl,by decide,?_⟩;(conv=>whnf);refine ⟨by decide,by decide,rfl,?_⟩;(conv=>whnf);refine ⟨_,_,rj cp,?_⟩;(conv=>whnf);exact fin _ rfl
 | cons a l =>
   (conv=>whnf);refine Ew (Xp aB) ?_;(conv=>whnf);refine ⟨⟨rfl,by omega,sU _⟩,?_⟩;(conv=>whnf);rw [tp,Nat.mul_one,te (by simp)];refine ⟨rfl,by decide,?_⟩;(conv=>whnf);refine ⟨by decide,by omega,by simp,?_⟩;(conv=>whnf);(have e1:List.map h0 (a::l)++[h0 (i:Int)]=((a::l)++[(i:Int)]).map h0:=by simp);(have b':(a::l).length+1=((a::l)++[(i:Int)]).length:=by simp);refine ⟨_,_,rj (by erw [e1,b'];exact cp),?_⟩;(conv=>whnf);exact fin _ rfl
def rk (U:List Int) (n:Nat):List Int:=((List.range n).filter fun i=>decide (U.getD i 0=0)).map fun i:Nat=>(i:Int)
theorem QH (U:List Int) (n:Nat):rk U (n+1)=rk U n++if U.getD n 0=0 then [(n:Int)] else []:=by
 unfold rk;rw [List.range_succ,t_,sP];by_cases h:U.getD n 0=0
 ·rw [if_pos h,uX (by simpa using h)];rfl
 ·rw [if_neg h,uB (by simpa using h)];rfl
theorem acT (U:List Int) (n:Nat):(rk U n).Nodup:=by
 unfold rk;refine List.Pairwise.map _ (R:=(·≠·)) (fun a b h=>by omega) ?_;exact List.Pairwise.filter _ List.nodup_range
theorem Vn {U:List Int} {n:Nat} {x:Int}:x∈rk U n↔∃ i:Nat,i<n∧U.getD i 0=0∧x=(i:Int):=by
 unfold rk;simp only [sD,ta,sH,decide_eq_true_eq];constructor
 ·rintro ⟨i,⟨ab,ae⟩,rfl⟩;exact ⟨i,ab,ae,rfl⟩
 ·rintro ⟨i,ab,ae,rfl⟩;exact ⟨i,⟨ab,ae⟩,rfl⟩
theorem LD {U:List Int} {n i:Nat} (hi:i<U.length) (aQ:U.getD i 0=0):rk (U.set i 1) n=(rk U n).erase (i:Int):=by
 rw [(acT U n).erase_eq_filter];unfold rk;rw [List.filter_map,uP];congr 1;refine ui fun x _=>?_;by_cases e:x=i
 ·subst e;simp [hi]
 ·have:((x:Int) != (i:Int))=true:=by simp;omega
  simp only [Function.comp,this,Bool.true_and];congr 1;simp only [sw];rw [List.getElem?_set_ne (by omega)]
def rZ (k:Nat) (U:List Int) (n i:Nat):Nat:=((rk U i).flatMap fun x=>(qX k ((rk U n).erase x)).map (x::·)).length
theorem Nz (k:Nat) (U:List Int) (n i:Nat):rZ k U n (i+1)=rZ k U n i+if U.getD i 0=0 then (qX k ((rk U n).erase (i:Int))).length else 0:=by
 unfold rZ;rw [QH,ug,sA];congr 1;by_cases h:U.getD i 0=0
 ·rw [if_pos h,if_pos h];simp
 ·rw [if_neg h,if_neg h];rfl
theorem acU {U:List Int} {n i:Nat} (hi:i≤n):∃ r,rk U n=rk U i++r:=by
 obtain ⟨d,rfl⟩:=Nat.exists_eq_add_of_le hi;clear hi
 induction d with
 | zero=>exact ⟨[],by simp⟩
 | succ d a8 =>
   obtain ⟨r,ai⟩:=a8;rw [←tc,QH,ai];exact ⟨_,sx ..⟩
theorem U5 {k:Nat} {U:List Int} {n i j:Nat} {l:List Int} (hi:i<n) (aQ:U.getD i 0=0) (ao:(qX k ((rk U n).erase (i:Int)))[j]?=some l):(qX (k+1) (rk U n))[rZ k U n i+j]?=some ((i:Int)::l):=by
 obtain ⟨r,ai⟩:=acU (U:=U) (n:=n) (i:=i+1) hi;rw [QH,if_pos aQ] at ai;show ((rk U n).flatMap fun x=>(qX k ((rk U n).erase x)).map (x::·))[rZ k U n i+j]?=_;have aw:=(sa.1 ao).1;conv=>lhs;arg 1;arg 2;rw [ai]
 rw [ug,ug,sx,ss (by unfold rZ;omega)];rw [show rZ k U n i+j-((rk U i).flatMap fun x=>(qX k ((rk U n).erase x)).map (x::·)).length=j by unfold rZ;omega];rw [List.getElem?_append_left (by simp;exact aw)];simp [ao]
theorem Nx {α:Type} (P:Nat→α→α→Prop) (h3:α) (h:∀ i a,∃ b,P i a b):∃ f:Nat→α,f 0=h3∧∀ i,P i (f i) (f (i+1)):=by
 classical
 exact ⟨fun n=>Nat.rec h3 (fun i a=>Classical.choose (h i a)) n,rfl,fun i=>uy (h i _)⟩
theorem Xf {U:List Int} {i:Nat} (h:∀ i,0≤U.getD i 0):∀ j,0≤(U.set i 1).getD j 0:=fun j=>by
 have:=h j;simp only [sw,List.getElem?_set] at this ⊢;split
 ·split <;> simp
 ·exact this
theorem Xd {U:List Int} {i:Nat} (hi:i<U.length) (h:U.getD i 0=0):U.set i 0=U:=by
 rw [sw,si hi] at h;rw [←show U[i]=0 from h,List.set_getElem_self]
def Zi (L:Nat) (qN:Nat→List ar) (c:Nat) (begun:List Int) (E:List (List Int)):Prop :=
 ∀ (j:Nat) (l:List Int),E[j]?=some l→∀ Y:List ar,∃ Z,Sem Tryz.prog (.yield L) [Hg (begun++l)] (qN (c+j)++Y) 0 (.bool true) (qN (c+j+1)++(Y++Z))
theorem Ui {b:((List (Int×Int))×(Int×Int))×Unit} (qU:b.1.1.length≤7) (iS:0<b.1.1.length) {L N:Nat} {qN:Nat→List ar} (hlen:∀ i,(qN i).length=N) {Y0:List ar} {p:Nat} (aB:N+Y0.length=p) :
  ∀ (k:Nat) (begun:List Int) (IG:hE) (U:List Int) (c:Nat),U.length=7→(∀ i,0≤U.getD i 0)→begun.length+k=b.1.1.length→(rk U b.1.1.length).length=k→((IG=.full∧begun=[])∨IG=.uniq 1∧begun≠[])→Zi L qN c begun (qX k (rk U b.1.1.length)) →
  ∀ Y,∃ Z,Sem Tryz.prog (.fn 71) [.av (begun.map h0) begun.length IG,.bS [lp b],.ptr p 0,.ptr (p+1) 0,.ptr (p+2) 0] (rG (qN c) Y0 L (.bS [lp b]) p U Y) 0 (.bool true) (rG (qN (c+(qX k (rk U b.1.1.length)).length)) Y0 L (.bS [lp b]) p U (Y++Z))
 | 0,begun,IG,U,c,Hu,_,al,ao,CM,ai,Y=>by
   obtain ⟨Z,cp⟩:=ai 0 [] rfl (Y0++([.cells [.yield L],.cells (U.map h0),.cells [IJ (.bS [lp b]) p]]++Y));(have JB:(qN c).length+Y0.length=p:=by rw [hlen];exact aB);(have bJ:begun≠[]:=fun e=>by subst e;simp at al;omega);have CM:IG=.uniq 1:=by
    rcases CM with ⟨_,h⟩ | ⟨h,_⟩
    ·exact absurd h bJ
    ·exact h
   subst CM;obtain ⟨a,l,rfl⟩:=tK bJ;refine ⟨Z,?_⟩;(have e1:qN (c+0)++(Y0++([.cells [.yield L],.cells (U.map h0),.cells [IJ (.bS [lp b]) p]]++Y))=rG (qN c) Y0 L (.bS [lp b]) p U Y:=by unfold rG;rfl);(have b':qN (c+0+1)++((Y0++([.cells [.yield L],.cells (U.map h0),.cells [IJ (.bS [lp b]) p]]++Y))++Z)=rG (qN (c+1)) Y0 L (.bS [lp b]) p U (Y++Z):=by unfold rG;simp);rw [e1,b',sM] at cp;show Sem _ _ _ _ _ _ (rG (qN (c+1)) _ _ _ _ _ _);refine rn eG NT rfl cp.1 fun Q bp=>?_;unfold KW KY;obtain ⟨f',rU⟩:∃ c,Ji=c:=⟨_,rfl⟩;rw [rU];(conv=>whnf);rw [decide_eq_true (show (((a::l).length:Nat):Int)=(b.1.1.length:Int) by omega)];(conv=>whnf);refine Ew (agl JB) ?_;(conv=>whnf);refine ⟨_,_,rj cp,?_⟩;(conv=>whnf);exact bp _ _ _ ⟨.inr rfl,lI.refl _,rfl⟩
 | k+1,begun,IG,U,c,Hu,My,al,ao,CM,ai,Y=>by
   obtain ⟨n,aI⟩:∃ n,n=b.1.1.length:=⟨_,rfl⟩;have Mj:=Ui (L:=L) qU iS hlen aB k;rw [←aI] at qU iS al ao ai Mj ⊢;have JB:∀ j,(qN j).length+Y0.length=p:=fun j=>by rw [hlen];exact aB
   obtain ⟨JJ,KL,Kc⟩:=Nx (fun i Z Pj=>(i<n→U.getD i 0=0→∃ W,Pj=Z++W∧Sem Tryz.prog (.fn 71) [.av ((begun++[(i:Int)]).map h0) (begun++[(i:Int)]).length (.uniq 1),.bS [lp b],.ptr p 0,.ptr (p+1) 0,.ptr (p+2) 0] (rG (qN (c+rZ k U n i)) Y0 L (.bS [lp b]) p (U.set i 1) (Y++Z)) 0 (.bool true) (rG (qN (c+rZ k U n (i+1))) Y0 L (.bS [lp b]) p (U.set i 1) (Y++Pj)))∧(¬ (i<n∧U.getD i 0=0)→Pj=Z)) ([]:List ar) (fun i Z=>by
    by_cases h:i<n∧U.getD i 0=0
    ·obtain ⟨hi,aQ⟩:=h;have hm:(i:Int)∈rk U n:=Vn.2 ⟨i,hi,aQ,rfl⟩
     obtain ⟨W,mb⟩:=Mj (begun++[(i:Int)]) (.uniq 1) (U.set i 1) (c+rZ k U n i) (by simpa using Hu) (Xf My) (by simp;omega) (by rw [LD (by omega) aQ,tS hm];omega) (.inr ⟨rfl,by simp⟩) (fun j l aw Y=>by
      rw [LD (by omega) aQ] at aw;obtain ⟨Z,cp⟩:=ai _ _ (U5 hi aQ aw) Y;refine ⟨Z,?_⟩;rw [show c+rZ k U n i+j=c+(rZ k U n i+j) by omega,sx]
      exact cp) (Y++Z)
     refine ⟨Z++W,fun _ _=>⟨W,rfl,?_⟩,fun h=>absurd ⟨hi,aQ⟩ h⟩;rw [LD (by omega) aQ] at mb;rw [Nz,if_pos aQ,←sx,←tc];exact mb
    ·exact ⟨Z,fun ab ae=>absurd ⟨ab,ae⟩ h,fun _=>rfl⟩)
   refine ⟨JJ n,?_⟩;have Qu:rZ k U n n=(qX (k+1) (rk U n)).length:=rfl;rw [←Qu];refine rn eG NT rfl (IA (by unfold rG;simp [hlen])) fun Q bp=>?_;have main:∀ T,T=qa 52 [(0,Hg begun),(1,.bS [lp b]),(2,.ptr p 0),(3,.ptr (p+1) 0),(4,.ptr (p+2) 0),(6,.bool false),(17,.bool false)]→dQ Tryz.prog J_ 71 0 none Ji T (rG (qN c) Y0 L (.bS [lp b]) p U Y) Q:=by
    rintro _ rfl;unfold Ji Rq Rp;obtain ⟨bt,eS⟩:∃ c,KX=c:=⟨_,rfl⟩;rw [eS];(conv=>whnf);rw [←aI];refine .intro (fun m T H=>∃ i:Nat,i≤n∧m=n-i∧T=qa 52 [(0,Hg begun),(3,.ptr (p+1) 0),(4,.ptr (p+2) 0),(26,h0 n),(27,h0 i)]∧H=rG (qN (c+rZ k U n i)) Y0 L (.bS [lp b]) p U (Y++JJ i)) n ⟨0,sC _,rfl,rfl,by rw [KL,sM];rfl⟩ ?_;rintro m T H ⟨i,hi,rfl,rfl,rfl⟩;(conv=>whnf);refine Hm (fun aR=>?_) (fun aR=>?_)
    ·(have hg:i<n:=by omega);(conv=>whnf);refine ⟨by omega,?_⟩;(conv=>whnf);refine Ew (RX (JB _)) ?_;(conv=>whnf);rw [show 0+(i:Int).toNat*1=i by omega];refine Ew (x:=h0 (U.getD i 0)) (by rw [sk,sw,si (show i<U.length by omega)];rfl) ?_;(conv=>whnf);(have rq:IntKind.i64.wrap ((i:Int)+1)=((i+1:Nat):Int):=by rw [rY _ (by omega) (by omega)];omega);refine Hm (fun aQ=>?_) (fun aQ=>?_)
     ·(conv=>whnf);refine ⟨n-(i+1),by omega,i+1,by omega,rfl,by rw [rq];rfl,?_⟩;rw [Nz,if_neg (by omega),(Kc i).2 (by omega)];rfl
     ·(have Mw:U.getD i 0=0:=by have:=My i;omega);obtain ⟨W,mb,cp⟩:=(Kc i).1 hg Mw;(conv=>whnf);refine ⟨by omega,?_⟩;(conv=>whnf);refine Ew (RX (JB _)) ?_;(conv=>whnf);rw [show 0+(i:Int).toNat*1=i by omega];refine Gn (by simp;omega) ?_;(conv=>whnf);rw [show (List.map h0 U).set i (I.int IntKind.i64 1)=(U.set i 1).map h0 by rw [tH],Xq (JB _)];subst eS;refine agk (JB _) (by simpa using Hu) (by omega) (by omega) ⟨qN (c+rZ k U n (i+1)),Y++JJ (i+1),by rw [hlen,hlen],cp,?_⟩;(conv=>whnf);refine ⟨n-(i+1),by omega,i+1,by omega,rfl,by rw [rq];rfl,?_⟩;rw [List.set_set,Xd (by omega) Mw]
    ·(obtain rfl:i=n:=by omega);(conv=>whnf);exact bp _ _ _ ⟨.inr rfl,lI.refl _,rfl⟩
   rcases CM with ⟨rfl,rfl⟩ | ⟨rfl,bJ⟩
   ·unfold KW KY;obtain ⟨f',rU⟩:∃ c,Ji=c:=⟨_,rfl⟩;rw [rU];(conv=>whnf);rw [decide_eq_false (show ¬ (((([]:List Int).length:Nat):Int)=(b.1.1.length:Int)) by simp only [tU];omega)];(conv=>whnf);subst rU;exact main _ rfl
   ·obtain ⟨a,l,rfl⟩:=tK bJ;unfold KW KY;obtain ⟨f',rU⟩:∃ c,Ji=c:=⟨_,rfl⟩;rw [rU];(conv=>whnf);rw [decide_eq_false (show ¬ ((((a::l).length:Nat):Int)=(b.1.1.length:Int)) by omega)];(conv=>whnf);subst rU;exact main _ rfl
def Nq (P:Program) (k:FuncId) (cap:List I) (E:List I):Prop :=
 ∀ (l N:Nat) (qN:Nat→List ar),(∀ i,(qN i).length=N)→l<N →
   (∀ (i:Nat) (h:i<E.length) (Y:List ar),∃ Z,Sem P (.yield l) [E[i]] (qN i++Y) 0 (.bool true) (qN (i+1)++(Y++Z))) →
   ∀ Y,∃ Z,Sem P (.fn k) (.yield l::cap) (qN 0++Y) 0 (.tuple []) (qN E.length++(Y++Z))
theorem W6 {α:Type} {P:Program} {A:dw} {fn:FuncId} {rl:Option Nat} {k:FuncId} {cap:List I} {t:Nat} {bq:List Nat} {gH ct:Code} {T:List I} {H Hn:List ar} {Q:cQ→List I→List ar→Prop} {f:α→I} {L:List α} (Im:Nq P k cap (L.map f))
  (Obj:Nat→List ar) (ax:df T t=.func k [] cap) (aQ:Obj 0=H) (hlen:∀ i,(Obj i).length=H.length)
  (KP:∀ (i:Nat) (h:i<L.length) (Y:List ar),∃ Z,Sem P (.yield H.length) [f L[i]] ((Obj i++[.loop .ready none fn (T.map I.view) bq gH ct A])++Y) 0 (.bool true) ((Obj (i+1)++[.loop .ready none fn (T.map I.view) bq gH ct A])++(Y++Z)))
  (hg:inLoop H rl=true) (aI:Obj L.length=Hn) (bp:∀ qC,Q .normal (T.map I.settle) ((Hn++[.dead])++qC)):dQ P A fn 0 rl (.AM (.nc t) bq gH ct) T H Q:=by
 show hI T t _;rw [iQ,ax]
 obtain ⟨qC,cp⟩:=Im H.length (H.length+1) (fun i=>Obj i++[.loop .ready none fn (T.map I.view) bq gH ct A]) (fun i=>by simp [hlen]) (by omega) (fun i h Y=>by
  have aX:i<L.length:=by simpa using h
  obtain ⟨qC,ai⟩:=KP i aX Y
  exact ⟨qC,by rw [tZ];exact ai⟩) []
 subst aI;simp only [sM,tM,sY,aQ] at cp;have ao:(Obj L.length).length=H.length:=hlen _;refine ⟨hg,.tuple [],_,.ready,none,fn,T.map I.view,bq,gH,ct,A,cp,by rw [←ao];exact Iw _ _ _,by decide,?_⟩;show Q .normal (T.map I.settle) (((Obj L.length++[ar.loop .ready none fn (T.map I.view) bq gH ct A])++qC).set H.length .dead);rw [←ao,Jk];exact bp qC
def qh (n:Nat):List Int:=(List.range n).map fun i:Nat=>(i:Int)
theorem U3 {n:Nat} (aI:n≤7):rk [0,0,0,0,0,0,0] n=qh n:=by
 unfold rk qh;rw [tC.2];intro a cu
 have:a<n:=sH.1 cu
 have cO:a<7:=by omega
 match a,cO with
 | 0,_ | 1,_ | 2,_ | 3,_ | 4,_ | 5,_ | 6,_=>rfl
theorem W_ {b:((List (Int×Int))×(Int×Int))×Unit} (qU:b.1.1.length≤7) (iS:0<b.1.1.length):Nq Tryz.prog 70 [.bS [lp b]] ((qX b.1.1.length (qh b.1.1.length)).map Hg):=by
 intro L N qN hlen fq ai Y;have jT:=U3 qU
 obtain ⟨Z,cp⟩:=Ui (b:=b) (L:=L) qU iS hlen (Y0:=Y) (p:=N+Y.length) rfl b.1.1.length [] .full [0,0,0,0,0,0,0] 0 rfl (fun i=>by
  rw [sw]
  match i with
  | 0 | 1 | 2 | 3 | 4 | 5 | 6 | i+7=>simp) (by simp) (by rw [jT];simp [qh]) (.inl ⟨rfl,rfl⟩) (fun j l aw Y=>by
    rw [jT] at aw;obtain ⟨ab,ae⟩:=sa.1 aw;obtain ⟨Z,h⟩:=ai j (by simpa using ab) Y;refine ⟨Z,?_⟩;rw [tZ,ae] at h;rw [sy]
    exact h) []
 rw [jT,sy] at cp;rw [sY];have e1:rG (qN 0) Y L (.bS [lp b]) (N+Y.length) [0,0,0,0,0,0,0] []=((qN 0++Y)++[.cells [.yield L]])++[.cells [h0 0,h0 0,h0 0,h0 0,h0 0,h0 0,h0 0]]++[.cells [IJ (.bS [lp b]) (N+Y.length)]]:=by
  unfold rG;simp
 refine ⟨[.cells [.yield L],.cells [h0 0,h0 0,h0 0,h0 0,h0 0,h0 0,h0 0],.cells [IJ (.bS [lp b]) (N+Y.length)]]++Z,?_⟩;have b':rG (qN (qX b.1.1.length (qh b.1.1.length)).length) Y L (.bS [lp b]) (N+Y.length) [0,0,0,0,0,0,0] ([]++Z)=qN (qX b.1.1.length (qh b.1.1.length)).length++(Y++([.cells [.yield L],.cells [h0 0,h0 0,h0 0,h0 0,h0 0,h0 0,h0 0],.cells [IJ (.bS [lp b]) (N+Y.length)]]++Z)):=by
  unfold rG;simp
 rw [e1,b'] at cp;obtain ⟨Hn,Uj⟩:∃ Hn,Hn=qN (qX b.1.1.length (qh b.1.1.length)).length++(Y++([.cells [.yield L],.cells [h0 0,h0 0,h0 0,h0 0,h0 0,h0 0,h0 0],.cells [IJ (.bS [lp b]) (N+Y.length)]]++Z)):=⟨_,rfl⟩;rw [←Uj] at cp ⊢;have hle:(qN 0++Y).length=N+Y.length:=by simp [hlen]
 obtain ⟨HM,gL⟩:∃ HM,HM=qN 0++Y:=⟨_,rfl⟩;rw [←gL] at cp hle ⊢;refine rn eG Vc rfl (IA (by rw [Uj,hle];simp [hlen])) fun Q bp=>?_;rw [←hle] at cp;unfold Rn Ro;conv=>whnf
 have l1:(HM++[ar.cells [I.yield L]]).length=HM.length+1:=by simp
 have l2:((HM++[ar.cells [I.yield L]])++[ar.cells [I.int IntKind.i64 0,I.int IntKind.i64 0,I.int IntKind.i64 0,I.int IntKind.i64 0,I.int IntKind.i64 0,I.int IntKind.i64 0,I.int IntKind.i64 0]]).length=HM.length+2:=by simp
 refine Ew (x:=.cells [.a0]) (by simp) ?_;conv=>whnf
 rw [HR];refine Ew (x:=.cells [IJ (.bS [lp b]) HM.length]) (by rw [ss (sc _),l1,l2,Nat.sub_self];rfl) ?_;conv=>whnf
 refine ⟨_,_,rj (by rw [l1,l2];exact cp),?_⟩;conv=>whnf
 exact bp _ _ _ ⟨.inl rfl,lI.refl _,rfl⟩
end Go.Proofs.YtkoioidpbbbaiaaGreat.Ab


namespace Go.Proofs.YtkoioidpbbbaiaaGreat.Ab
open Go
noncomputable def Wv:gE :=
 p2 [p0 2 [.cv (.av [] 0 .full)] (.nil 1)] (p2 [p1 3 0,p0 4 [.cv (.func 69 [] []),.cv (.av [] 0 .full),.nc 3] (.call 0),p1 2 4] .ret)
theorem ac8:ql Go.Proofs.Tryz.prog S_ 42=some (Wv,5,[.tmp 2]):=by kernel_rfl
noncomputable def WL:gE :=
 p2 [p0 2 [.jq 0] .box,p0 4 [.cv (.av [] 0 .full)] (.nil 1)] (.seq (p2 [p1 6 1] (.block 0 (.AM (.nc 6) [7] (q' Go.Proofs.Tryz.prog 69 0) (ra Go.Proofs.Tryz.prog 69 0)))) (p2 [p0 12 [.Bs 2] .take,p1 4 12] .ret))
theorem adf:ql Go.Proofs.Tryz.prog Jw 69=some (WL,13,[.tmp 4]):=by kernel_rfl
noncomputable def Q4:gE :=
 .seq (p2 [p0 16 [.nc 4] (.zE .one),p0 17 [.cv (.func 43 [] []),.nc 16] (.call 3)] (.block 0 (.AM (.nc 17) [18] (q' Go.Proofs.Tryz.prog 16 0) (ra Go.Proofs.Tryz.prog 16 0)))) (p2 [qg 25 6,p1 2 25,qd 3 0] .ret)
noncomputable def Wh:gE :=
 .seq (p2 [p3 13 5,qw 14 13 0 .neq] (.cond (.nc 14) (p2 [p1 15 5,qd 2 0,p1 3 15] .ret) .skip)) (p2 [p0 6 [] (.alloc [.int .i64 0]),⟨none,[.nc 6,.cv (.int .i64 0)],none,none,.st 1⟩] Q4)
noncomputable def Wi:gE :=
 p2 [p0 9 [.Bs 1] (.zE (.str 3)),p0 10 [.cv (.func 40 [] []),.nc 9,.cv (.av [] 0 .full)] (.call 3),p1 8 10,qJ 11 8 0,p0 12 [.Bs 8] (.ext 1),p0 4 [] (.alloc [.eI]),⟨none,[.nc 4,.jq 11],none,none,.st 1⟩,p1 5 12] Wh
noncomputable def Wg:gE :=
 p2 [p0 1 [.jq 0] .box,qd 2 0,qd 3 0] Wi
theorem ac3:ql Go.Proofs.Tryz.prog Ju 16=some (Wg,26,[.tmp 2,.tmp 3]):=by kernel_rfl
noncomputable def Wc:gE :=
 p2 [p1 21 7,p0 22 [.Bs 6] (.zY 45 0 1),p0 23 [.cv (.func 44 [] []),.nc 21,.nc 22] (.call 0),p1 2 23,qd 3 0] .ret
noncomputable def Wd:gE :=
 p2 [p1 18 4,p0 19 [.cv (.func 43 [] []),.nc 18] (.call 3),p0 20 [.cv (.func 42 [] []),.nc 19] (.call 3),p1 7 20] Wc
noncomputable def Q3:gE :=
 p2 [p3 16 4,p0 17 [.Bs 16] (.zY 41 1 0),p0 6 [] (.alloc [.a0]),⟨none,[.nc 6,.jq 17],none,none,.st 1⟩] Wd
noncomputable def We:gE :=
 .seq (p2 [p3 13 5,qw 14 13 0 .neq] (.cond (.nc 14) (p2 [p1 15 5,p0 2 [.cv (.av [] 0 .full)] (.nil 1),p1 3 15] .ret) .skip)) Q3
noncomputable def Wf:gE :=
 p2 [p0 9 [.Bs 1] (.zE (.str 3)),p0 10 [.cv (.func 40 [] []),.nc 9,.cv (.av [] 0 .full)] (.call 3),p1 8 10,qJ 11 8 0,p0 12 [.Bs 8] (.ext 1),p1 4 11,p1 5 12] We
noncomputable def Wb:gE :=
 p2 [p0 1 [.jq 0] .box,p0 2 [.cv (.av [] 0 .full)] (.nil 1),qd 3 0] Wf
theorem ac2:ql Go.Proofs.Tryz.prog SV 14=some (Wb,24,[.tmp 2,.tmp 3]):=by kernel_rfl
noncomputable def Wx:gE :=
 .seq (q8 [p0 6 [.nc 2] (.zE .one),p1 7 0,p0 8 [.nc 6,.nc 7] (.call 3),p0 9 [.nc 2] (.zE .one),p1 10 1,p0 11 [.nc 9,.nc 10] (.call 3),qm 12 8 11 .lss,p1 5 12]) .ret
noncomputable def Ww:gE :=
 p2 [p0 5 [.cv (.bool false)] .mU] Wx
theorem ac9:ql Go.Proofs.Tryz.prog Tb 45=some (Ww,13,[.tmp 5]):=by kernel_rfl
end Go.Proofs.YtkoioidpbbbaiaaGreat.Ab


namespace Go.Proofs.YtkoioidpbbbaiaaGreat.Ab
open Go
theorem SG {k k':FuncId} {xs ys:List I} {v bo:I} {acc:c7} (h:k'=k→ys=xs→bo=v) (t:∀ p∈acc,p.1=k→p.2.1=xs→p.2.2=v):∀ p∈((k',ys,bo)::acc:c7),p.1=k→p.2.1=xs→p.2.2=v:=fun p aB=>by
 rcases sB.1 aB with rfl | aB
 ·exact h
 ·exact t p aB
end Go.Proofs.YtkoioidpbbbaiaaGreat.Ab


namespace Go.Proofs.YtkoioidpbbbaiaaGreat.Ab
open Go
set_option maxRecDepth 20000
set_option maxHeartbeats 4000000
noncomputable def W0:gE :=
 .ov false [p0 5 [.jq 7] .mU]
theorem adn:ey Tryz.prog Jw (q' Tryz.prog 69 0) 0=some W0:=by kernel_rfl
noncomputable def W5:gE :=
 .block 1 (.ov false [p0 8 [.nc 2] .take,p0 9 [.jq 5] .mU,p0 10 [.Bs 9] (.yB 1 1 [.av [] 0 .full] [0]),p0 11 [.jq 8,.jq 10] (.app 1 24),⟨none,[.jq 2,.jq 11],none,none,.st 1⟩])
theorem adr:ey Tryz.prog Jw (ra Tryz.prog 69 0) 0=some W5:=by kernel_rfl
def Ic (l:List (List Int)):I:=match l with | []=>.av [] 0 .full | _=>.av (l.map oX) l.length (.own 1)
theorem aac {l:List (List Int)} {e:List Int} (he:e≠[]) {yh fA Gi Gj rO IV HK u8 HL HH HI HJ:I} (ao:l.length≤100000) (Y:List ar) :
  ∃ Z,Sem Tryz.prog (.yield [ar.cells [Ic l]].length) [Hg e] (([ar.cells [Ic l]]++[ar.loop .ready none 69 [yh,fA,.ptr 0 0,Gi,Gj,rO,IV,HK,u8,HL,HH,HI,HJ] [7] (q' Tryz.prog 69 0) (ra Tryz.prog 69 0) Jw])++Y) 0 (.bool true) (([ar.cells [Ic (l++[e])]]++[ar.loop .ready none 69 [yh,fA,.ptr 0 0,Gi,Gj,rO,IV,HK,u8,HL,HH,HI,HJ] [7] (q' Tryz.prog 69 0) (ra Tryz.prog 69 0) Jw])++(Y++Z)):=by
 refine ⟨[],?_⟩;rw [sM];obtain ⟨gb,e,rfl⟩:=tK he;refine On eG adn adr (Iw _ _ _) rfl (IA (by simp)) ?_;unfold W0;conv=>whnf
 refine ⟨rfl,Iw _ _ _,?_⟩;rw [Jk];unfold W5;cases l with
 | nil =>
   (conv=>whnf);refine ⟨rfl,by omega,?_⟩;(conv=>whnf);refine ⟨by decide,by decide,rfl,?_⟩;(conv=>whnf);show _∧(([ar.cells [Ic ([]++[gb::e])]]++[ar.loop .busy none 69 [yh,fA,.ptr 0 0,Gi,Gj,rO,IV,HK,u8,HL,HH,HI,HJ] [7] (q' Tryz.prog 69 0) (ra Tryz.prog 69 0) Jw])++Y)[[ar.cells [Ic ([]++[gb::e])]].length]?=_∧lI ((([ar.cells [Ic ([]++[gb::e])]]++[ar.loop .busy none 69 [yh,fA,.ptr 0 0,Gi,Gj,rO,IV,HK,u8,HL,HH,HI,HJ] [7] (q' Tryz.prog 69 0) (ra Tryz.prog 69 0) Jw])++Y).set [ar.cells [Ic ([]++[gb::e])]].length _) _;exact ⟨rfl,Iw _ _ _,by rw [Jk];exact lI.refl _⟩
 | cons a l =>
   (conv=>whnf);refine ⟨rfl,by omega,?_⟩;(conv=>whnf);refine ⟨by decide,by simp only [sK] at ao ⊢;omega,by simp,?_⟩;(conv=>whnf);(have e1:List.map oX (a::l)++[I.av (List.map h0 (gb::e)) (gb::e).length .shared]=((a::l)++[gb::e]).map oX:=by rw [sP];rfl);have dA:I.av (List.map oX (a::l)++[I.av (List.map h0 (gb::e)) (gb::e).length .shared]) ((a::l).length+1) (.own 1)=Ic ((a::l)++[gb::e]):=by
    show _=I.av (((a::l)++[gb::e]).map oX) ((a::l)++[gb::e]).length (.own 1);rw [sP,sA];rfl
   have l0:((([ar.cells [Ic (a::l)]]++[ar.loop .busy none 69 [yh,fA,.ptr 0 0,Gi,Gj,rO,IV,HK,u8,HL,HH,HI,HJ] [7] (q' Tryz.prog 69 0) (ra Tryz.prog 69 0) Jw])++Y).set 0 (ar.cells ([Ic (a::l)].set 0 (I.av (List.map oX (a::l)) (a::l).length hE.shared)))).set 0 (ar.cells [I.av (List.map oX (a::l)++[I.av (List.map h0 (gb::e)) (gb::e).length .shared]) ((a::l).length+1) (.own 1)])=([ar.cells [Ic ((a::l)++[gb::e])]]++[ar.loop .busy none 69 [yh,fA,.ptr 0 0,Gi,Gj,rO,IV,HK,u8,HL,HH,HI,HJ] [7] (q' Tryz.prog 69 0) (ra Tryz.prog 69 0) Jw])++Y:=by
    rw [dA];rfl
   erw [l0];exact ⟨Iw _ _ _,by erw [Jk];exact lI.refl _⟩
theorem N0 (l:List (List Int)) (n:Nat) (c:hE):cr 8 (.av (l.map oX) n c)=true:=rC (d:=7) (f:=oX) (fun x=>rC (fun _=>rfl) _ _ _) l n c
theorem VJ (l:List (List Int)):cr 8 (Ic l)=true:=by
 cases l with
 | nil=>rfl
 | cons a l=>exact N0 _ _ _
theorem aaQ {k:FuncId} {cap:List I} {l:List (List Int)} (Im:Nq Tryz.prog k cap (l.map Hg)) (bJ:∀ e∈l,e≠[]) (ao:l.length≤100000):qx 69 [.av [] 0 .full,.func k [] cap] (Ic l):=by
 refine NC eG adf rfl (VJ l) fun Q bp=>?_;unfold WL;obtain ⟨a7,cf⟩:∃ c,gE.AM (.nc 6) [7] (q' Tryz.prog 69 0) (ra Tryz.prog 69 0)=c:=⟨_,rfl⟩;rw [cf];conv=>whnf
 subst cf;refine W6 (f:=Hg) Im (fun i=>[ar.cells [Ic (l.take i)]]) (by exact rfl) (by exact rfl) (fun _=>rfl) ?_ (rl:=none) (by exact rfl) (Hn:=[ar.cells [Ic l]]) (by show [ar.cells [Ic (l.take l.length)]]=_;rw [uV]) ?_
 ·intro i hi Y;rw [show l.take (i+1)=l.take i++[l[i]] by rw [List.take_add_one,si hi];rfl];exact aac (l:=l.take i) (e:=l[i]) (bJ _ (List.getElem_mem hi)) (by rw [s9];omega) Y
 ·intro qC;cases l with
  | nil =>
    (conv=>whnf);exact bp _ _ _ (JX (.inr rfl) (VJ _) rfl)
  | cons a l =>
    (conv=>whnf);exact bp _ _ _ (afT (.inr rfl) (N0 _ _ _) (.inl rfl))
theorem aaP {k:FuncId} {cap:List I} {l:List (List Int)} (pw:cap.all (cr 7)=true) (Im:Nq Tryz.prog k cap (l.map Hg)) (bJ:∀ e∈l,e≠[]) (ao:l.length≤100000):qx 42 [.func k [] cap] (.av (l.map oX) l.length .shared):=by
 refine qK eG ac8 rfl (N0 _ _ _) fun Q bp=>?_;unfold Wv;conv=>whnf
 refine ⟨_,_,Mo (p6 rfl (p6 (IP rfl pw) rfl)) (aaQ Im bJ ao) _ _,?_⟩;cases l with
 | nil =>
   (conv=>whnf);exact bp _ _ _ ⟨.inr rfl,_,rfl,_,yW rfl,rfl⟩
 | cons a l =>
   (conv=>whnf);exact bp _ _ _ ⟨.inr rfl,_,rfl,_,yW (N0 _ _ _),rfl⟩
theorem Vj:∀ {x y:List Int},x.map h0=y.map h0→x=y
 | [],[],_=>rfl
 | [],_::_,h=>by cases h
 | _::_,[],h=>by cases h
 | a::x,c::y,h=>by
   obtain ⟨ab,ae⟩:=List.cons.inj h;(have ab:a=c:=by injection ab);rw [ab,Vj ae]
def Ku (b:((List (Int×Int))×(Int×Int))×Unit) (x y:List Int):Option Bool :=
 (J2 b x).bind fun n=>(J2 b y).bind fun m=>some (decide (n<m))
theorem ahQ {b:((List (Int×Int))×(Int×Int))×Unit} {x y:List Int} {v:Bool} (h:Ku b x y=some v):qx 45 [.av (x.map h0) x.length .shared,.av (y.map h0) y.length .shared,.bS [.func 41 [lp b] []]] (B v):=by
 unfold Ku at h;obtain ⟨n,aI,h⟩:=p' h;obtain ⟨m,hm,h⟩:=p' h;obtain rfl:=Option.some.inj h;refine NC eG ac9 rfl rfl fun Q bp=>?_;unfold Ww Wx;conv=>whnf
 refine ⟨qj.pl,_,M' aI,Hf,?_⟩;conv=>whnf
 refine ⟨qj.pl,_,M' hm,(SG (fun _ e=>?_) Hf),?_⟩
 ·have b':x.map h0=y.map h0:=by
   have:=(List.cons.inj (List.cons.inj e).2).1;injection this
  obtain rfl:x=y:=Vj b';rw [aI] at hm;rw [Option.some.inj hm]
 conv=>whnf
 exact bp _ _ _ (JX (.inr rfl) rfl rfl)

noncomputable def O5:gE :=
 .loop (some (p8 false [1,1,3,1,6,3,10])) (p2 [p0 15 [.nc 14,.nc 13] (.bin .lss)] (.seq (.cond (.nc 15) .skip (.exit 0)) (.seq (.block 1 (p2 [p0 16 [.nc 12,.nc 14] (.kY 1),qg 17 16,p1 7 17] (p2 [p3 18 1,p3 19 7,p3 20 5,p0 21 [.nc 18,.nc 19,.nc 20] (.call 6)] (.cond (.nc 21) (qF [p1 22 7,p1 5 22]) .skip)))) (qF [qP 23 14 1,p1 14 23]))))
noncomputable def YT:gE :=
 p2 [p0 4 [.cv (.av [] 0 .full)] (.nil 1)] (p2 [p3 8 0,p0 9 [.Bs 8,.cv (.int .i64 0)] (.kY 1),qg 10 9,p1 5 10] (.seq (p2 [p1 11 0,p0 12 [.jq 11,.cv (.int .i64 1)] (.Bh 1 true false false),p0 13 [.nc 12] .zJ,qd 14 0] (.block 0 O5)) (p2 [p1 24 5,p1 4 24] .ret)))
theorem adT:ql Tryz.prog Pr 44=some (YT,25,[.tmp 4]):=by kernel_rfl
def Kt (l:KB) (better:(p9→p9→Option Bool)) (p_:p9→Option p9):Nat→p9→Int→Option p9
 | 0,_,_=>none
 | m+1,s1,s2 =>
   if (decide (s2<((l.drop (1:Int).toNat).length:Int)))=true then
    qs (0≤s2∧s2<((l.drop (1:Int).toNat).length:Int)) <|
    (better (ix (l.drop (1:Int).toNat) s2) s1).bind fun aS =>
    if aS=true then
     Kt l better p_ m (ix (l.drop (1:Int).toNat) s2) (w (s2+(1:Int)))
    else
     Kt l better p_ m s1 (w (s2+(1:Int)))
   else
    p_ s1
def Na (l:KB) (better:(p9→p9→Option Bool)):Option p9 :=
 qs (0≤(0:Int)∧(0:Int)<(l.length:Int)) <|
 qs (0≤(1:Int)∧(1:Int)≤(l.length:Int)) <|
 Kt l better (fun yn =>
   some yn) qi (ix l (0:Int)) (0:Int)

noncomputable def YS:gE :=
 p2 [p0 1 [.jq 0] .box,p0 2 [.cv .a0] .mU] (p2 [p0 3 [.Bs 1] (.zY 70 0 1),p1 2 3] .ret)
theorem adS:ql Tryz.prog Ta 43=some (YS,4,[.tmp 2]):=by kernel_rfl
def Ya (b:((qk×(Int×Int))×Unit)):Option Unit :=
 some ()
theorem Sc {b:((qk×(Int×Int))×Unit)} {v:Unit} (h:Ya b=some v):qx 43 [(.bS [(.av (b.1.1.flatMap p7) b.1.1.length .shared),(h0 b.1.2.1),(h0 b.1.2.2),Hk])] (.func 70 [] [(.bS [(.bS [(.av (b.1.1.flatMap p7) b.1.1.length .shared),(h0 b.1.2.1),(h0 b.1.2.2),Hk])])]):=by
 refine qK eG adS rfl (IP rfl (p6 (Ig (p6 (Ig (p6 (Hy (fun _=>(p6 rfl (p6 rfl rfl))) _ _ _) (p6 rfl (p6 rfl (p6 rfl rfl))))) rfl)) rfl)) fun Q bp=>?_;have jJ:∀ T H,HC [.tmp 2] (.func 70 [] [(.bS [(.bS [(re b.1.1 .shared),(h0 b.1.2.1),(h0 b.1.2.2),Hk])])]) .ret T H→Q .ret T H:=fun T H bE=>bp _ T H bE;unfold Ya at h;unfold YS;conv=>whnf
 exact jJ _ _ ⟨.inr rfl,_,rfl,_,(T4 IB (rv (T6 (l:=[(.bS [(re b.1.1 .shared),(h0 b.1.2.1),(h0 b.1.2.2),Hk])]) (by first | exact qQ.h | rfl | (simp [sq,I.settle];done)) (p6 (Ig (p6 (Hy (fun _=>(p6 rfl (p6 rfl rfl))) _ _ _) (p6 rfl (p6 rfl (p6 rfl rfl))))) rfl)) IB)),rfl⟩

theorem ahN {l:(List (List Int))} {better:((List Int)→(List Int)→Option Bool)} {p_:(List Int)→Option (List Int)} {s1:(List Int)} {s2:Int} {kf_better oid lo:Nat} {HM:List ar} {cv:List I} (aE:HM[oid]?=some (.cells cv)) (hd:cv.map I.view=cv) (fg:cv.map (kh HM)=cv) (JB:cv.all (cr 7)=true) (Qw:∀ (q6:(List Int)) (BD:(List Int)) (r:Bool),better q6 BD=some r→qx kf_better [(.av (q6.map h0) q6.length .shared),(.av (BD.map h0) BD.length .shared),.bS cv] (B r)) {v:(List Int)} {Q:cQ→List I→List ar→Prop}   (rf:∀ (yn:(List Int)) (qf:List I),p_ yn=some v→ry 25 [(5,(.av (yn.map h0) yn.length .shared))] qf→Q (.exit 0) qf HM) {T:List I} (b0:eZ [false,true,false,false,false,true,false,false,false,false,false,false,true,true,true,false,false,false,false,false,false,false,false,false,false] T=qa 25 [(1,(.func kf_better [] [.ptr oid 0])),(5,(.av (s1.map h0) s1.length .shared)),(12,(.av ((l.drop (1:Int).toNat).map oX) (l.drop (1:Int).toNat).length .shared)),(13,(h0 ((l.drop (1:Int).toNat).length:Int))),(14,(h0 s2))]) (h:Kt l better p_ qi s1 s2=some v) :
  dQ Tryz.prog Pr 44 lo none O5 T HM Q:=by
 unfold O5;skip;refine wp_loop b0 ?_;refine .intro (fun m T H=>∃ (s1:(List Int)) (s2:Int),T=qa 25 [(1,(.func kf_better [] [.ptr oid 0])),(5,(.av (s1.map h0) s1.length .shared)),(12,(.av ((l.drop (1:Int).toNat).map oX) (l.drop (1:Int).toNat).length .shared)),(13,(h0 ((l.drop (1:Int).toNat).length:Int))),(14,(h0 s2))]∧H=HM∧Kt l better p_ m s1 s2=some v) qi ⟨s1,s2,rfl,rfl,h⟩ ?_;clear h b0;rintro m T H ⟨s1,s2,rfl,rfl,h⟩;cases m
 ·exact rT h
 rename_i m;rw [Kt.eq_2] at h;conv=>whnf
 refine bs h (fun qp h=>?_) fun qp h=>?_
 ·rw [qp];conv=>whnf
  refine qW h id fun qI h=>?_;rw [rb oX (l.drop (1:Int).toNat) s2 qI];conv=>whnf
  obtain ⟨aS,q9,h⟩:=p' h;have Cn:hW H (.ptr oid 0)=.bS cv:=by
   show (match H[oid]? with | some (.cells l)=>I.bS (((l.drop 0).map I.view).map (kh H)) | _=>.ptr oid 0)=_;rw [aE];show I.bS ((cv.map I.view).map (kh H))=_;rw [hd,fg]
  refine ⟨_,_,call6 (bs:=[(.av ((ix (l.drop (1:Int).toNat) s2).map h0) (ix (l.drop (1:Int).toNat) s2).length .shared),(.av (s1.map h0) s1.length .shared),.bS cv]) (by show [_,_,(hW H (.ptr oid 0)).cc]=_;rw [Cn];rfl) (by show ([_,_,hW H (.ptr oid 0)]:List I).all (cr 8)=true;rw [Cn];exact (p6 (rC (fun _=>rfl) _ _ _) (p6 (rC (fun _=>rfl) _ _ _) (p6 (Ig JB) rfl)))) (Qw _ _ _ q9) rfl,?_⟩;conv=>whnf
  cases aS
  ·(conv=>whnf);replace h:=Ho rfl h;exact ⟨m,sE m,s1,(w (s2+(1:Int))),rfl,rfl,h⟩
  ·(conv=>whnf);replace h:=Hp rfl h;exact ⟨m,sE m,(ix (l.drop (1:Int).toNat) s2),(w (s2+(1:Int))),rfl,rfl,h⟩
 ·rw [qp];conv=>whnf
  exact rf _ _ h ⟨rfl,rfl⟩
theorem ahO {l:(List (List Int))} {better:((List Int)→(List Int)→Option Bool)} {kf_better oid:Nat} {HM:List ar} {cv:List I} (aE:HM[oid]?=some (.cells cv)) (hd:cv.map I.view=cv) (fg:cv.map (kh HM)=cv) (JB:cv.all (cr 7)=true) (Qw:∀ (q6:(List Int)) (BD:(List Int)) (r:Bool),better q6 BD=some r→qx kf_better [(.av (q6.map h0) q6.length .shared),(.av (BD.map h0) BD.length .shared),.bS cv] (B r)) {v:(List Int)} (h:Na l better=some v):Sem Tryz.prog (.fn 44) [(.av (l.map oX) l.length .shared),(.func kf_better [] [.ptr oid 0])] HM HM.length (.av (v.map h0) v.length .shared) HM:=by
 refine rn eG adT rfl (a'.refl _ _) fun Q bp=>?_;unfold Na at h;unfold YT;obtain ⟨HN,qD⟩:∃ c,O5=c:=⟨_,rfl⟩;rw [qD];conv=>whnf
 refine qW h id fun gM h=>?_;rw [rb oX l (0:Int) gM];conv=>whnf
 refine qW h id fun gN h=>?_;erw [Xj oX l (1:Int) gN];conv=>whnf
 subst qD;refine ahN aE hd fg JB Qw ?_ (by exact rfl) h;intro yn qf h qA;obtain ⟨rD,rfl⟩:=qA.ex;conv=>whnf
 obtain rfl:=Option.some.inj h;exact bp _ _ _ ⟨.inr rfl,lI.refl _,rfl⟩
theorem K1 (n:Nat):(qh n).length=n:=by simp [qh]
theorem QI {n:Nat} (aI:0<n):∀ e∈qX n (qh n),e≠[]:=fun e he h=>by
 have:=acX (K1 n) he;rw [h] at this;simp at this;omega
def NA:Nat→Nat
 | 0=>1
 | n+1=>(n+1)*NA n
theorem TX {α β:Type} {f:α→List β} {c:Nat}:∀ {l:List α},(∀ x∈l,(f x).length=c)→(l.flatMap f).length=l.length*c
 | [],_=>by simp
 | a::l,h=>by
   rw [List.flatMap_cons,sA,h a (by simp),TX fun x aj=>h x (by simp [aj]),sK,Nat.succ_mul];omega
theorem U6:∀ (n:Nat) (left:List Int),left.length=n→(qX n left).length=NA n
 | 0,_,_=>rfl
 | n+1,left,h=>by
   show (left.flatMap fun x=>(qX n (left.erase x)).map (x::·)).length=(n+1)*NA n;rw [TX (c:=NA n) fun x aj=>by rw [sY];exact U6 n _ (by rw [tS aj];omega),h]
theorem U8 {n:Nat} (aI:n≤7):(qX n (qh n)).length≤100000:=by
 rw [U6 n _ (K1 n)]
 match n,aI with
 | 0,_ | 1,_ | 2,_ | 3,_ | 4,_ | 5,_ | 6,_ | 7,_=>decide
theorem aas {P:Program} {k:FuncId} {args:List I} {H H':List ar} {lo:Nat} {r:I} (h:Sem P (.fn k) args H H.length r H') (aB:cr 8 r=true):oV P 0 lo (.fn k) args H r H:=by
 refine ⟨_,EB h,?_⟩;simp only [eQ,EA,sb,yW aB,se]
theorem H5 {d:Nat} (b:((List (Int×Int))×(Int×Int))×Unit):cr (d+3) (lp b)=true:=Ig (p6 (Hy (fun _=>p6 rfl (p6 rfl rfl)) _ _ _) (p6 rfl (p6 rfl (p6 rfl rfl))))
def J0 (p:qb):Option (List Int×Int) :=
 (rI p []).bind fun r=>match r with
 | (none,q)=>if decide (q≠0)=true then some ([],q) else none
 | (some b,q)=>if decide (q≠0)=true then some ([],q) else
   qs (0<b.1.1.length∧b.1.1.length≤7) <|
   (Na (qX b.1.1.length (qh b.1.1.length)) (Ku b)).bind fun l=>some (l,0)
theorem R4 {p:qb} {v:List Int×Int} (h:J0 p=some v):qx 14 [.agg [.av (p.1.flatMap p7) p.1.length .shared,h0 p.2.1,h0 p.2.2]] (.tuple [.av (v.1.map h0) v.1.length .shared,h0 v.2]):=by
 unfold J0 at h;obtain ⟨⟨aS,bj⟩,ai,h⟩:=p' h;refine qK eG ac2 rfl (I4 (p6 (rC (fun _=>rfl) _ _ _) (p6 rfl rfl))) fun Q bp=>?_;have jJ:∀ T H,HC [.tmp 2,.tmp 3] (.tuple [(.av (v.1.map h0) v.1.length .shared),(h0 v.2)]) .ret T H→Q .ret T H:=fun T H bE=>bp _ T H bE;unfold Wb Wf We;obtain ⟨bt,eS⟩:∃ c,Q3=c:=⟨_,rfl⟩;rw [eS];conv=>whnf
 refine ⟨qj.pl,_,Mb ai,?_⟩;rcases aS with _ | b
 ·conv=>whnf
  refine bs h (fun af h=>?_) fun af h=>?_
  ·rw [af];(conv=>whnf);obtain rfl:=Option.some.inj h;exact jJ _ _ (Ih rfl rfl)
  ·cases h
 ·conv=>whnf
  refine bs h (fun af h=>?_) fun af h=>?_
  ·rw [af];(conv=>whnf);obtain rfl:=Option.some.inj h;exact jJ _ _ (Ih rfl rfl)
  ·rw [af];(conv=>whnf);subst eS;unfold Q3 Wd Wc;obtain ⟨⟨Di,LB⟩,h⟩:=rM h;obtain ⟨l,ao,h⟩:=p' h;obtain rfl:=Option.some.inj h;(conv=>whnf);refine ⟨p6 (H5 b) rfl,_,Sc (b:=b) (v:=()) rfl,?_⟩;(conv=>whnf);have pw:[I.bS [lp b]].all (cr 7)=true:=p6 (Ig (p6 (H5 b) rfl)) rfl;refine ⟨p6 (IP rfl pw) rfl,_,aaP pw (W_ LB Di) (QI Di) (U8 LB),?_⟩;(conv=>whnf);refine ⟨_,_,aas (ahO (better:=Ku b) (kf_better:=45) (cv:=[.func 41 [lp b] []]) (oid:=1) rfl rfl rfl (p6 (IP (p6 (H5 b) rfl) rfl) rfl) (fun q6 BD r aY=>ahQ aY) ao) (rC (fun _=>rfl) _ _ _),?_⟩;(conv=>whnf);exact jJ _ _ (Ih rfl rfl)
end Go.Proofs.YtkoioidpbbbaiaaGreat.Ab


namespace Go.Proofs.YtkoioidpbbbaiaaGreat.Ab
open Go
noncomputable def Q5:gE :=
 .ov true [p3 54 8, p0 55 [.Bs 54] .z4, qz 56 55 0, qz 57 56 0, qg 58 57, p0 59 [.nc 12] (.yM 0), qg 60 59, p0 61 [.nc 12] (.yM 1), p0 62 [.Bs 61] (.zE (.str 2)), p0 63 [.nc 12] (.yM 0), p0 64 [.Bs 63] (.other (Oper.mk (some 64) (Op.load 3 (Operand.tmp 63)) 3 "curl.go:119" (Array.mk [Edge.mk 9 Ground.data, Edge.mk 13 (Ground.gcOnly Departure.lateStores)]) none) 13), qP 65 64 1, q5 66 58 60 2, ⟨none, [.jq 66, .jq 62], none, none, .other (Oper.mk none (Op.store 54 (Operand.tmp 66) (Operand.tmp 62)) 0 "curl.go:119" (Array.mk [Edge.mk 12 Ground.data, Edge.mk 8 Ground.data, Edge.mk 0 Ground.phase, Edge.mk 1 Ground.phase, Edge.mk 2 Ground.phase, Edge.mk 3 Ground.phase, Edge.mk 4 Ground.phase, Edge.mk 5 Ground.phase, Edge.mk 6 Ground.phase, Edge.mk 7 Ground.phase, Edge.mk 8 Ground.phase, Edge.mk 9 (Ground.textOnly Departure.lateStores), Edge.mk 10 (Ground.textOnly Departure.lateStores), Edge.mk 11 (Ground.textOnly Departure.lateStores)]) none) 13⟩, p1 10 65]
noncomputable def Wk:gE :=
 .seq (p2 [p1 39 10,p0 40 [.nc 3] (.yM 0),qg 41 40,qT 42 41,qw 43 42 1 .sub,p0 44 [.nc 12] (.yM 0),qg 45 44,p0 46 [.Bs 45] (.yB 1 1 [.int .i64 0] [0]),p0 47 [.cv (.func 50 [] []),.nc 39,.nc 43,.nc 46] (.call 3),p0 48 [.Bs 47] (.un .not),p1 49 48,cl 50 [.nc 12] 49 false (.yM 1),cl 51 [.Bs 50] 49 false (.zE (.str 2)),⟨some 52,[.cv (.func 51 [] []),.nc 51],some (49,false),none,.call 3⟩,p0 53 [.Bs 49,.cv (.bool true),.Bs 52] .pick] (.cond (.nc 53) (p2 [qd 6 0,qd 7 3] .ret) .skip)) Q5
noncomputable def Q6:gE :=
 .block 1 (p2 [p0 37 [.nc 33,.nc 35] (.kY 3),p0 38 [.Bs 37] (.zE (.str 3)),p0 12 [] (.alloc [.int .i64 0,.int .i64 0,.int .i64 0]),⟨none,[.nc 12,.jq 38],none,none,.st 3⟩] Wk)
noncomputable def Wl:gE :=
 p2 [p1 72 2,qT 73 72,p1 6 73,qd 7 0] .ret
noncomputable def Q7:gE :=
 .seq (p2 [p1 68 8,p1 69 1,p0 70 [.cv (.func 41 [] []),.nc 68,.nc 69] (.call 6),qw 71 70 0 .gtr] (.cond (.nc 71) (p2 [qd 6 0,qd 7 23] .ret) .skip)) Wl
noncomputable def Wm:gE :=
 .seq (p2 [p3 33 2,p0 34 [.nc 33] .zJ,qd 35 0] (.block 0 (.loop (some (p8 false [1,3,4,1,1,1,22,3,38])) (p2 [p0 36 [.nc 35,.nc 34] (.bin .lss)] (.seq (.cond (.nc 36) .skip (.exit 0)) (.seq Q6 (qF [qP 67 35 1,p1 35 67]))))))) Q7
noncomputable def Q8:gE :=
 p2 [p3 23 8,p3 24 8,p0 25 [.Bs 24] .z4,qz 26 25 0,qz 27 26 0,qg 28 27,p0 29 [.cv (.func 49 [] []),.nc 28] (.call 2),p0 30 [.Bs 23] .z4,qz 31 30 0,qz 32 31 0,⟨none,[.jq 32,.jq 29],none,none,.st 1⟩] Wm
noncomputable def Wn:gE :=
 .seq (p2 [p3 20 9,qw 21 20 0 .neq] (.cond (.nc 21) (p2 [p1 22 9,qd 6 0,p1 7 22] .ret) .skip)) (p2 [qd 10 0] Q8)
noncomputable def Wo:gE :=
 p2 [p0 14 [.nc 3] (.zE (.str 3)),p3 15 1,p0 16 [.Bs 15] (.yB 1 1 [.av [] 0 .full] [0]),p0 17 [.cv (.func 40 [] []),.nc 14,.nc 16] (.call 2),p1 13 17,qJ 18 13 0,p0 19 [.Bs 13] (.ext 1),p1 8 18,p1 9 19] Wn
noncomputable def Wj:gE :=
 p2 [p0 3 [.jq 0] .yy,qd 6 0,qd 7 0] Wo
theorem ac4:ql Go.Proofs.Tryz.prog SW 19=some (Wj,74,[.tmp 6,.tmp 7]):=by kernel_rfl
noncomputable def aff:gE :=
 p2 [p0 5 [] (.yB 0 2 [.int .i64 0,.int .i64 0] []),p1 6 0,p0 7 [.jq 5,.jq 6] (.app 2 16),⟨some 2,[.jq 7],none,some 7,.Bq⟩] .ret
noncomputable def Wy:gE :=
 p2 [p0 2 [.cv (.av [] 0 .full)] (.nil 2)] (.seq (p2 [p3 3 0, p0 4 [.Bs 3, .cv (.av [] 0 .full)] (.other (Oper.mk (some 4) (Op.binOp .eql 22 (Operand.tmp 3) (Operand.const (Value.slice none 0 0)) 22) 4 "slices.go:357" (Array.mk [Edge.mk 0 Ground.data]) none) 0)] (.cond (.nc 4) (p2 [p0 2 [.cv (.av [] 0 .full)] (.nil 2)] .ret) .skip)) aff)
theorem ac_:ql Go.Proofs.Tryz.prog Tc 49=some (Wy,8,[.tmp 2]):=by kernel_rfl
end Go.Proofs.YtkoioidpbbbaiaaGreat.Ab


namespace Go.Proofs.YtkoioidpbbbaiaaGreat.Ab
open Go
set_option maxRecDepth 20000
set_option maxHeartbeats 4000000
theorem aaN {l:List (Int×Int)} (ao:l≠[]) (ab:l.length≤1000) (H:List ar):Sem Tryz.prog (.fn 49) [.av (l.flatMap p7) l.length .shared] H H.length (.ref H.length 0 l.length none 2) (H++[.cells (l.flatMap p7)]):=by
 obtain ⟨a,l,rfl⟩:=tK ao;refine rn eG ac_ rfl (a'.append _ _ _) fun Q bp=>?_;unfold Wy;conv=>whnf
 refine ⟨.bool false,H,fun C=>rfl,?_⟩;conv=>whnf
 refine ⟨HZ p7 2 (fun _=>rfl) _,by simp only [sK] at ab ⊢;omega,?_⟩;conv=>whnf
 refine ⟨rfl,by simp only [sK] at ab ⊢;omega,?_⟩;conv=>whnf
 refine .inl ⟨by simp,?_⟩;conv=>whnf
 rw [sy];exact bp _ _ _ ⟨.inr rfl,lI.refl _,rfl⟩
theorem aeK {d:Nat} (l:List (Int×Int)) (n:Nat) (c:hE):cr (d+2) (.av (l.flatMap p7) n c)=true:=Hy (fun _=>p6 rfl (p6 rfl rfl)) _ _ _
theorem aaM {l:List (Int×Int)} (ao:l≠[]) (ab:l.length≤1000) (H:List ar) (lo:Nat):oV Tryz.prog 2 lo (.fn 49) [.av (l.flatMap p7) l.length .shared] H (.ref H.length 0 l.length none 2) (H++[.cells (l.flatMap p7)]):=by
 refine ⟨_,EB (aaN ao ab H),?_⟩;have e1:DM 2 H.length (H++[ar.cells (l.flatMap p7)]) (.ref H.length 0 l.length none 2)=some H.length:=by simp [DM,Co,yU]
 have b':(H++[ar.cells (l.flatMap p7)])[H.length]?=some (.cells (l.flatMap p7)):=by simp
 have dA:bM (H++[ar.cells (l.flatMap p7)]) H.length H.length H.length 8 (.ref H.length 0 l.length none 2)=some (.ref H.length 0 l.length none 2):=by simp [bM]
 have l0:ea (bM (H++[ar.cells (l.flatMap p7)]) H.length H.length H.length 8) (l.flatMap p7)=some (l.flatMap p7):=zU fun u hu=>by
  obtain ⟨x,_,aj⟩:=tJ.1 hu;simp only [p7,sB,tP,or_false] at aj;rcases aj with rfl | rfl <;> rfl
 simp only [eQ,EA,sb,e1,b',dA,l0,sc,if_true]
theorem acL {P:Program} {C:b8} {lo id:Nat} {o:Oper} {t:TypeId} {e:Operand} {x y z:I} {H:List ar} (aq:o.op=.load t e) (cu:iL P t=some .one) (ag:H[id]?=some (.cells [x,y,z])):a3 P C lo o 13 [.ptr id 0] H=some (x.view,H):=by
 unfold a3;rw [aq];show dF P lo 13 t H [.ptr id 0]=_;unfold dF;simp only [ag,sK,tU,if_true];rw [TB cu];simp only [Nt,ag,KR];rfl
theorem Oo:∀ (S:List (Int×Int)) (i:Nat) (a b:Int),i<S.length→((S.flatMap p7).set (i*2) (h0 a)).set (i*2+1) (h0 b)=(S.set i (a,b)).flatMap p7
 | [],i,a,b,h=>absurd h (by simp)
 | s::S,0,a,b,_=>rfl
 | s::S,i+1,a,b,h=>by
   have a8:=Oo S i a b (by simpa using h);show ((h0 s.1::h0 s.2::S.flatMap p7).set ((i+1)*2) (h0 a)).set ((i+1)*2+1) (h0 b)=h0 s.1::h0 s.2::(S.set i (a,b)).flatMap p7;rw [←a8,show (i+1)*2=i*2+1+1 by omega,show i*2+1+1+1=(i*2+1)+1+1 by omega];rfl
theorem agj {P:Program} {C:b8} {lo id i:Nat} {o:Oper} {t:TypeId} {e1 b':Operand} {S:List (Int×Int)} {a b:Int} {H:List ar} (aq:o.op=.store t e1 b') (ah:bF P t=some 2) (bD:lo≤id) (hi:i<S.length) (ag:H[id]?=some (.cells (S.flatMap p7))) :
  a3 P C lo o 13 [.ptr id (i*2),.agg [h0 a,h0 b]] H=some (.a0,H.set id (.cells ((S.set i (a,b)).flatMap p7))):=by
 have ao:(S.flatMap p7).length=S.length*2:=HZ p7 2 (fun _=>rfl) S;unfold a3;rw [aq];show gm P lo 13 t H [.ptr id (i*2),.agg [h0 a,h0 b]]=_;unfold gm;simp only [ag];rw [if_neg (by omega)];unfold g8;simp only [ah,I.cells,gT,ag,if_pos bD];rw [if_pos ⟨rfl,by omega⟩,←Oo S i a b hi];rfl
theorem QL {α:Type} {f:α→α} {l:List α} (h:∀ u∈l,f u=u):l.map f=l:=by
 conv=>rhs;rw [←List.map_id l]
 exact List.map_congr_left fun u hu=>h u hu
theorem RP {S:List (Int×Int)} {H:List ar} {id n:Nat} {cap:Option Nat} (ag:H[id]?=some (.cells (S.flatMap p7))) (aI:S.length=n):rowOf H (.ref id 0 n cap 2)=some (S.flatMap p7):=by
 have ao:(S.flatMap p7).length=S.length*2:=HZ p7 2 (fun _=>rfl) S;simp only [rowOf,ag,sy,List.drop_zero];rw [if_pos (by omega),te (by omega),QL (XQ (f:=p7) (fun _=>M3 rfl (M3 rfl XR)) S)]
abbrev qq:=Int×(Int×Int)
def Lt (n:Int):List qq→List (Int×Int)→Int→Option (Option (List (Int×Int)))
 | [],S,_=>some (some S)
 | c::r,S,next=>(ID next (w (n-1)) [c.1]).bind fun a =>
   if a=true then (Kw c.2).bind fun bad=>if bad=true then some none else qs (0≤c.1∧c.1<(S.length:Int)) <| Lt n r (S.set c.1.toNat c.2) (w (c.1+1))
   else some none
def JE (p:qb) (order:List Int) (l:List qq):Option (Int×Int) :=
 (rI p [order]).bind fun r=>match r with
 | (none,q)=>if decide (q≠0)=true then some (0,q) else none
 | (some b,q)=>if decide (q≠0)=true then some (0,q) else
   qs (p.1≠[]∧p.1.length≤1000∧l.length≤1000) <|
   (Lt p.1.length l p.1 0).bind fun o=>match o with
   | none=>some (0,3)
   | some S=>(J2 ((S,p.2),()) order).bind fun c=>if decide (0<c)=true then some (0,23) else some (l.length,0)
theorem R9 {p:qb} {order:List Int} {l:List qq} {v:Int×Int} (h:JE p order l=some v):qx 19 [.agg [.av (p.1.flatMap p7) p.1.length .shared,h0 p.2.1,h0 p.2.2],.av (order.map h0) order.length .shared,.av (l.flatMap qn) l.length .shared] (.tuple [h0 v.1,h0 v.2]):=by
 unfold JE at h;obtain ⟨⟨aS,bj⟩,ai,h⟩:=p' h;refine qK eG ac4 rfl (I4 (p6 rfl (p6 rfl rfl))) fun Q bp=>?_;have jJ:∀ T H,HC [.tmp 6,.tmp 7] (.tuple [h0 v.1,h0 v.2]) .ret T H→Q .ret T H:=fun T H bE=>bp _ T H bE;unfold Wj Wo Wn;obtain ⟨nu,JL⟩:∃ c,Q8=c:=⟨_,rfl⟩;rw [JL];conv=>whnf
 refine ⟨rfl,?_⟩;conv=>whnf
 rcases aS with _ | b
 ·refine ⟨_,_,aav ai,?_⟩;conv=>whnf
  refine bs h (fun af h=>?_) fun af h=>?_
  ·rw [af];(conv=>whnf);obtain rfl:=Option.some.inj h;exact jJ _ _ (Ih rfl rfl)
  ·cases h
 ·obtain ⟨rfl,rfl,_⟩:=M9 ai;refine ⟨_,_,aau ai,?_⟩;conv=>whnf
  refine bs h (fun af h=>?_) fun af h=>?_
  ·exact absurd af (by decide)
  subst JL;unfold Q8;obtain ⟨⟨bJ,aB,ao⟩,h⟩:=rM h;obtain ⟨o,ak,h⟩:=p' h;obtain ⟨bt,eS⟩:∃ c,Q6=c:=⟨_,rfl⟩;obtain ⟨dV,Cr⟩:∃ c,Q7=c:=⟨_,rfl⟩;unfold Wm;rw [eS,Cr];conv=>whnf
  refine ⟨_,_,aaM bJ aB _ _,?_⟩;conv=>whnf
  have el:(l.flatMap qn).length=l.length*3:=HZ qn 3 (fun _=>rfl) _
  refine .intro (fun m T H=>∃ (i:Nat) (S:List (Int×Int)) (next:Int) (Y:List ar),i≤l.length∧m=l.length-i∧S.length=p.1.length∧Lt p.1.length (l.drop i) S next=some o ∧
   T=qa 74 [(1,.av (order.map h0) order.length .shared),(2,.av (l.flatMap qn) l.length .shared),(3,.bS [.av (p.1.flatMap p7) p.1.length .shared,h0 p.2.1,h0 p.2.2]),(8,.ptr 0 0),(10,h0 next),(33,.av (l.flatMap qn) l.length .shared),(34,h0 l.length),(35,h0 i)] ∧
   H=ar.cells [.ref 1 0 p.1.length none 2,h0 p.2.1,h0 p.2.2,Hk]::ar.cells (S.flatMap p7)::Y) l.length ⟨0,p.1,0,[],sC _,rfl,rfl,ak,rfl,rfl⟩ ?_
  rintro m T H ⟨i,S,next,Y,hi,rfl,cp,al,rfl,rfl⟩;conv=>whnf
  refine Hm (fun aR=>?_) (fun aR=>?_)
  ·(have HF:i<l.length:=by omega);rw [s0 HF] at al;unfold Lt at al;obtain ⟨a,cu,al⟩:=p' al;subst eS;unfold Q6 Wk;obtain ⟨a7,cf⟩:∃ c,Q5=c:=⟨_,rfl⟩;rw [cf];(conv=>whnf);(have Il:0≤(i:Int)∧(i:Int)<(l.length:Int):=by omega);refine ⟨Il,?_⟩;rw [IZ qn 3 HV l (i:Int) Il];rw [ru HF];obtain ⟨c,Qr⟩:∃ c,c=l[i]:=⟨_,rfl⟩;rw [←Qr] at cu al ⊢;(conv=>whnf);refine Ew (x:=ar.cells [h0 0,h0 0,h0 0]) (by first | exact qQ.h | rfl | (simp [sq,I.settle];done)) ?_
   (conv=>whnf);rw [HR];refine Ew (x:=ar.cells [h0 c.1,h0 c.2.1,h0 c.2.2]) (by first | exact qQ.h | rfl | (simp [sq,I.settle];done)) ?_
   (conv=>whnf);refine ⟨p6 rfl (p6 rfl (p6 rfl rfl)),_,Kv cu,?_⟩;(conv=>whnf);cases a with
   | false =>
     obtain rfl:=Option.some.inj (Ho rfl al);(conv=>whnf);obtain rfl:=Option.some.inj h;exact jJ _ _ (Ih rfl rfl)
   | true =>
     obtain ⟨bad,gN,al⟩:=p' (Hp rfl al);(conv=>whnf);refine Ew (x:=ar.cells [h0 c.1,h0 c.2.1,h0 c.2.2]) (by first | exact qQ.h | rfl | (simp [sq,I.settle];done)) ?_
     (conv=>whnf);refine ⟨p6 rfl rfl,_,Ye gN,?_⟩;(conv=>whnf);cases bad with
     | true =>
       obtain rfl:=Option.some.inj (Hp rfl al);(conv=>whnf);obtain rfl:=Option.some.inj h;exact jJ _ _ (Ih rfl rfl)
     | false =>
       obtain ⟨jM,al⟩:=rM (Ho rfl al);(conv=>whnf);subst cf;unfold Q5;(conv=>whnf);refine Ew (x:=ar.cells [h0 c.1,h0 c.2.1,h0 c.2.2]) (by first | exact qQ.h | rfl | (simp [sq,I.settle];done)) ?_
       (conv=>whnf);refine Ew (x:=ar.cells [h0 c.1,h0 c.2.1,h0 c.2.2]) (by first | exact qQ.h | rfl | (simp [sq,I.settle];done)) ?_
       (conv=>whnf);refine ⟨_,_,fun C=>acL (x:=h0 c.1) rfl (by kernel_rfl) (by first | exact qQ.h | rfl | (simp [sq,I.settle];done)),?_⟩
       (conv=>whnf);refine ⟨by omega,?_⟩;(conv=>whnf);refine ⟨.a0,ar.cells [.ref 1 0 p.1.length none 2,h0 p.2.1,h0 p.2.2,Hk]::ar.cells ((S.set c.1.toNat c.2).flatMap p7)::(Y++[ar.cells [h0 c.1,h0 c.2.1,h0 c.2.2]]),fun C=>Eq.trans (by rw [sy];exact agj (S:=S) (i:=c.1.toNat) (id:=1) rfl (by kernel_rfl) (sC _) (by omega) rfl) rfl,?_⟩;(conv=>whnf);(have rq:IntKind.i64.wrap ((i:Int)+1)=((i+1:Nat):Int):=by rw [rY _ (by omega) (by omega)];omega);exact ⟨l.length-(i+1),by omega,i+1,S.set c.1.toNat c.2,w (c.1+1),_,by omega,rfl,by simpa using cp,al,by rw [rq];rfl,rfl⟩
  ·(obtain rfl:i=l.length:=by omega);rw [uY] at al;obtain rfl:=Option.some.inj al;obtain ⟨c,ab8,h⟩:=p' h;(conv=>whnf);subst Cr;unfold Q7 Wl;have cI:rowOf (ar.cells [.ref 1 0 p.1.length none 2,h0 p.2.1,h0 p.2.2,Hk]::ar.cells (S.flatMap p7)::Y) (.ref 1 0 p.1.length none 2)=some (S.flatMap p7):=RP rfl cp;have Cn:iD (ar.cells [.ref 1 0 p.1.length none 2,h0 p.2.1,h0 p.2.2,Hk]::ar.cells (S.flatMap p7)::Y) (.ptr 0 0)=lp ((S,p.2),()):=by
    show I.bS [kh _ (.ref 1 0 p.1.length none 2),h0 p.2.1,h0 p.2.2,Hk]=_;have gb:kh (ar.cells [.ref 1 0 p.1.length none 2,h0 p.2.1,h0 p.2.2,Hk]::ar.cells (S.flatMap p7)::Y) (.ref 1 0 p.1.length none 2)=.av (S.flatMap p7) p.1.length .shared:=by
     show (match rowOf _ (.ref 1 0 p.1.length none 2) with | some row=>I.av row p.1.length .shared | none=>.ref 1 0 p.1.length none 2)=_;rw [cI]
    rw [gb,←cp]
   (conv=>whnf);refine ⟨_,_,call6 (bs:=[lp ((S,p.2),()),.av (order.map h0) order.length .shared]) (by rw [sG,Cn];rfl) (by rw [sG,Cn];exact p6 (H5 _) (p6 (rC (fun _=>rfl) _ _ _) rfl)) (M' ab8) rfl,?_⟩;(conv=>whnf);refine bs h (fun af h=>?_) fun af h=>?_
   ·rw [af];(conv=>whnf);obtain rfl:=Option.some.inj h;exact jJ _ _ (Ih rfl rfl)
   ·rw [af];(conv=>whnf);obtain rfl:=Option.some.inj h;exact jJ _ _ (Ih rfl rfl)
end Go.Proofs.YtkoioidpbbbaiaaGreat.Ab


namespace Go.Proofs.YtkoioidpbbbaiaaGreat.Ab
open Go
noncomputable def Rc:gE :=
 .block 1 (q8 [p0 20 [.nc 5] (.yM 0),qg 21 20,p3 22 1,p3 23 6,q5 24 22 23 3,qz 25 24 0,qg 26 25,p3 27 1,p3 28 6,q5 29 27 28 3,qz 30 29 1,p0 31 [.Bs 30] (.zE (.str 2)),q5 32 21 26 2,⟨none,[.jq 32,.jq 31],none,none,.st 2⟩])
noncomputable def WA:gE :=
 .seq (p2 [p3 14 6,p3 15 1,qT 16 15,qm 17 14 16 .lss] (.cond (.nc 17) .skip (.exit 0))) (.seq Rc (qF [p1 18 6,qP 19 18 1,p1 6 19]))
noncomputable def N4:gE :=
 .seq (p2 [qd 6 0] (.block 0 (.loop (some (p8 false [1,1,2,3,27])) WA))) (p2 [p0 33 [.Bs 5] (.zE (.str 3)),⟨none,[.nc 4,.jq 33],none,none,.st 3⟩] .ret)
noncomputable def WB:gE :=
 .seq (.two [p0 7 [] (.yB 0 2 [.int .i64 0,.int .i64 0] []),p0 8 [.nc 2] (.yM 0),p0 9 [.Bs 8] (.zF .one),p0 10 [.jq 7,.jq 9] (.yt 2 16),p0 11 [.nc 2] (.yM 1),p0 12 [.Bs 11] (.zF (.str 2)),p0 13 [.Bs 10,.Bs 12] (.build [.av [] 0 .full,.int .i64 0,.int .i64 0] [(0,1),(1,2)]),p0 5 [] (.alloc [.av [] 0 .full,.int .i64 0,.int .i64 0]),⟨none,[.nc 5,.jq 13],none,none,.st 3⟩] [p0 7 [] (.yB 0 2 [.int .i64 0,.int .i64 0] []),p0 8 [.nc 2] (.yM 0),p0 9 [.Bs 8] (.zF .one),p0 5 [] (.alloc [.av [] 0 .full,.int .i64 0,.int .i64 0]),p0 10 [.jq 7,.jq 9] (.yt 2 16),p0 11 [.nc 2] (.yM 1),p0 12 [.Bs 11] (.zF (.str 2)),p0 13 [.Bs 10,.Bs 12] (.build [.av [] 0 .full,.int .i64 0,.int .i64 0] [(0,1),(1,2)]),⟨none,[.nc 5,.jq 13],none,none,.st 3⟩]) N4
noncomputable def Wz:gE :=
 p2 [p0 2 [.jq 0] .yy,p0 4 [] (.alloc [.av [] 0 .full,.int .i64 0,.int .i64 0])] WB
theorem ada:ql Go.Proofs.Tryz.prog Pt 54=some (Wz,34,[.cell 4 (.str 3)]):=by kernel_rfl
end Go.Proofs.YtkoioidpbbbaiaaGreat.Ab


namespace Go.Proofs.YtkoioidpbbbaiaaGreat.Ab
open Go
set_option maxRecDepth 20000
set_option maxHeartbeats 4000000
def KH:List qq→List (Int×Int)→Option (List (Int×Int))
 | [],S=>some S
 | c::r,S=>qs (0≤c.1∧c.1<(S.length:Int)) <| KH r (S.set c.1.toNat c.2)
def Nd (p:qb) (l:List qq):Option qb :=
 qs (p.1≠[]∧p.1.length≤1000∧l.length≤1000) <| (KH l p.1).bind fun S=>some (S,p.2)
theorem Vg {p:qb} {l:List qq} {S':List (Int×Int)} (ao:l.length≤1000) (C':KH l p.1=some S') {vid rid:Nat} {Hs:List (Int×Int)→List ar} (aQ:∀ S,∃ x,(Hs S)[0]?=some (.cells [x,h0 0,h0 0])) (ad:∀ S,(Hs S)[vid]?=some (.cells [.ref rid 0 p.1.length none 2,h0 p.2.1,h0 p.2.2])) (ai:∀ S,(Hs S)[rid]?=some (.cells (S.flatMap p7))) (ah:∀ S bL,(Hs S).set rid (.cells (bL.flatMap p7))=Hs bL)
  (nJ:∀ (S:List (Int×Int)) (T:List I),S.length=p.1.length→df T 4=.ptr 0 0→HC [.cell 4 (.str 3)] (.agg [.av (S.flatMap p7) S.length .shared,h0 p.2.1,h0 p.2.2]) .ret T ((Hs S).set 0 (.cells [.ref rid 0 p.1.length none 2,h0 p.2.1,h0 p.2.2])))
  {Q:cQ→List I→List ar→Prop} (bp:∀ T H,HC [.cell 4 (.str 3)] (.agg [.av (S'.flatMap p7) S'.length .shared,h0 p.2.1,h0 p.2.2]) .ret T H→Q .ret T H) {T:List I} {v2:I} (b0:T=qa 34 [(1,.av (l.flatMap qn) l.length .shared),(2,v2),(4,.ptr 0 0),(5,.ptr vid 0)]) :
  dQ Tryz.prog Pt 54 0 none N4 T (Hs p.1) Q:=by
 subst b0;unfold N4 WA;obtain ⟨a7,cf⟩:∃ c,Rc=c:=⟨_,rfl⟩;rw [cf];conv=>whnf
 refine .intro (fun m T H=>∃ (i:Nat) (S:List (Int×Int)),i≤l.length∧m=l.length-i∧S.length=p.1.length∧KH (l.drop i) S=some S'∧T=qa 34 [(1,.av (l.flatMap qn) l.length .shared),(4,.ptr 0 0),(5,.ptr vid 0),(6,h0 i)]∧H=Hs S) l.length ⟨0,p.1,sC _,rfl,rfl,C',rfl,rfl⟩ ?_;rintro m T H ⟨i,S,hi,rfl,cp,al,rfl,rfl⟩;conv=>whnf
 refine Hm (fun aR=>?_) (fun aR=>?_)
 ·have HF:i<l.length:=by omega
  rw [s0 HF] at al;unfold KH at al;obtain ⟨jM,al⟩:=rM al;subst cf;unfold Rc;conv=>whnf
  refine Ew (ad S) ?_;conv=>whnf
  have Il:0≤(i:Int)∧(i:Int)<(l.length:Int):=by omega
  refine ⟨Il,?_⟩;rw [IZ qn 3 HV l (i:Int) Il];rw [ru HF];conv=>whnf
  refine ⟨Il,?_⟩;rw [IZ qn 3 HV l (i:Int) Il];rw [ru HF];obtain ⟨c,Qr⟩:∃ c,c=l[i]:=⟨_,rfl⟩;rw [←Qr] at al jM ⊢;conv=>whnf
  refine ⟨by omega,?_⟩;conv=>whnf
  refine Ew (ai S) ?_;conv=>whnf
  rw [show 0+c.1.toNat*2=c.1.toNat*2 by omega];have pE:(S.flatMap p7).length=S.length*2:=HZ p7 2 (fun _=>rfl) S;refine Gn (by omega) ?_;conv=>whnf
  refine Gn (by rw [List.length_set];omega) ?_;conv=>whnf
  erw [Oo S c.1.toNat c.2.1 c.2.2 (by omega),ah];have rq:IntKind.i64.wrap ((i:Int)+1)=((i+1:Nat):Int):=by rw [rY _ (by omega) (by omega)];omega
  exact ⟨l.length-(i+1),by omega,i+1,S.set c.1.toNat c.2,by omega,rfl,by simpa using cp,al,by rw [rq];rfl,rfl⟩
 ·obtain rfl:i=l.length:=by omega
  rw [uY] at al;obtain rfl:=Option.some.inj al;conv=>whnf
  refine Ew (ad S) ?_;conv=>whnf
  obtain ⟨x,aj⟩:=aQ S;refine Ew aj ?_;conv=>whnf
  exact bp _ _ (nJ S _ cp rfl)
theorem T7 {S:List (Int×Int)} {H:List ar} {id n d:Nat} {x y:Int} (aE:id<H.length) (ag:H[id]?=some (.cells (S.flatMap p7))) (aI:S.length=n):bM H 0 H.length 0 (d+3) (.agg [.ref id 0 n none 2,h0 x,h0 y])=some (.agg [.av (S.flatMap p7) n .shared,h0 x,h0 y]):=by
 have e1:bM H 0 H.length 0 (d+2) (.ref id 0 n none 2)=some (.av (S.flatMap p7) n .shared):=by
  show (if id<0 then some (I.ref id 0 n none 2) else if id=H.length then some (.ref 0 0 n none 2) else match rowOf H (.ref id 0 n none 2) with | some row=>(ea (bM H 0 H.length 0 (d+1)) row).map fun cs=>.av cs n (e3 none n) | none=>none)=_;rw [if_neg (by omega),if_neg (by omega),RP ag aI];have l0:ea (bM H 0 H.length 0 (d+1)) (S.flatMap p7)=some (S.flatMap p7):=zU fun u hu=>by
   obtain ⟨x,_,aj⟩:=tJ.1 hu;simp only [p7,sB,tP,or_false] at aj;rcases aj with rfl | rfl <;> rfl
  simp only [l0,se];rfl
 show (ea (bM H 0 H.length 0 (d+2)) [.ref id 0 n none 2,h0 x,h0 y]).map I.agg=_;rw [rv e1 (rv rfl (rv rfl IB))];rfl
theorem ahV {p:qb} {l:List qq} {v:qb} (h:Nd p l=some v):qx 54 [.agg [.av (p.1.flatMap p7) p.1.length .shared,h0 p.2.1,h0 p.2.2],.av (l.flatMap qn) l.length .shared] (.agg [.av (v.1.flatMap p7) v.1.length .shared,h0 v.2.1,h0 v.2.2]):=by
 unfold Nd at h;obtain ⟨⟨bJ,aB,ao⟩,h⟩:=rM h;obtain ⟨S',ak,h⟩:=p' h;obtain rfl:=Option.some.inj h;refine qK eG ada rfl (HU (p6 (aeK _ _ _) (p6 rfl (p6 rfl rfl)))) fun Q bp=>?_;have jJ:∀ T H,HC [.cell 4 (.str 3)] (.agg [.av (S'.flatMap p7) S'.length .shared,h0 p.2.1,h0 p.2.2]) .ret T H→Q .ret T H:=fun T H bE=>bp _ T H bE;have pE:(p.1.flatMap p7).length=p.1.length*2:=HZ p7 2 (fun _=>rfl) p.1;have Ux:p.1.length≠0:=fun e=>bJ (sO.1 e);have e1:∀ S:List (Int×Int),S.length=p.1.length→∀ T:List I,df T 4=.ptr 0 0→HC [.cell 4 (.str 3)] (.agg [.av (S.flatMap p7) S.length .shared,h0 p.2.1,h0 p.2.2]) .ret T [.cells [.ref 1 0 p.1.length none 2,h0 p.2.1,h0 p.2.2],.cells (S.flatMap p7),.cells [.ref 1 0 p.1.length none 2,h0 p.2.1,h0 p.2.2]]:=fun S cp T b0=>by
  refine ⟨.inr rfl,[.agg [.ref 1 0 p.1.length none 2,h0 p.2.1,h0 p.2.2]],by simp only [rK,b0];rfl,_,T7 (S:=S) (by simp) rfl cp,by rw [cp];rfl⟩
 have b':∀ S:List (Int×Int),S.length=p.1.length→∀ T:List I,df T 4=.ptr 0 0→HC [.cell 4 (.str 3)] (.agg [.av (S.flatMap p7) S.length .shared,h0 p.2.1,h0 p.2.2]) .ret T [.cells [.ref 2 0 p.1.length none 2,h0 p.2.1,h0 p.2.2],.cells [.ref 2 0 p.1.length none 2,h0 p.2.1,h0 p.2.2],.cells (S.flatMap p7)]:=fun S cp T b0=>by
  refine ⟨.inr rfl,[.agg [.ref 2 0 p.1.length none 2,h0 p.2.1,h0 p.2.2]],by simp only [rK,b0];rfl,_,T7 (S:=S) (by simp) rfl cp,by rw [cp];rfl⟩
 unfold Wz WB;obtain ⟨aaq,KJ⟩:∃ c,N4=c:=⟨_,rfl⟩;rw [KJ];conv=>whnf
 refine ⟨rfl,?_⟩;conv=>whnf
 refine ⟨?_,?_⟩
 ·conv=>whnf
  refine ⟨pE,by omega,?_⟩;conv=>whnf
  refine ⟨rfl,by omega,?_⟩;conv=>whnf
  refine ⟨by omega,?_⟩;conv=>whnf
  rw [sy];subst KJ;refine Vg ao ak (vid:=2) (rid:=1) (Hs:=fun S=>[.cells [.av [] 0 .full,h0 0,h0 0],.cells (S.flatMap p7),.cells [.ref 1 0 p.1.length none 2,h0 p.2.1,h0 p.2.2]]) (fun _=>⟨_,rfl⟩) (fun _=>rfl) (fun _=>rfl) (fun _ _=>rfl) (fun S T cp b0=>e1 S cp T b0) jJ rfl
 ·conv=>whnf
  refine ⟨pE,by omega,?_⟩;conv=>whnf
  refine ⟨rfl,by omega,?_⟩;conv=>whnf
  refine ⟨by omega,?_⟩;conv=>whnf
  rw [sy];subst KJ;refine Vg ao ak (vid:=1) (rid:=2) (Hs:=fun S=>[.cells [.av [] 0 .full,h0 0,h0 0],.cells [.ref 2 0 p.1.length none 2,h0 p.2.1,h0 p.2.2],.cells (S.flatMap p7)]) (fun _=>⟨_,rfl⟩) (fun _=>rfl) (fun _=>rfl) (fun _ _=>rfl) (fun S T cp b0=>b' S cp T b0) jJ rfl

abbrev qV:=Int×Int
abbrev q2:=List (Nat×qV×qV)
def q4 (A:q2):List (Nat×I×I):=A.map fun a=>(a.1,.agg (p7 a.2.1),.agg (p7 a.2.2))
theorem PR (a b:qV):gK (.agg (p7 a)) (.agg (p7 b))=some (decide (a=b)):=by
 simp only [gK,p7,dL,if_true,se,tt,Option.some.injEq];rw [Bool.eq_iff_iff];simp only [beq_iff_eq,decide_eq_true_eq,Bool.and_eq_true];exact ⟨fun h=>Prod.ext h.1 h.2,fun h=>by rw [h];exact ⟨rfl,rfl⟩⟩
theorem PX {k:qV}:∀ {A:q2} {n:Nat},(∀ x∈A,k≠x.2.1)→fH (.agg (p7 k)) (q4 A) n=some none
 | [],n,_=>rfl
 | a::A,n,h=>by
   simp only [q4,sG,fH,PR];rw [decide_eq_false (h a (by simp))];exact PX (n:=n+1) fun x aj=>h x (by simp [aj])
theorem NB {k:qV} {a:Nat×qV×qV} {R:q2} (cu:a.2.1=k):∀ {A:q2} {n:Nat},(∀ x∈A,k≠x.2.1)→fH (.agg (p7 k)) (q4 (A++a::R)) n=some (some (n+A.length))
 | [],n,_=>by
   simp only [tM,q4,sG,fH,PR];rw [decide_eq_true cu.symm];rfl
 | b::A,n,h=>by
   simp only [List.cons_append,q4,sG,fH,PR];rw [decide_eq_false (h b (by simp))];have:=NB (R:=R) cu (A:=A) (n:=n+1) fun x aj=>h x (by simp [aj]);simp only [q4] at this;show fH (.agg (p7 k)) _ (n+1)=_;rw [this,sK];congr 2;omega
theorem MY (k:qV):∀ (A:q2),(∀ x∈A,k≠x.2.1)∨∃ L a R,A=L++a::R∧a.2.1=k∧∀ x∈L,k≠x.2.1
 | []=>.inl (by simp)
 | b::A=>by
   by_cases h:b.2.1=k
   ·exact .inr ⟨[],b,A,rfl,h,by simp⟩
   ·rcases MY k A with ab | ⟨L,a,R,ab,ae,aF⟩
    ·refine .inl fun x aj=>?_;rcases sB.1 aj with rfl | aj
     ·exact fun e=>h e.symm
     ·exact ab x aj
    ·refine .inr ⟨b::L,a,R,by rw [ab];rfl,ae,fun x aj=>?_⟩;rcases sB.1 aj with rfl | aj
     ·exact fun e=>h e.symm
     ·exact aF x aj
def HO (s:q2×Nat) (k v:qV):q2×Nat :=
 if s.1.any (fun a=>decide (k=a.2.1))=true then (s.1.map fun a=>if k=a.2.1 then (a.1,k,v) else a,s.2) else (s.1++[(s.2,k,v)],s.2+1)
structure Jr (s:q2×Nat):Prop where
 ids:(s.1.map (·.1)).Nodup
 low:∀ a∈s.1,a.1<s.2
 keys:(s.1.map (·.2.1)).Nodup
theorem UH {L R:q2} {a:Nat×qV×qV} (h:((L++a::R).map (·.2.1)).Nodup):(∀ x∈L,a.2.1≠x.2.1)∧∀ x∈R,a.2.1≠x.2.1:=by
 rw [sP,sG] at h;obtain ⟨_,ae,aF⟩:=uj.1 h;refine ⟨fun x aj e=>aF _ (td aj) _ (by simp) e.symm,fun x aj e=>?_⟩;exact (tT.1 ae).1 (by rw [e];exact td aj)
theorem Vt {s:q2×Nat} {k v:qV} (h:∀ x∈s.1,k≠x.2.1):HO s k v=(s.1++[(s.2,k,v)],s.2+1):=by
 unfold HO;rw [if_neg];rw [vC];rintro ⟨x,aj,e⟩;exact h x aj (of_decide_eq_true e)
theorem Vu {L R:q2} {a:Nat×qV×qV} {c:Nat} {v:qV} (al:((L++a::R).map (·.2.1)).Nodup):HO (L++a::R,c) a.2.1 v=(L++(a.1,a.2.1,v)::R,c):=by
 obtain ⟨ab,ae⟩:=UH al;unfold HO;rw [if_pos (by rw [vC];exact ⟨a,by simp,decide_eq_true rfl⟩)];have key:∀ l:q2,(∀ x∈l,a.2.1≠x.2.1)→l.map (fun x=>if a.2.1=x.2.1 then (x.1,a.2.1,v) else x)=l:=fun l ao=>QL fun x aj=>if_neg (ao x aj);show (List.map _ (L++a::R),c)=_;rw [sP,sG,key L ab,key R ae,if_pos rfl]
theorem Jr.put {s:q2×Nat} (h:Jr s) (k v:qV):Jr (HO s k v):=by
 rcases MY k s.1 with ab | ⟨L,a,R,ab,ae,aF⟩
 ·rw [Vt ab];refine ⟨?_,?_,?_⟩
  ·rw [sP,uj];refine ⟨h.ids,by simp,fun x aj y aY e=>?_⟩;obtain ⟨z,bk,rfl⟩:=sD.1 aj;have:=h.low z bk;simp at aY;omega
  ·intro z bk;rcases tf.1 bk with bk | bk
   ·have:=h.low z bk;show z.1<s.2+1;omega
   ·simp at bk;subst bk;show s.2<s.2+1;omega
  ·rw [sP,uj];refine ⟨h.keys,by simp,fun x aj y aY e=>?_⟩;obtain ⟨z,bk,rfl⟩:=sD.1 aj;simp at aY;exact ab z bk (by rw [e,aY])
 ·obtain ⟨s1,c⟩:=s;simp only at ab;subst ab ae;rw [Vu h.keys];refine ⟨?_,?_,?_⟩
  ·have:=h.ids;simpa using this
  ·intro z bk;rcases tf.1 bk with bk | bk
   ·exact h.low z (by simp [bk])
   ·rcases sB.1 bk with rfl | bk
    ·exact h.low a (by simp)
    ·exact h.low z (by simp [bk])
  ·have:=h.keys;simpa using this
theorem Vr {α:Type} (f:α→α) (x:α) (R:List α):∀ L:List α,(L++x::R).modify L.length f=L++f x::R
 | []=>rfl
 | a::L=>by
   show (a::(L++x::R)).modify (L.length+1) f=a::(L++f x::R);rw [List.modify_succ_cons,Vr f x R L]
theorem VQ {k v:qV} {s:q2×Nat} (ah:Jr s) :
  (∃ i,fH (.agg (p7 k)) (q4 s.1) 0=some (some i)∧(q4 s.1).modify i (fun e=>(e.1,.agg (p7 k),.agg (p7 v)))=q4 (HO s k v).1∧s.2=(HO s k v).2) ∨
  (fH (.agg (p7 k)) (q4 s.1) 0=some none∧q4 s.1++[(s.2,.agg (p7 k),.agg (p7 v))]=q4 (HO s k v).1∧s.2+1=(HO s k v).2):=by
 rcases MY k s.1 with ab | ⟨L,a,R,ab,ae,aF⟩
 ·refine .inr ⟨PX ab,?_⟩;rw [Vt ab];exact ⟨by simp [q4],rfl⟩
 ·obtain ⟨s1,c⟩:=s;simp only at ab;subst ab ae;refine .inl ⟨_,NB rfl aF,?_⟩;rw [Vu ah.keys];refine ⟨?_,rfl⟩;rw [sy];simp only [q4,sP,sG];have:=Vr (fun e:Nat×I×I=>(e.1,I.agg (p7 a.2.1),I.agg (p7 v))) (a.1,I.agg (p7 a.2.1),I.agg (p7 a.2.2)) (R.map fun a=>(a.1,I.agg (p7 a.2.1),I.agg (p7 a.2.2))) (L.map fun a=>(a.1,I.agg (p7 a.2.1),I.agg (p7 a.2.2)));rw [sY] at this;exact this
def Jg (A:q2) (k:qV):Option qV:=(A.find? fun a=>decide (k=a.2.1)).map (·.2.2)
theorem adv (k:qV) (A:q2) :
  (∃ v i e,Jg A k=some v∧fH (.agg (p7 k)) (q4 A) 0=some (some i)∧(q4 A)[i]?=some e∧e.2.2=.agg (p7 v))∨(Jg A k=none∧fH (.agg (p7 k)) (q4 A) 0=some none):=by
 rcases MY k A with ab | ⟨L,a,R,ab,ae,aF⟩
 ·refine .inr ⟨?_,PX ab⟩;unfold Jg;rw [vD.2 fun x aj=>by simpa using ab x aj];rfl
 ·subst ab ae;refine .inl ⟨a.2.2,_,(a.1,.agg (p7 a.2.1),.agg (p7 a.2.2)),?_,NB rfl aF,?_,rfl⟩
  ·unfold Jg;rw [List.find?_append,vD.2 fun x aj=>by simpa using aF x aj];simp
  ·simp only [q4,sP,sG,sy];rw [ss (by simp)];simp
theorem aaZ {A:q2} {a:Nat×qV×qV} (al:(A.map (·.2.1)).Nodup) (cu:a∈A):∃ i,fH (.agg (p7 a.2.1)) (q4 A) 0=some (some i)∧(q4 A).eraseIdx i=q4 (A.filter fun x=>decide (a.2.1≠x.2.1)):=by
 obtain ⟨k,Ut⟩:∃ k,k=a.2.1:=⟨_,rfl⟩;rw [←Ut];rcases MY k A with ab | ⟨L,b,R,ab,ae,aF⟩
 ·exact absurd Ut (ab a cu)
 ·subst ab ae;refine ⟨_,NB rfl aF,?_⟩;obtain ⟨aJ,aN⟩:=UH al;have e1:(L++b::R).filter (fun x=>decide (b.2.1≠x.2.1))=L++R:=by
   rw [t_,uB (by simp),tC.2 fun x aj=>decide_eq_true (aJ x aj),tC.2 fun x aj=>decide_eq_true (aN x aj)]
  rw [e1,sy];simp only [q4,sP,sG];rw [List.eraseIdx_append_of_length_le (by simp)];simp
end Go.Proofs.YtkoioidpbbbaiaaGreat.Ab


namespace Go.Proofs.YtkoioidpbbbaiaaGreat.Ab
open Go
noncomputable def RF:gE :=
 .ov false [p3 44 1,p3 45 7,p3 46 6,p3 47 0,p0 48 [.Bs 47] .z4,qz 49 48 0,qz 50 49 1,qz 51 50 0,qg 52 51,qm 53 46 52 .mul,qm 54 45 53 .add,qm 55 44 54 .mul,p0 56 [.Bs 55,.cv (.int .i64 0)] (.build [.int .i64 0,.int .i64 0] [(0,1),(1,1)]),⟨none,[.nc 8,.jq 56],none,none,.st 2⟩]
noncomputable def Oe:gE :=
 p2 [p3 57 5,p0 58 [.Bs 8] (.zE (.str 2)),p3 59 7,p3 60 6,p0 61 [.Bs 59,.Bs 60] (.build [.int .i64 0,.int .i64 0] [(0,1),(1,1)]),⟨none,[.Bs 57,.Bs 58,.Bs 61],none,none,.zR (.str 2)⟩] (p2 [p3 62 1,qw 63 62 0 .eql] (.cond (.nc 63) (.exit 0) .skip))
noncomputable def RJ:gE :=
 .seq (.seq (q8 [p3 31 0,p0 32 [.Bs 31] .z4,qz 33 32 0,qz 34 33 1,qz 35 34 0,qg 36 35,p3 37 0,p0 38 [.Bs 37] .z4,qz 39 38 0,qz 40 39 1,qz 41 40 1,qg 42 41,qm 43 36 42 .eql]) (.cond (.nc 43) RF .skip)) Oe
noncomputable def Of:gE :=
 .block 3 (p2 [p3 24 1,p3 25 7,qm 26 24 25 .mul,p3 27 1,p3 28 6,qm 29 27 28 .mul,p0 30 [.Bs 26,.Bs 29] (.build [.int .i64 0,.int .i64 0] [(0,1),(1,1)]),p0 8 [] (.alloc [.int .i64 0,.int .i64 0]),⟨none,[.nc 8,.jq 30],none,none,.st 2⟩] RJ)
noncomputable def WR:gE :=
 .seq (p2 [p3 20 7,qw 21 20 100 .leq] (.cond (.nc 21) .skip (.exit 2))) (.seq Of (qF [p1 22 7,qP 23 22 1,p1 7 23]))
noncomputable def Og:gE :=
 .loop (some (p8 false [0,2,3,3,115])) WR
noncomputable def WS:gE :=
 .block 1 (p2 [qd 7 0] (.block 2 Og))
noncomputable def WT:gE :=
 .seq (p2 [p3 16 6,qw 17 16 10 .leq] (.cond (.nc 17) .skip (.exit 0))) (.seq WS (qF [p1 18 6,qP 19 18 1,p1 6 19]))
noncomputable def RK:gE :=
 .ov false [p1 95 10,p3 96 9,qz 97 12 0,qg 98 97,p3 99 13,p1 100 13,p0 101 [.Bs 100] (.un .neg),p0 102 [.jq 98,.jq 99,.jq 101] .max,qm 103 96 102 .mul,qm 104 95 103 .add,p1 10 104]
noncomputable def RL:gE :=
 .seq (q8 [p0 83 [.nc 12] (.yM 0),qg 84 83,p0 85 [.nc 12] (.yM 1),qg 86 85,p3 87 0,p0 88 [.Bs 87] .z4,qz 89 88 0,qz 90 89 1,qz 91 90 0,qg 92 91,qm 93 86 92 .mul,qm 94 84 93 .add,p1 13 94]) RK
noncomputable def WO:gE :=
 .block 5 (p2 [p0 81 [.nc 77,.nc 79] (.kY 2),p0 82 [.Bs 81] (.zE (.str 2)),p0 12 [] (.alloc [.int .i64 0,.int .i64 0]),⟨none,[.nc 12,.jq 82],none,none,.st 2⟩] RL)
noncomputable def RG:gE :=
 p2 [p3 112 10,p0 113 [.Bs 112] (.un .neg),p3 114 10,p0 115 [.nc 14] (.yM 0),qg 116 115,p0 117 [.Bs 116] (.yB 1 1 [.int .i64 0] [0]),p0 118 [.cv (.func 50 [] []),.nc 113,.nc 114,.nc 117] (.call 3),p0 119 [.Bs 118] (.un .not)] (.cond (.nc 119) (qF [p3 120 5,p0 121 [.Bs 14] (.zE (.str 2)),⟨none,[.jq 120,.jq 121],none,none,.zP (.str 2)⟩]) .skip)
noncomputable def RH:gE :=
 .block 7 (p2 [p0 110 [.nc 107] .yH,p0 111 [.Bs 110] (.ext 0),p0 14 [] (.alloc [.int .i64 0,.int .i64 0]),⟨none,[.nc 14,.jq 111],none,none,.st 2⟩] RG)
noncomputable def WU:gE :=
 .loop (some (p8 false [5,1,4,1,96,1,15])) (.seq (.z6 107 (some 108) [p0 109 [.Bs 108] (.ext 0)]) (.seq (.cond (.nc 109) .skip (.exit 6)) RH))
noncomputable def Od:gE :=
 .seq (p2 [p3 106 5,p0 107 [.Bs 106] .AN] (.block 6 WU)) (p2 [p1 122 5,p1 4 122] .ret)
noncomputable def Oh:gE :=
 .loop (some (p8 false [0,1,4,1,3,2,66,3,43])) (p2 [p0 80 [.nc 79,.nc 78] (.bin .lss)] (.seq (.cond (.nc 80) .skip (.exit 4)) (.seq WO (qF [qP 105 79 1,p1 79 105]))))
noncomputable def WQ:gE :=
 .seq (p2 [p3 73 0,p0 74 [.Bs 73] .z4,qz 75 74 0,qz 76 75 0,qg 77 76,p0 78 [.nc 77] .zJ,qd 79 0] (.block 4 Oh)) Od
noncomputable def RI:gE :=
 p2 [p3 64 0,p3 65 0,p0 66 [.Bs 65] .z4,qz 67 66 0,qz 68 67 0,qg 69 68,qT 70 69,qw 71 70 1 .sub,p0 72 [.cv (.func 77 [] []),.nc 64,.nc 71] (.call 3),p1 9 72] (p2 [qd 10 0] WQ)
noncomputable def Oi:gE :=
 .loop (some (p8 false [0,2,3,2,116])) WT
noncomputable def WN:gE :=
 p2 [p0 4 [.cv .a0] .mU] (p2 [p0 15 [] .zZ,p1 5 15] (.seq .skip (.seq (p2 [qd 6 (-10)] (.block 0 Oi)) RI)))
theorem adh:ql Go.Proofs.Tryz.prog KE 81=some (WN,123,[.tmp 4]):=by kernel_rfl
end Go.Proofs.YtkoioidpbbbaiaaGreat.Ab


namespace Go.Proofs.YtkoioidpbbbaiaaGreat.Ab
open Go
set_option maxRecDepth 20000
set_option maxHeartbeats 4000000
def Iz (f:Int→Bool) (A:q2) (seen:List Nat):q2:=A.filter fun a=>!(decide (a.1∈seen)) || f a.2.1.1
theorem acS (f:Int→Bool) (A:q2):Iz f A []=A:=by
 unfold Iz;exact tC.2 fun a _=>by simp
theorem acO {f:Int→Bool} {A:q2} {seen:List Nat} (h:∀ a∈Iz f A seen,a.1∈seen):Iz f A seen=A.filter fun a=>f a.2.1.1:=by
 unfold Iz;refine ui fun a cu=>?_;by_cases ah:a.1∈seen
 ·simp [ah]
 ·cases aP:f a.2.1.1 with
  | true=>simp
  | false =>
    exfalso;exact ah (h a (ta.2 ⟨cu,by simp [ah]⟩))
theorem MG {α β:Type} {g:α→β}:∀ {l:List α},(l.map g).Nodup→∀ {x y:α},x∈l→y∈l→g x=g y→x=y
 | [],_,x,y,aj,_,_=>absurd aj (by simp)
 | a::l,h,x,y,aj,aY,e=>by
   obtain ⟨ab,ae⟩:=tT.1 h;rcases sB.1 aj with aF | aF
   ·rcases sB.1 aY with ba | ba
    ·rw [aF,ba]
    ·exact absurd (by rw [←aF,e];exact td ba) ab
   ·rcases sB.1 aY with ba | ba
    ·exact absurd (by rw [←ba,←e];exact td aF) ab
    ·exact MG ae aF ba e
theorem acQ {f:Int→Bool} {A:q2} {c:Nat} {seen:List Nat} {a:Nat×qV×qV} (aL:Jr (A,c)) (cu:a∈A) (aP:f a.2.1.1=true):Iz f A (seen++[a.1])=Iz f A seen:=by
 unfold Iz;refine ui fun x aj=>?_;by_cases e:x.1=a.1
 ·have:=MG aL.ids aj cu e;subst this;simp [aP]
 ·simp [e]
theorem acP {f:Int→Bool} {A:q2} {c:Nat} {seen:List Nat} {a:Nat×qV×qV} (aL:Jr (A,c)) (cu:a∈A) (aP:f a.2.1.1=false):Iz f A (seen++[a.1])=(Iz f A seen).filter fun x=>decide (a.2.1≠x.2.1):=by
 unfold Iz;rw [uP];refine ui fun x aj=>?_;by_cases e:x.1=a.1
 ·have:=MG aL.ids aj cu e;subst this;simp [aP]
 ·have:a.2.1≠x.2.1:=fun b'=>e (by rw [MG aL.keys aj cu b'.symm])
  simp [e,this]
theorem acR {f:Int→Bool} {A:q2} {c:Nat} {seen:List Nat} (aL:Jr (A,c)):((Iz f A seen).map (·.2.1)).Nodup:=aL.keys.sublist (List.filter_sublist.map _)
theorem TV:∀ {A:q2} {a:Nat×qV×qV},(A.map (·.1)).Nodup→a∈A→(q4 A).find? (fun e=>e.1 == a.1)=some (a.1,.agg (p7 a.2.1),.agg (p7 a.2.2))
 | [],a,_,h=>absurd h (by simp)
 | b::A,a,aI,h=>by
   obtain ⟨ab,ae⟩:=tT.1 aI;simp only [q4,sG,List.find?_cons];by_cases e:b.1=a.1
   ·rw [MG aI (by simp) h e];simp
   ·have:(b.1 == a.1)=false:=by simpa using e
    rw [this];rcases sB.1 h with aF | aF
    ·exact absurd (by rw [aF]) e
    ·exact TV ae aF
theorem TM:∀ {A:q2} {seen:List Nat} {a:Nat×qV×qV},(A.map (·.1)).Nodup→a∈A→a.1 ∉ seen→(A.filter fun x=>!(decide (x.1∈seen++[a.1]))).length+1=(A.filter fun x=>!(decide (x.1∈seen))).length
 | [],_,_,_,h,_=>absurd h (by simp)
 | b::A,seen,a,aI,cu,ah=>by
   obtain ⟨ab,ae⟩:=tT.1 aI;by_cases e:b.1=a.1
   ·have b':A.filter (fun x=>!(decide (x.1∈seen++[a.1])))=A.filter fun x=>!(decide (x.1∈seen)):=ui fun x aj=>by
     have:x.1≠a.1:=fun h=>ab (show b.1∈A.map (·.1) by rw [e,←h];exact td aj)
     simp [this]
    rw [uB (by simp [e]),uX (by simp [e,ah]),b',sK]
   ·have abG:a∈A:=by
     rcases sB.1 cu with h | h
     ·exact absurd (by rw [h]) e
     ·exact h
    have a8:=TM ae abG ah;by_cases af:b.1∈seen
    ·rw [uB (by simp [af]),uB (by simp [af])];exact a8
    ·rw [uX (by simp [af,e]),uX (by simp [af]),sK,sK];omega
theorem afY {A:q2} {c:Nat} (aL:Jr (A,c)) {f:Int→Bool} {most:Int} (aP:∀ a∈A,ID (w (-most)) most [a.2.1.1]=some (f a.2.1.1)) {Y:List ar} {v0 v1 OD agN OB agO OC:I} {Q:cQ→List I→List ar→Prop}
  (bp:∀ T qC,qC.length=Y.length+1+A.length→df T 4=.map 0→Q .ret T (.map (q4 (A.filter fun a=>f a.2.1.1)) c::qC)):dQ Tryz.prog KE 81 0 none Od (qa 123 [(0,v0),(1,v1),(5,.map 0),(9,OD),(10,h0 most),(77,agN),(78,OB),(79,agO),(80,OC)]) (.map (q4 A) c::Y) Q:=by
 unfold Od WU;obtain ⟨aao,Mt⟩:∃ c,RH=c:=⟨_,rfl⟩;rw [Mt];conv=>whnf
 refine ⟨_,_,rfl,?_⟩;conv=>whnf
 refine .intro (fun m T H=>∃ (seen:List Nat) (Z:List ar),Z.length+(A.filter fun a=>!(decide (a.1∈seen))).length=A.length∧m=(A.filter fun a=>!(decide (a.1∈seen))).length∧T=qa 123 [(5,.map 0),(10,h0 most),(107,.ptr (Y.length+1) 0)]∧H=(.map (q4 (Iz f A seen)) c::Y)++(.iter 0 c seen c::Z)) _ ⟨[],[],by simp [tC.2],rfl,rfl,by rw [acS]⟩ ?_;rintro m T H ⟨seen,Z,Kc,rfl,rfl,rfl⟩;conv=>whnf
 have ai:∀ (e:ar) (s:List Nat) (Z:List ar),((e::Y)++(.iter 0 c s c::Z))[Y.length+1]?=some (.iter 0 c s c):=fun e s Z=>by
  rw [ss (by simp)];simp
 refine ⟨0,c,seen,c,_,ai _ _ _,rfl,sc _,?_,?_,?_⟩
 ·intro e he;obtain ⟨a,cu,rfl⟩:=sD.1 he;exact aL.low a (ta.1 cu).1
 ·intro c1;conv=>whnf
  rw [acO fun a cu=>c1 _ (td cu)];refine bp _ (Y++(.iter 0 c seen c::Z)) ?_ rfl
  have gb:(A.filter fun a=>!(decide (a.1∈seen))).length=0:=sO.2 (List.filter_eq_nil_iff.2 fun a cu ah=>by
   have hl:a.1 ∉ seen:=by simpa using ah
   exact hl (c1 _ (td (f:=fun a:Nat×qV×qV=>(a.1,I.agg (p7 a.2.1),I.agg (p7 a.2.2))) (ta.2 ⟨cu,by simp [hl]⟩))))
  simp;omega
 ·intro e he acv;obtain ⟨a,cu,rfl⟩:=sD.1 he;have hg:a∈A:=(ta.1 cu).1;have eH:∀ (e:ar) (x y:ar),((e::Y)++(x::Z)).set (Y.length+1) y=(e::Y)++(y::Z):=fun e x y=>by
   rw [uT _ _ (by simp)];simp
  conv=>whnf
  rw [eH];subst Mt;unfold RH;obtain ⟨aan,Ms⟩:∃ c,RG=c:=⟨_,rfl⟩;rw [Ms];conv=>whnf
  have acd:(q4 (Iz f A seen)).find? (fun e=>e.1 == a.1)=some (a.1,.agg (p7 a.2.1),.agg (p7 a.2.2)):=TV (aL.ids.sublist (List.filter_sublist.map _)) cu;refine ⟨0,c,seen++[a.1],c,a.1,_,_,ai _ _ _,by simp,rfl,acd,?_⟩;conv=>whnf
  refine Ew (x:=ar.cells [h0 0,h0 0]) (by first | exact qQ.h | rfl | (simp [sq,I.settle];done)) ?_
  conv=>whnf
  rw [HR];subst Ms;unfold RG;conv=>whnf
  refine Ew (x:=ar.cells [h0 a.2.1.1,h0 a.2.1.2]) (by first | exact qQ.h | rfl | (simp [sq,I.settle];done)) ?_
  conv=>whnf
  refine ⟨p6 rfl (p6 rfl (p6 rfl rfl)),_,Kv (aP a hg),?_⟩;conv=>whnf
  have aiE:(A.filter fun x=>!(decide (x.1∈seen++[a.1]))).length+1=(A.filter fun x=>!(decide (x.1∈seen))).length:=TM aL.ids hg acv;have GM:(A.filter fun x=>!(decide (x.1∈seen++[a.1]))).length<(A.filter fun x=>!(decide (x.1∈seen))).length:=by omega
  have Ul:∀ o,(Z++[o]).length+(A.filter fun x=>!(decide (x.1∈seen++[a.1]))).length=A.length:=fun o=>by rw [sA,List.length_singleton];omega
  cases Up:f a.2.1.1 with
  | true =>
    (conv=>whnf);exact ⟨_,GM,seen++[a.1],Z++[.cells [h0 a.2.1.1,h0 a.2.1.2]],Ul _,rfl,rfl,by rw [acQ aL hg Up];simp;exact ⟨rfl,rfl⟩⟩
  | false =>
    (conv=>whnf);refine Ew (x:=ar.cells [h0 a.2.1.1,h0 a.2.1.2]) (by first | exact qQ.h | rfl | (simp [sq,I.settle];done)) ?_
    (conv=>whnf);obtain ⟨aa0,ab9,ab_⟩:=aaZ (acR (f:=f) (seen:=seen) aL) cu;refine ⟨rfl,_,_,rfl,some aa0,ab9,?_⟩;(conv=>whnf);rw [ab_];exact ⟨_,GM,seen++[a.1],Z++[.cells [h0 a.2.1.1,h0 a.2.1.2]],Ul _,rfl,rfl,by rw [acP aL hg Up];simp;exact ⟨rfl,rfl⟩⟩
def I2 (far lo:Int):List qV→Int→Int
 | [],n=>n
 | s::r,n=>I2 far lo r (w (n+w (far*max (max s.1 (w (s.1+w (s.2*lo)))) (w (-(w (s.1+w (s.2*lo))))))))
theorem aem {b:((List (Int×Int))×(Int×Int))×Unit} (af:b.1.1.length≤1000) {rp:ar} {far:Int} {Y:List ar} {T:List I} {Q:cQ→List I→List ar→Prop}
  (b0:eZ [true,false,false,false,false,true,false,false,false,true,true,false,false,false,false,false,false,false,false,false,false,false,false,false,false,false,false,false,false,false,false,false,false,false,false,false,false,false,false,false,false,false,false,false,false,false,false,false,false,false,false,false,false,false,false,false,false,false,false,false,false,false,false,false,false,false,false,false,false,false,false,false,false,false,false,false,false,true,true,true,false,false,false,false,false,false,false,false,false,false,false,false,false,false,false,false,false,false,false,false,false,false,false,false,false,false,false,false,false,false,false,false,false,false,false,false,false,false,false,false,false,false,false] T=qa 123 [(0,lp b),(5,.map 0),(9,h0 far),(10,h0 0),(77,.av (b.1.1.flatMap p7) b.1.1.length .shared),(78,h0 b.1.1.length),(79,h0 0)])
  (bp:∀ qC OC,qC.length=Y.length+b.1.1.length→Q (.exit 4) (qa 123 [(0,lp b),(5,.map 0),(9,h0 far),(10,h0 (I2 far b.1.2.1 b.1.1 0)),(77,.av (b.1.1.flatMap p7) b.1.1.length .shared),(78,h0 b.1.1.length),(79,h0 b.1.1.length),(80,OC)]) (rp::qC)):dQ Tryz.prog KE 81 0 none Oh T (rp::Y) Q:=by
 unfold Oh;refine wp_loop b0 ?_;refine .intro (fun m T H=>∃ (i:Nat) (n:Int) (qC:List ar),i≤b.1.1.length∧qC.length=Y.length+i∧m=b.1.1.length-i∧I2 far b.1.2.1 (b.1.1.drop i) n=I2 far b.1.2.1 b.1.1 0∧T=qa 123 [(0,lp b),(5,.map 0),(9,h0 far),(10,h0 n),(77,.av (b.1.1.flatMap p7) b.1.1.length .shared),(78,h0 b.1.1.length),(79,h0 i)]∧H=rp::qC) _ ⟨0,0,Y,sC _,rfl,rfl,rfl,rfl,rfl⟩ ?_;clear b0;rintro m T H ⟨i,n,Mm,hi,abE,rfl,hm,rfl,rfl⟩;conv=>whnf
 refine Hm (fun aR=>?_) (fun aR=>?_)
 ·have HF:i<b.1.1.length:=by omega
  have Il:0≤(i:Int)∧(i:Int)<(b.1.1.length:Int):=by omega
  rw [s0 HF] at hm;unfold WO;obtain ⟨B9,JA⟩:∃ c,RL=c:=⟨_,rfl⟩;rw [JA];conv=>whnf
  refine ⟨Il,?_⟩;rw [IZ p7 2 Kj b.1.1 (i:Int) Il,ru HF];obtain ⟨s,ah⟩:∃ s,s=b.1.1[i]:=⟨_,rfl⟩;rw [←ah] at hm ⊢;conv=>whnf
  refine Ew (x:=ar.cells [h0 0,h0 0]) (by first | exact qQ.h | rfl | (simp [sq,I.settle];done)) ?_
  conv=>whnf
  rw [HR];subst JA;unfold RL;obtain ⟨nv,Iv⟩:∃ c,RK=c:=⟨_,rfl⟩;rw [Iv];conv=>whnf
  refine Ew (x:=ar.cells [h0 s.1,h0 s.2]) (by first | exact qQ.h | rfl | (simp [sq,I.settle];done)) ?_
  conv=>whnf
  refine Ew (x:=ar.cells [h0 s.1,h0 s.2]) (by first | exact qQ.h | rfl | (simp [sq,I.settle];done)) ?_
  conv=>whnf
  subst Iv;unfold RK;conv=>whnf
  refine Ew (x:=ar.cells [h0 s.1,h0 s.2]) (by first | exact qQ.h | rfl | (simp [sq,I.settle];done)) ?_
  conv=>whnf
  have rq:IntKind.i64.wrap ((i:Int)+1)=((i+1:Nat):Int):=by rw [rY _ (by omega) (by omega)];omega
  exact ⟨b.1.1.length-(i+1),by omega,i+1,_,_,by omega,by simp;omega,rfl,hm,by rw [rq];rfl,rfl⟩
 ·obtain rfl:i=b.1.1.length:=by omega
  rw [uY] at hm;obtain rfl:n=I2 far b.1.2.1 b.1.1 0:=hm;conv=>whnf
  exact bp _ _ (by omega)

def HT (lo hi x m p:Int):qV:=if lo=hi then (w (x*w (p+w (m*lo))),0) else (w (x*p),w (x*m))
def Hj (lo hi x:Int):Nat→q2×Nat
 | 0=>([],0)
 | t+1=>HO (Hj lo hi x t) (HT lo hi x ((t / 101:Nat)-10) ((t % 101:Nat))) ((t % 101:Nat),(t / 101:Nat)-10)
theorem RW (lo hi x:Int):∀ t,Jr (Hj lo hi x t)
 | 0=>⟨by simp [Hj],by simp [Hj],by simp [Hj]⟩
 | t+1=>(RW lo hi x t).put _ _
abbrev Kg (s:q2×Nat):ar:=.map (q4 s.1) s.2
theorem aal {b:((List (Int×Int))×(Int×Int))×Unit} {x m p:Int} {s:q2×Nat} (ah:Jr s) {Y:List ar} {Jl:I} {Q:cQ→List I→List ar→Prop}
  (bp:∀ qC Km Kn,qC.length=Y.length+1→Q (if x=0 then .exit 0 else .normal) (qa 123 [(0,lp b),(1,h0 x),(5,.map 0),(6,h0 m),(7,h0 p),(21,Jl),(43,Km),(63,Kn)]) (Kg (HO s (HT b.1.2.1 b.1.2.2 x m p) (p,m))::qC)) :
  dQ Tryz.prog KE 81 0 none Of (qa 123 [(0,lp b),(1,h0 x),(5,.map 0),(6,h0 m),(7,h0 p),(21,Jl)]) (Kg s::Y) Q:=by
 unfold Of;obtain ⟨bt,eS⟩:∃ c,RJ=c:=⟨_,rfl⟩;rw [eS];conv=>whnf
 refine Ew (x:=ar.cells [h0 0,h0 0]) (by first | exact qQ.h | rfl | (simp [sq,I.settle];done)) ?_
 conv=>whnf
 rw [HR];subst eS;unfold RJ;obtain ⟨a7,cf⟩:∃ c,RF=c:=⟨_,rfl⟩;obtain ⟨a9,ca⟩:∃ c,Oe=c:=⟨_,rfl⟩;rw [cf,ca];conv=>whnf
 by_cases a1:b.1.2.1=b.1.2.2
 ·rw [decide_eq_true a1];conv=>whnf
  subst cf;unfold RF;conv=>whnf
  refine Ew (x:=ar.cells [h0 (w (x*p)),h0 (w (x*m))]) (by first | exact qQ.h | rfl | (simp [sq,I.settle];done)) ?_
  conv=>whnf
  rw [HR];conv=>whnf
  subst ca;unfold Oe;conv=>whnf
  refine Ew (x:=ar.cells [h0 (w (x*w (p+w (m*b.1.2.1)))),h0 0]) (by first | exact qQ.h | rfl | (simp [sq,I.settle];done)) ?_
  conv=>whnf
  have hP:HT b.1.2.1 b.1.2.2 x m p=((w (x*w (p+w (m*b.1.2.1)))),0):=by unfold HT;rw [if_pos a1]
  rw [hP] at bp;rcases VQ (k:=((w (x*w (p+w (m*b.1.2.1)))),0)) (v:=(p,m)) ah with ⟨i,ab,ae,aF⟩ | ⟨ab,ae,aF⟩
  ·refine ⟨rfl,_,_,rfl,some i,ab,?_⟩;(conv=>whnf);erw [ae,aF];by_cases aj:x=0
   ·rw [if_pos aj] at bp;rw [decide_eq_true aj];(conv=>whnf);exact bp _ _ _ (by simp)
   ·rw [if_neg aj] at bp;rw [decide_eq_false aj];(conv=>whnf);exact bp _ _ _ (by simp)
  ·refine ⟨rfl,_,_,rfl,none,ab,?_⟩;(conv=>whnf);erw [ae,aF];by_cases aj:x=0
   ·rw [if_pos aj] at bp;rw [decide_eq_true aj];(conv=>whnf);exact bp _ _ _ (by simp)
   ·rw [if_neg aj] at bp;rw [decide_eq_false aj];(conv=>whnf);exact bp _ _ _ (by simp)
 ·rw [decide_eq_false a1];conv=>whnf
  subst ca;unfold Oe;conv=>whnf
  refine Ew (x:=ar.cells [h0 (w (x*p)),h0 (w (x*m))]) (by first | exact qQ.h | rfl | (simp [sq,I.settle];done)) ?_
  conv=>whnf
  have hP:HT b.1.2.1 b.1.2.2 x m p=((w (x*p)),(w (x*m))):=by unfold HT;rw [if_neg a1]
  rw [hP] at bp;rcases VQ (k:=((w (x*p)),(w (x*m)))) (v:=(p,m)) ah with ⟨i,ab,ae,aF⟩ | ⟨ab,ae,aF⟩
  ·refine ⟨rfl,_,_,rfl,some i,ab,?_⟩;(conv=>whnf);erw [ae,aF];by_cases aj:x=0
   ·rw [if_pos aj] at bp;rw [decide_eq_true aj];(conv=>whnf);exact bp _ _ _ (by simp)
   ·rw [if_neg aj] at bp;rw [decide_eq_false aj];(conv=>whnf);exact bp _ _ _ (by simp)
  ·refine ⟨rfl,_,_,rfl,none,ab,?_⟩;(conv=>whnf);erw [ae,aF];by_cases aj:x=0
   ·rw [if_pos aj] at bp;rw [decide_eq_true aj];(conv=>whnf);exact bp _ _ _ (by simp)
   ·rw [if_neg aj] at bp;rw [decide_eq_false aj];(conv=>whnf);exact bp _ _ _ (by simp)
theorem acC {b:((List (Int×Int))×(Int×Int))×Unit} {x:Int} {a:Nat} (cu:a≤20) (acA:x=0→a=0) {Y:List ar} {T:List I} {Q:cQ→List I→List ar→Prop}
  (b0:eZ [true,true,false,false,false,true,true,true,false,false,false,false,false,false,false,false,false,false,false,false,false,false,false,false,false,false,false,false,false,false,false,false,false,false,false,false,false,false,false,false,false,false,false,false,false,false,false,false,false,false,false,false,false,false,false,false,false,false,false,false,false,false,false,false,false,false,false,false,false,false,false,false,false,false,false,false,false,false,false,false,false,false,false,false,false,false,false,false,false,false,false,false,false,false,false,false,false,false,false,false,false,false,false,false,false,false,false,false,false,false,false,false,false,false,false,false,false,false,false,false,false,false,false] T=qa 123 [(0,lp b),(1,h0 x),(5,.map 0),(6,h0 ((a:Nat)-10)),(7,h0 0)])
  (abv:x=0→a=0→∀ qC Jm Jl Km Kn,qC.length=Y.length+1→Q (.exit 0) (qa 123 [(0,lp b),(1,h0 x),(5,.map 0),(6,h0 ((a:Nat)-10)),(7,Jm),(21,Jl),(43,Km),(63,Kn)]) (Kg (Hj b.1.2.1 b.1.2.2 x 1)::qC))
  (bp:x≠0→∀ qC Jm Jl,qC.length=Y.length+101→Q (.exit 2) (qa 123 [(0,lp b),(1,h0 x),(5,.map 0),(6,h0 ((a:Nat)-10)),(7,Jm),(21,Jl)]) (Kg (Hj b.1.2.1 b.1.2.2 x ((a+1)*101))::qC)) :
  dQ Tryz.prog KE 81 0 none Og T (Kg (Hj b.1.2.1 b.1.2.2 x (a*101))::Y) Q:=by
 unfold Og;refine wp_loop b0 ?_;refine .intro (fun m T H=>∃ (q:Nat) (qC:List ar),q≤101∧qC.length=Y.length+q∧(x=0→q=0)∧m=101-q∧T=qa 123 [(0,lp b),(1,h0 x),(5,.map 0),(6,h0 ((a:Nat)-10)),(7,h0 q)]∧H=Kg (Hj b.1.2.1 b.1.2.2 x (a*101+q))::qC) _ ⟨0,Y,sC _,rfl,fun _=>rfl,rfl,rfl,rfl⟩ ?_;clear b0;rintro m T H ⟨q,Mm,a_,abE,NM,rfl,rfl,rfl⟩;unfold WR;obtain ⟨b6,iP⟩:∃ c,Of=c:=⟨_,rfl⟩;rw [iP];conv=>whnf
 refine Hm (fun aR=>?_) (fun aR=>?_)
 ·conv=>whnf
  subst iP;have cJ:HO (Hj b.1.2.1 b.1.2.2 x (a*101+q)) (HT b.1.2.1 b.1.2.2 x ((a:Nat)-10) (q:Nat)) ((q:Nat),(a:Nat)-10)=Hj b.1.2.1 b.1.2.2 x (a*101+(q+1)):=by
   show _=HO (Hj b.1.2.1 b.1.2.2 x (a*101+q)) (HT b.1.2.1 b.1.2.2 x (((a*101+q) / 101:Nat)-10) (((a*101+q) % 101:Nat))) ((((a*101+q) % 101:Nat):Int),(((a*101+q) / 101:Nat):Int)-10);rw [show (a*101+q) / 101=a by omega,show (a*101+q) % 101=q by omega]
  refine aal (RW _ _ _ _) fun Zk Km Kn abF=>?_;rw [cJ];by_cases aj:x=0
  ·rw [if_pos aj];have ab:=acA aj;have ae:=NM aj;subst ab ae;(conv=>whnf);exact abv aj rfl _ _ _ _ _ (by omega)
  ·rw [if_neg aj];(conv=>whnf);(have rq:IntKind.i64.wrap ((q:Int)+1)=((q+1:Nat):Int):=by rw [rY _ (by omega) (by omega)];omega);exact ⟨101-(q+1),by omega,q+1,_,by omega,by omega,fun h=>absurd h aj,rfl,by rw [rq];rfl,rfl⟩
 ·have acw:q=101:=by omega
  subst acw;have aj:x≠0:=fun h=>absurd (NM h) (by decide);conv=>whnf
  rw [show a*101+101=(a+1)*101 by omega];exact bp aj _ _ _ (by omega)
theorem aew {b:((List (Int×Int))×(Int×Int))×Unit} {x:Int} {T:List I} {Q:cQ→List I→List ar→Prop}
  (b0:eZ [true,true,false,false,false,true,true,false,false,false,false,false,false,false,false,false,false,false,false,false,false,false,false,false,false,false,false,false,false,false,false,false,false,false,false,false,false,false,false,false,false,false,false,false,false,false,false,false,false,false,false,false,false,false,false,false,false,false,false,false,false,false,false,false,false,false,false,false,false,false,false,false,false,false,false,false,false,false,false,false,false,false,false,false,false,false,false,false,false,false,false,false,false,false,false,false,false,false,false,false,false,false,false,false,false,false,false,false,false,false,false,false,false,false,false,false,false,false,false,false,false,false,false] T=qa 123 [(0,lp b),(1,h0 x),(5,.map 0),(6,h0 (-10))])
  (bp:∀ Y v6 Jm XE Jl Km Kn,Y.length=(if x=0 then 1 else 2121)→Q (.exit 0) (qa 123 [(0,lp b),(1,h0 x),(5,.map 0),(6,v6),(7,Jm),(17,XE),(21,Jl),(43,Km),(63,Kn)]) (Kg (Hj b.1.2.1 b.1.2.2 x (if x=0 then 1 else 2121))::Y)) :
  dQ Tryz.prog KE 81 0 none Oi T [.map [] 0] Q:=by
 unfold Oi;refine wp_loop b0 ?_;refine .intro (fun m T H=>∃ (a:Nat) (Y:List ar),a≤21∧Y.length=a*101∧(x=0→a=0)∧m=21-a∧T=qa 123 [(0,lp b),(1,h0 x),(5,.map 0),(6,h0 ((a:Nat)-10))]∧H=Kg (Hj b.1.2.1 b.1.2.2 x (a*101))::Y) _ ⟨0,[],sC _,rfl,fun _=>rfl,rfl,rfl,rfl⟩ ?_;clear b0;rintro m T H ⟨a,Y,cu,abC,Um,rfl,rfl,rfl⟩;unfold WT WS;obtain ⟨b6,iP⟩:∃ c,Og=c:=⟨_,rfl⟩;rw [iP];conv=>whnf
 refine Hm (fun aR=>?_) (fun aR=>?_)
 ·conv=>whnf
  subst iP;refine acC (a:=a) (by omega) Um (by exact rfl) (fun aj aQ Y Jm Jl Km Kn abD=>?_) (fun aj Y Jm Jl abD=>?_)
  ·(conv=>whnf);have:=bp Y;rw [if_pos aj] at this;exact this _ _ _ _ _ _ (by subst aQ;omega)
  ·(conv=>whnf);(have rq:IntKind.i64.wrap (((a:Nat):Int)-10+1)=((a+1:Nat):Int)-10:=by rw [rY _ (by omega) (by omega)];omega);exact ⟨21-(a+1),by omega,a+1,_,by omega,by omega,fun h=>absurd h aj,rfl,by rw [rq];rfl,rfl⟩
 ·have abH:a=21:=by omega
  subst abH;have aj:x≠0:=fun h=>absurd (Um h) (by decide);conv=>whnf
  have:=bp Y;rw [if_neg aj] at this;exact this _ _ _ _ _ _ (by omega)
theorem P0:∃ m,qi=m+2:=⟨qi-2,rfl⟩
theorem Mc (lo hi n:Int):ID lo hi [n]=some (decide (lo≤n) && decide (n≤hi)):=by
 obtain ⟨m,hm⟩:=P0;have abm:Lk n lo hi=some (!(decide (lo≤n) && decide (n≤hi))):=by
  unfold Lk;by_cases ab:n<lo
  ·rw [if_pos (decide_eq_true ab),decide_eq_false (show ¬ lo≤n by omega)];rfl
  ·rw [if_neg (by simpa using ab),decide_eq_true (show lo≤n by omega)];by_cases ae:hi<n
   ·rw [decide_eq_true ae,decide_eq_false (show ¬ n≤hi by omega)];rfl
   ·rw [decide_eq_false ae,decide_eq_true (show n≤hi by omega)];rfl
 unfold ID Nk Nm;rw [hm,JG.eq_2,if_pos (show decide ((0:Int)<(([n]:List Int).length:Int))=true from rfl),qB ⟨sU _,show (0:Int)<(1:Int) by decide⟩,show ix [n] (0:Int)=n from rfl,abm,sb];cases ak:(decide (lo≤n) && decide (n≤hi))
 ·rfl
 ·rw [show w (0+1:Int)=1 from rfl,JG.eq_2];rfl
def Mf (b:((List (Int×Int))×(Int×Int))×Unit) (x:Int):Option q2 :=
 qs (b.1.1.length≤1000) <|
 (J3 b (w (b.1.1.length-1))).bind fun far =>
 some ((Hj b.1.2.1 b.1.2.2 x (if x=0 then 1 else 2121)).1.filter fun a=>decide (w (-(I2 far b.1.2.1 b.1.1 0))≤a.2.1.1) && decide (a.2.1.1≤I2 far b.1.2.1 b.1.1 0))
theorem ah8 {b:((List (Int×Int))×(Int×Int))×Unit} {x:Int} {A:q2} (h:Mf b x=some A):∃ (c:Nat) (D:List ar),Sem Tryz.prog (.fn 81) [lp b,h0 x] [] 0 (.map 0) (.map (q4 A) c::D):=by
 unfold Mf at h;obtain ⟨aI,h⟩:=rM h;obtain ⟨far,Qv,h⟩:=p' h;obtain rfl:=Option.some.inj h;obtain ⟨N,CB⟩:∃ N,N=(if x=0 then 1 else 2121)+b.1.1.length+1+(Hj b.1.2.1 b.1.2.2 x (if x=0 then 1 else 2121)).1.length:=⟨_,rfl⟩;refine ⟨(Hj b.1.2.1 b.1.2.2 x (if x=0 then 1 else 2121)).2,List.replicate N .dead,?_⟩;refine rn eG adh rfl (IA (sC _)) fun Q bp=>?_;unfold WN;obtain ⟨aip,T9⟩:∃ c,RI=c:=⟨_,rfl⟩;obtain ⟨b6,iP⟩:∃ c,Oi=c:=⟨_,rfl⟩;rw [T9,iP];conv=>whnf
 subst iP;refine aew (b:=b) (x:=x) (by exact rfl) fun Y v6 Jm XE Jl Km Kn abC=>?_;conv=>whnf
 subst T9;unfold RI WQ;obtain ⟨aio,T8⟩:∃ c,Od=c:=⟨_,rfl⟩;obtain ⟨bt,eS⟩:∃ c,Oh=c:=⟨_,rfl⟩;rw [T8,eS];conv=>whnf
 refine ⟨p6 (H5 b) (p6 rfl rfl),_,Kz Qv,?_⟩;conv=>whnf
 subst eS;refine aem (b:=b) (far:=far) aI (by exact rfl) fun Zk OC abF=>?_;conv=>whnf
 subst T8;refine afY (f:=fun k=>decide (w (-(I2 far b.1.2.1 b.1.1 0))≤k) && decide (k≤I2 far b.1.2.1 b.1.1 0)) (RW _ _ _ _) (fun a _=>Mc _ _ _) fun T aij aiD b0=>?_;refine bp _ _ _ ⟨.inr rfl,⟨by simp;omega,fun id o aq=>?_⟩,by simp only [rK,b0,jg,se]⟩;cases id with
 | zero=>exact .inr aq
 | succ id =>
   refine .inl ?_
   have:(List.replicate N ar.dead)[id]?=some o:=aq
   rw [List.getElem?_replicate] at this;split at this
   ·exact (Option.some.inj this).symm
   ·cases this

noncomputable def YY:gE :=
 p2 [p0 1 [.jq 0] .box,p0 2 [.cv (.bool false)] .mU] (p2 [p0 3 [.nc 1] (.yM 0),qg 4 3,qw 5 4 0 .geq,p1 6 5,cl 7 [.nc 1] 6 true (.yM 0),cl 8 [.Bs 7] 6 true (.zE .one),cl 9 [.Bs 8,.cv (.int .i64 100)] 6 true (.bin .leq),p0 10 [.Bs 6,.Bs 9,.cv (.bool false)] .pick,p1 11 10,cl 12 [.nc 1] 11 true (.yM 1),cl 13 [.Bs 12] 11 true (.zE .one),cl 14 [.Bs 13,.cv (.int .i64 (-10))] 11 true (.bin .geq),p0 15 [.Bs 11,.Bs 14,.cv (.bool false)] .pick,p1 16 15,cl 17 [.Bs 1] 16 true (.yM 1),cl 18 [.Bs 17] 16 true (.zE .one),cl 19 [.Bs 18,.cv (.int .i64 10)] 16 true (.bin .leq),p0 20 [.Bs 16,.Bs 19,.cv (.bool false)] .pick,p1 2 20] .ret)
theorem adY:ql Tryz.prog Tf 53=some (YY,21,[.tmp 2]):=by kernel_rfl
def Lf (s:(Int×Int)):Option Bool :=
 if (decide ((0:Int)≤s.1))=true then
  if (decide (s.1≤(100:Int)))=true then
   if (decide ((-10:Int)≤s.2))=true then
    some (decide (s.2≤(10:Int)))
   else
    some false
  else
   some false
 else
  some false
theorem Sh {s:(Int×Int)} {v:Bool} (h:Lf s=some v):qx 53 [(.agg [(h0 s.1),(h0 s.2)])] (B v):=by
 refine qK eG adY rfl rfl fun Q bp=>?_;have jJ:qH [.tmp 2] Q (fun v=>(B v)) v:=fun T H bE=>bp _ T H bE;unfold Lf at h;unfold YY;conv=>whnf
 refine bs h (fun gM h=>?_) fun gM h=>?_
 ·rw [gM];conv=>whnf
  refine bs h (fun gN h=>?_) fun gN h=>?_
  ·rw [gN];(conv=>whnf);refine bs h (fun qp h=>?_) fun qp h=>?_
   ·rw [qp];(conv=>whnf);exact qe h jJ rfl rfl
   ·rw [qp];(conv=>whnf);exact qe h jJ rfl rfl
  ·rw [gN];(conv=>whnf);exact qe h jJ rfl rfl
 ·rw [gM];conv=>whnf
  exact qe h jJ rfl rfl

noncomputable def O6:gE :=
 .loop (some (p8 false [1,1,1,2,44])) (.seq (p2 [p3 18 4,p3 19 3,qm 20 18 19 .lss] (.cond (.nc 20) .skip (.exit 0))) (.seq (.block 1 (p2 [p0 23 [.nc 1] (.yM 0),qg 24 23,p3 25 4,q5 26 24 25 2,p0 27 [.Bs 26] (.zE (.str 2)),p0 28 [.cv (.func 53 [] []),.nc 27] (.call 3),p0 29 [.Bs 28] (.un .not)] (.cond (.nc 29) (p2 [qd 2 3] .ret) .skip))) (qF [p1 21 4,qP 22 21 1,p1 4 22])))
noncomputable def O7:gE :=
 .seq (p2 [qd 4 0] (.block 0 O6)) (.seq (p2 [p0 30 [.nc 1] (.yM 1),qz 31 30 0,qg 32 31,qw 33 32 0 .lss,p1 34 33,cl 35 [.nc 1] 34 false (.yM 1),cl 36 [.Bs 35] 34 false (.yM 0),cl 37 [.Bs 36] 34 false (.zE .one),cl 38 [.nc 1] 34 false (.yM 1),cl 39 [.Bs 38] 34 false (.yM 1),cl 40 [.Bs 39] 34 false (.zE .one),cl 41 [.Bs 37,.Bs 40] 34 false (.bin .gtr),p0 42 [.Bs 34,.cv (.bool true),.Bs 41] .pick,p1 43 42,cl 44 [.Bs 1] 43 false (.yM 1),cl 45 [.Bs 44] 43 false (.yM 1),cl 46 [.Bs 45] 43 false (.zE .one),cl 47 [.Bs 46,.cv (.int .i64 50)] 43 false (.bin .gtr),p0 48 [.Bs 43,.cv (.bool true),.Bs 47] .pick] (.cond (.nc 48) (p2 [qd 2 3] .ret) .skip)) (p2 [qd 2 0] .ret))
noncomputable def YU:gE :=
 p2 [p0 1 [.jq 0] .box,qd 2 0] (p2 [p0 5 [.nc 1] (.yM 0),qg 6 5,qT 7 6,p1 3 7] (.seq (p2 [p3 8 3,qw 9 8 3 .neq,p1 10 9,cl 11 [.nc 3] 10 true .mU,cl 12 [.Bs 11,.cv (.int .i64 5)] 10 true (.bin .neq),p0 13 [.Bs 10,.Bs 12,.cv (.bool false)] .pick,p1 14 13,cl 15 [.nc 3] 14 true .mU,cl 16 [.Bs 15,.cv (.int .i64 7)] 14 true (.bin .neq),p0 17 [.Bs 14,.Bs 16,.cv (.bool false)] .pick] (.cond (.nc 17) (p2 [qd 2 6] .ret) .skip)) O7))
theorem adU:ql Tryz.prog Ns 46=some (YU,49,[.tmp 2]):=by kernel_rfl
def Ld (p:(qk×(Int×Int))) (ri:Unit→Option Int):Nat→Int→Option Int
 | 0,_=>none
 | m+1,s1 =>
   if (decide (s1<(p.1.length:Int)))=true then
    qs (0≤s1∧s1<(p.1.length:Int)) <|
    (Lf (ix p.1 s1)).bind fun aS =>
    if aS=true then
     Ld p ri m (w (s1+(1:Int)))
    else
     some (3:Int)
   else
    ri ()
def Lc (p:(qk×(Int×Int)))  : Option Int :=
 Ld p (fun _ =>
   if (decide (p.2.1<(0:Int)))=true then
    some (3:Int)
   else
    if (decide (p.2.2<p.2.1))=true then
     some (3:Int)
    else
     if (decide ((50:Int)<p.2.2))=true then
      some (3:Int)
     else
      some (0:Int)) qi (0:Int)
def Jo (p:(qk×(Int×Int))):Option Int :=
 if (decide ((p.1.length:Int)≠(3:Int)))=true then
  if (decide ((p.1.length:Int)≠(5:Int)))=true then
   if (decide ((p.1.length:Int)≠(7:Int)))=true then
    some (6:Int)
   else
    Lc p
  else
   Lc p
 else
  Lc p
theorem ahR {p:(qk×(Int×Int))} {ri:Unit→Option Int} {s1:Int} {v:Int} {Q:Hr}   (jJ:qH [.tmp 2] Q (fun v=>(h0 v)) v) (JO:∀ (qf:List I),ri ()=some v→ry 49 [(1,(.ptr 0 0))] qf→Q (.exit 0) qf [ar.cells [(re p.1 .shared),(h0 p.2.1),(h0 p.2.2)]]) {T:List I} (b0:eZ (p8 false [1,1,1,2,44]) T=qa 49 [(1,(.ptr 0 0)),(3,(h0 (p.1.length:Int))),(4,(h0 s1))]) (h:Ld p ri qi s1=some v) :
  dQ Tryz.prog Ns 46 0 none O6 T [ar.cells [(re p.1 .shared),(h0 p.2.1),(h0 p.2.2)]] Q:=by
 unfold O6;refine wp_loop b0 ?_;refine .intro (fun m T H=>∃ (s1:Int),T=qa 49 [(1,(.ptr 0 0)),(3,(h0 (p.1.length:Int))),(4,(h0 s1))]∧H=[ar.cells [(re p.1 .shared),(h0 p.2.1),(h0 p.2.2)]]∧Ld p ri m s1=some v) qi ⟨s1,rfl,rfl,h⟩ ?_;clear h b0;rintro m T H ⟨s1,rfl,rfl,h⟩;cases m
 ·exact rT h
 rename_i m;rw [Ld.eq_2] at h;conv=>whnf
 refine bs h (fun qI h=>?_) fun qI h=>?_
 ·rw [qI];conv=>whnf
  refine qW h id fun q9 h=>?_;rw [IZ p7 2 Kj p.1 s1 q9];conv=>whnf
  obtain ⟨aS,rH,h⟩:=p' h;refine ⟨qj.pl,_,Sh rH,?_⟩;conv=>whnf
  cases aS
  ·(conv=>whnf);replace h:=Ho rfl h;exact qe h jJ rfl rfl
  ·(conv=>whnf);replace h:=Hp rfl h;exact ⟨m,sE m,(w (s1+(1:Int))),rfl,rfl,h⟩
 ·rw [qI];conv=>whnf
  exact JO  _ h ⟨rfl,rfl⟩
theorem Sd {p:(qk×(Int×Int))} {v:Int} {Q:Hr}  {qf:List I}  (jJ:qH [.tmp 2] Q (fun v=>(h0 v)) v) (qA:ry 49 [(1,(.ptr 0 0)),(3,(h0 (p.1.length:Int)))] qf) (h:Lc p  = some v) :
  dQ Tryz.prog Ns 46 0 none O7 qf [ar.cells [(re p.1 .shared),(h0 p.2.1),(h0 p.2.2)]] Q:=by
 obtain ⟨rD,rfl⟩:=qA.ex;unfold Lc at h;unfold O7;obtain ⟨HN,qD⟩:∃ c,O6=c:=⟨_,rfl⟩;rw [qD];conv=>whnf
 subst qD;refine ahR ?_ ?_ (by exact rfl) h
 ·exact fun T H bE=>jJ T H bE
 ·intro  qf h qA;obtain ⟨rD,rfl⟩:=qA.ex;conv=>whnf
  refine bs h (fun qU h=>?_) fun qU h=>?_
  ·rw [qU];(conv=>whnf);exact qe h jJ rfl rfl
  ·rw [qU];(conv=>whnf);refine bs h (fun rN h=>?_) fun rN h=>?_
   ·rw [rN];(conv=>whnf);exact qe h jJ rfl rfl
   ·rw [rN];(conv=>whnf);refine bs h (fun rE h=>?_) fun rE h=>?_
    ·rw [rE];(conv=>whnf);exact qe h jJ rfl rfl
    ·rw [rE];(conv=>whnf);exact qe h jJ rfl rfl
theorem Se {p:(qk×(Int×Int))} {v:Int} (h:Jo p=some v):qx 46 [(.agg [(.av (p.1.flatMap p7) p.1.length .shared),(h0 p.2.1),(h0 p.2.2)])] (h0 v):=by
 refine qK eG adU rfl rfl fun Q bp=>?_;have jJ:qH [.tmp 2] Q (fun v=>(h0 v)) v:=fun T H bE=>bp _ T H bE;unfold Jo at h;unfold YU;obtain ⟨KG,rQ⟩:∃ c,O7=c:=⟨_,rfl⟩;rw [rQ];conv=>whnf
 refine bs h (fun gM h=>?_) fun gM h=>?_
 ·rw [gM];conv=>whnf
  refine bs h (fun gN h=>?_) fun gN h=>?_
  ·rw [gN];(conv=>whnf);refine bs h (fun qp h=>?_) fun qp h=>?_
   ·rw [qp];(conv=>whnf);exact qe h jJ rfl rfl
   ·rw [qp];(conv=>whnf);subst rQ;refine Sd ?_ (by exact ⟨rfl,rfl⟩) h;exact fun T H bE=>jJ T H bE
  ·rw [gN];(conv=>whnf);subst rQ;refine Sd ?_ (by exact ⟨rfl,rfl⟩) h;exact fun T H bE=>jJ T H bE
 ·rw [gM];conv=>whnf
  subst rQ;refine Sd ?_ (by exact ⟨rfl,rfl⟩) h;exact fun T H bE=>jJ T H bE

noncomputable def Pb:gE :=
 .loop (some (p8 false [0,2,3,1,12])) (.seq (p2 [p3 6 5,p3 7 0,qT 8 7,qm 9 6 8 .lss] (.cond (.nc 9) .skip (.exit 0))) (.seq (.block 1 (p2 [p3 12 0,p3 13 5,q5 14 12 13 1,qg 15 14,p3 16 1,qm 17 15 16 .eql] (.cond (.nc 17) (p2 [p0 4 [.cv (.bool true)] .mU] .ret) .skip))) (qF [p1 10 5,qP 11 10 1,p1 5 11])))
noncomputable def Y6:gE :=
 p2 [p0 4 [.cv (.bool false)] .mU] (.seq (p2 [qd 5 0] (.block 0 Pb)) (p2 [p0 4 [.cv (.bool false)] .mU] .ret))
theorem ad5:ql Tryz.prog Pz 72=some (Y6,18,[.tmp 4]):=by kernel_rfl
def Lj (l:p9) (n:Int) (p_:Unit→Option Bool):Nat→Int→Option Bool
 | 0,_=>none
 | m+1,s1 =>
   if (decide (s1<(l.length:Int)))=true then
    qs (0≤s1∧s1<(l.length:Int)) <|
    if (decide ((ix l s1)=n))=true then
     some true
    else
     Lj l n p_ m (w (s1+(1:Int)))
   else
    p_ ()
def Li (l:p9) (n:Int):Option Bool :=
 Lj l n (fun _ =>
   some false) qi (0:Int)
theorem ah3 {l:p9} {n:Int} {p_:Unit→Option Bool} {s1:Int} {v:Bool} {Q:Hr}   (jJ:qH [.tmp 4] Q (fun v=>(B v)) v) (rf:∀ (qf:List I),p_ ()=some v→ry 18 [] qf→Q (.exit 0) qf []) {T:List I} (b0:eZ (p8 false [0,2,3,1,12]) T=qa 18 [(0,(qG l .shared)),(1,(h0 n)),(5,(h0 s1))]) (h:Lj l n p_ qi s1=some v) :
  dQ Tryz.prog Pz 72 0 none Pb T [] Q:=by
 unfold Pb;refine wp_loop b0 ?_;refine .intro (fun m T H=>∃ (s1:Int),T=qa 18 [(0,(qG l .shared)),(1,(h0 n)),(5,(h0 s1))]∧H=[]∧Lj l n p_ m s1=some v) qi ⟨s1,rfl,rfl,h⟩ ?_;clear h b0;rintro m T H ⟨s1,rfl,rfl,h⟩;cases m
 ·exact rT h
 rename_i m;rw [Lj.eq_2] at h;conv=>whnf
 refine bs h (fun gM h=>?_) fun gM h=>?_
 ·rw [gM];conv=>whnf
  refine qW h id fun gN h=>?_;rw [rb h0 l s1 gN];conv=>whnf
  refine bs h (fun qp h=>?_) fun qp h=>?_
  ·rw [qp];(conv=>whnf);exact qe h jJ rfl rfl
  ·rw [qp];(conv=>whnf);exact ⟨m,sE m,(w (s1+(1:Int))),rfl,rfl,h⟩
 ·rw [gM];conv=>whnf
  exact rf  _ h ⟨rfl,rfl⟩
theorem Yt {l:p9} {n:Int} {v:Bool} (h:Li l n=some v):qx 72 [(.av (l.map h0) l.length .shared),(h0 n)] (B v):=by
 refine qK eG ad5 rfl rfl fun Q bp=>?_;have jJ:qH [.tmp 4] Q (fun v=>(B v)) v:=fun T H bE=>bp _ T H bE;unfold Li at h;unfold Y6;obtain ⟨HN,qD⟩:∃ c,Pb=c:=⟨_,rfl⟩;rw [qD];conv=>whnf
 subst qD;refine ah3 ?_ ?_ (by exact rfl) h
 ·exact fun T H bE=>jJ T H bE
 ·intro  qf h qA;obtain ⟨rD,rfl⟩:=qA.ex;conv=>whnf
  exact qe h jJ rfl rfl

noncomputable def O8:gE :=
 .loop (some (p8 false [1,2,2,1,42])) (.seq (p2 [p3 17 5,p3 18 1,qT 19 18,qm 20 17 19 .lss] (.cond (.nc 20) .skip (.exit 0))) (.seq (.block 1 (.seq (q8 [p3 23 1,p3 24 5,q5 25 23 24 1,qg 26 25,qw 27 26 0 .lss,p1 28 27,cl 29 [.nc 1] 28 false .mU,cl 30 [.nc 5] 28 false .mU,cl 31 [.Bs 29,.Bs 30] 28 false (.kY 1),cl 32 [.Bs 31] 28 false (.zE .one),cl 33 [.nc 2] 28 false (.yM 0),cl 34 [.Bs 33] 28 false (.zE .one),cl 35 [.jq 34] 28 false .zJ,cl 36 [.Bs 32,.Bs 35] 28 false (.bin .geq),p0 37 [.nc 28,.cv (.bool true),.Bs 36] .pick,p1 38 37,cl 39 [.nc 1] 38 false .mU,cl 40 [.nc 5] 38 false .mU,⟨some 41,[.jq 39,.jq 40],some (38,false),none,.Bh 1 false true false⟩,cl 42 [.nc 1] 38 false .mU,cl 43 [.nc 5] 38 false .mU,cl 44 [.Bs 42,.Bs 43] 38 false (.kY 1),cl 45 [.Bs 44] 38 false (.zE .one),⟨some 46,[.cv (.func 72 [] []),.nc 41,.nc 45],some (38,false),none,.call 3⟩,p0 47 [.nc 38,.cv (.bool true),.Bs 46] .pick]) (.cond (.nc 47) (p2 [qd 4 16] .ret) .skip))) (qF [p1 21 5,qP 22 21 1,p1 5 22])))
noncomputable def YX:gE :=
 p2 [p0 2 [.jq 0] .box,qd 4 0] (.seq (p2 [p0 6 [.nc 2] (.zE (.str 3)),p0 7 [.cv (.func 46 [] []),.nc 6] (.call 3),qw 8 7 0 .neq] (.cond (.nc 8) (p2 [p0 9 [.Bs 2] (.zE (.str 3)),p0 10 [.cv (.func 46 [] []),.nc 9] (.call 3),p1 4 10] .ret) .skip)) (.seq (p2 [p3 11 1,qT 12 11,p0 13 [.nc 2] (.yM 0),qg 14 13,qT 15 14,qm 16 12 15 .neq] (.cond (.nc 16) (p2 [qd 4 16] .ret) .skip)) (.seq (p2 [qd 5 0] (.block 0 O8)) (p2 [qd 4 0] .ret))))
theorem adX:ql Tryz.prog Ps 52=some (YX,48,[.tmp 4]):=by kernel_rfl
def Le (p:(qk×(Int×Int))) (order:p9) (p_:Unit→Option Int):Nat→Int→Option Int
 | 0,_=>none
 | m+1,s1 =>
   if (decide (s1<(order.length:Int)))=true then
    qs (0≤s1∧s1<(order.length:Int)) <|
    if (decide ((ix order s1)<(0:Int)))=true then
     some (16:Int)
    else
     qs (0≤s1∧s1<(order.length:Int)) <|
     if (decide ((p.1.length:Int)≤(ix order s1)))=true then
      some (16:Int)
     else
      qs (0≤s1∧s1≤(order.length:Int)) <|
      qs (0≤s1∧s1<(order.length:Int)) <|
      (Li (order.take s1.toNat) (ix order s1)).bind fun eK =>
      if eK=true then
       some (16:Int)
      else
       Le p order p_ m (w (s1+(1:Int)))
   else
    p_ ()
def Md (p:(qk×(Int×Int))) (order:p9):Option Int :=
 (Jo p).bind fun aS =>
 if (decide (aS≠(0:Int)))=true then
  (Jo p).bind fun bj =>
  some bj
 else
  if (decide ((order.length:Int)≠(p.1.length:Int)))=true then
   some (16:Int)
  else
   Le p order (fun _ =>
     some (0:Int)) qi (0:Int)
theorem ahU {p:(qk×(Int×Int))} {order:p9} {p_:Unit→Option Int} {s1:Int} {v:Int} {Q:Hr}   (jJ:qH [.tmp 4] Q (fun v=>(h0 v)) v) (rf:∀ (bx:ar) (qf:List I),p_ ()=some v→ry 48 [] qf→Q (.exit 0) qf [bx]) {T:List I} (b0:eZ (p8 false [1,2,2,1,42]) T=qa 48 [(1,(qG order .shared)),(2,(.ptr 0 0)),(5,(h0 s1))]) (h:Le p order p_ qi s1=some v) :
  dQ Tryz.prog Ps 52 0 none O8 T [ar.cells [(re p.1 .shared),(h0 p.2.1),(h0 p.2.2)]] Q:=by
 unfold O8;refine wp_loop b0 ?_;refine .intro (fun m T H=>∃ (s1:Int),T=qa 48 [(1,(qG order .shared)),(2,(.ptr 0 0)),(5,(h0 s1))]∧H=[ar.cells [(re p.1 .shared),(h0 p.2.1),(h0 p.2.2)]]∧Le p order p_ m s1=some v) qi ⟨s1,rfl,rfl,h⟩ ?_;clear h b0;rintro m T H ⟨s1,rfl,rfl,h⟩;cases m
 ·exact rT h
 rename_i m;rw [Le.eq_2] at h;conv=>whnf
 refine bs h (fun q9 h=>?_) fun q9 h=>?_
 ·rw [q9];conv=>whnf
  refine qW h id fun rH h=>?_;rw [rb h0 order s1 rH];conv=>whnf
  refine bs h (fun qU h=>?_) fun qU h=>?_
  ·rw [qU];(conv=>whnf);exact qe h jJ rfl rfl
  ·rw [qU];(conv=>whnf);refine qW h id fun rN h=>?_;rw [rb h0 order s1 rN];(conv=>whnf);refine bs h (fun rE h=>?_) fun rE h=>?_
   ·rw [rE];(conv=>whnf);exact qe h jJ rfl rfl
   ·rw [rE];(conv=>whnf);refine qW h id fun Hv h=>?_;erw [RT h0 order s1 Hv];(conv=>whnf);refine qW h id fun Kd h=>?_;rw [rb h0 order s1 Kd];(conv=>whnf);obtain ⟨eK,KM,h⟩:=p' h;refine ⟨qj.pl,_,Yt KM,Hf,?_⟩;(conv=>whnf);cases eK
    ·(conv=>whnf);replace h:=Ho rfl h;exact ⟨m,sE m,(w (s1+(1:Int))),rfl,rfl,h⟩
    ·(conv=>whnf);replace h:=Hp rfl h;exact qe h jJ rfl rfl
 ·rw [q9];conv=>whnf
  exact rf _ _ h ⟨rfl,rfl⟩
theorem Yf {p:(qk×(Int×Int))} {order:p9} {v:Int} (h:Md p order=some v):qx 52 [(.agg [(.av (p.1.flatMap p7) p.1.length .shared),(h0 p.2.1),(h0 p.2.2)]),(.av (order.map h0) order.length .shared)] (h0 v):=by
 refine qK eG adX rfl rfl fun Q bp=>?_;have jJ:qH [.tmp 4] Q (fun v=>(h0 v)) v:=fun T H bE=>bp _ T H bE;unfold Md at h;unfold YX;obtain ⟨HN,qD⟩:∃ c,O8=c:=⟨_,rfl⟩;rw [qD];conv=>whnf
 obtain ⟨aS,gM,h⟩:=p' h;refine ⟨qj.pl,_,Se gM,?_⟩;conv=>whnf
 refine bs h (fun gN h=>?_) fun gN h=>?_
 ·rw [gN];conv=>whnf
  obtain ⟨bj,qp,h⟩:=p' h;refine ⟨qj.pl,_,Se qp,?_⟩;conv=>whnf
  exact qe h jJ rfl rfl
 ·rw [gN];conv=>whnf
  refine bs h (fun qI h=>?_) fun qI h=>?_
  ·rw [qI];(conv=>whnf);exact qe h jJ rfl rfl
  ·rw [qI];(conv=>whnf);subst qD;refine ahU ?_ ?_ (by exact rfl) h
   ·exact fun T H bE=>jJ T H bE
   ·intro bx qf h qA;obtain ⟨rD,rfl⟩:=qA.ex;(conv=>whnf);exact qe h jJ rfl rfl
end Go.Proofs.YtkoioidpbbbaiaaGreat.Ab


namespace Go.Proofs.YtkoioidpbbbaiaaGreat.Ab
open Go
set_option maxRecDepth 20000
set_option maxHeartbeats 1000000
def rm (p:qb):Int:=if p.1.length=3∨p.1.length=5∨p.1.length=7 then (if (∀ s∈p.1,qM s)∧0≤p.2.1∧p.2.1≤p.2.2∧p.2.2≤50 then 0 else 3) else 6
theorem Yg (s:qv):Lf s=some (decide (qM s)):=by
 unfold Lf qM;by_cases ab:0≤s.1
 ·rw [if_pos (decide_eq_true ab)];by_cases ae:s.1≤100
  ·rw [if_pos (decide_eq_true ae)];by_cases aF:-10≤s.2
   ·rw [if_pos (decide_eq_true aF)];simp [ab,ae,aF]
   ·rw [if_neg (by simpa using aF)];simp [aF]
  ·rw [if_neg (by simpa using ae)];simp [ae]
 ·rw [if_neg (by simpa using ab)];simp [ab]
theorem UW {p:qb} (aB:p.1.length≤1000) {K:Option Int}:∀ (m i:Nat),i≤p.1.length→p.1.length-i<m→(∀ j,j<i→qM (ix p.1 (j:Int))) →
  Ld p (fun _=>K) m (i:Int)=if ∀ s∈p.1,qM s then K else some 3
 | 0,_,_,h,_=>absurd h (by omega)
 | m+1,i,hi,hm,aw=>by
   rw [Ld];by_cases aR:i<p.1.length
   ·rw [if_pos (decide_eq_true (by omega)),qB (by omega),Yg,sb,H7 i (by omega)];by_cases al:qM (ix p.1 (i:Int))
    ·rw [if_pos (decide_eq_true al)];refine UW aB m (i+1) (by omega) (by omega) fun j gi=>?_;by_cases e:j=i
     ·rw [e];exact al
     ·exact aw j (by omega)
    ·rw [if_neg (by simpa using al),if_neg];exact fun c1=>al (c1 _ (Je (by omega)))
   ·rw [if_neg (by simpa using by omega),if_pos];intro s ah;obtain ⟨j,ef,rfl⟩:=uh ah;have:=aw j (by omega)
    rwa [ru ef] at this
theorem Yb {p:qb} (aB:p.1.length≤1000):Jo p=some (rm p):=by
 have aw:Lc p=some (if (∀ s∈p.1,qM s)∧0≤p.2.1∧p.2.1≤p.2.2∧p.2.2≤50 then 0 else 3):=by
  unfold Lc;rw [show (0:Int)=((0:Nat):Int) from rfl,UW aB qi 0 (by omega) (Ie (by omega)) (fun j h=>absurd h (by omega))];by_cases h:∀ s∈p.1,qM s
  ·rw [if_pos h];by_cases ab:p.2.1<0
   ·rw [if_pos (decide_eq_true (by exact ab)),if_neg (by omega)]
   ·rw [if_neg (by simpa using by omega)];by_cases ae:p.2.2<p.2.1
    ·rw [if_pos (decide_eq_true ae),if_neg (by omega)]
    ·rw [if_neg (by simpa using by omega)];by_cases aF:50<p.2.2
     ·rw [if_pos (decide_eq_true aF),if_neg (by omega)]
     ·rw [if_neg (by simpa using by omega),if_pos ⟨h,by omega,by omega,by omega⟩]
  ·rw [if_neg h,if_neg (fun k=>h k.1)]
 unfold Jo rm;by_cases aF:p.1.length=3
 ·rw [if_neg (by simp [aF]),if_pos (.inl aF),aw]
 ·rw [if_pos (decide_eq_true (by omega))];by_cases bP:p.1.length=5
  ·rw [if_neg (by simp [bP]),if_pos (.inr (.inl bP)),aw]
  ·rw [if_pos (decide_eq_true (by omega))];by_cases cO:p.1.length=7
   ·rw [if_neg (by simp [cO]),if_pos (.inr (.inr cO)),aw]
   ·rw [if_pos (decide_eq_true (by omega)),if_neg (by omega)]
theorem Yd (s:qv):Kw s=some (!decide (qM s)):=by
 unfold Kw;rw [Mc,sb];unfold qM;by_cases h:0≤s.1∧s.1≤100
 ·rw [if_pos (by simp [h.1,h.2]),Mc,sb];by_cases ae:-10≤s.2 <;> by_cases aF:s.2≤10 <;> simp [h.1,h.2,ae,aF]
 ·rw [if_neg (by simpa using h)];rw [decide_eq_false (show ¬ (0≤s.1∧s.1≤100∧-10≤s.2∧s.2≤10) from fun k=>h ⟨k.1,k.2.1⟩)];rfl
theorem UI {S:List qv} (aB:S.length≤1000):∀ (m i:Nat),i≤S.length→S.length-i<m→(∀ j,j<i→qM (ix S (j:Int))) →
  ∃ r,K4 S (fun q6=>Kw q6) (fun _=>some (-1:Int)) m (i:Int)=some r∧decide (0≤r)=!decide (∀ s∈S,qM s)
 | 0,_,_,h,_=>absurd h (by omega)
 | m+1,i,hi,hm,aw=>by
   rw [K4];by_cases aR:i<S.length
   ·rw [if_pos (decide_eq_true (by omega)),qB (by omega),Yd,sb,H7 i (by omega)];by_cases al:qM (ix S (i:Int))
    ·rw [if_neg (by simpa using al)];refine UI aB m (i+1) (by omega) (by omega) fun j gi=>?_;by_cases e:j=i
     ·rw [e];exact al
     ·exact aw j (by omega)
    ·rw [if_pos (by simpa using al)];refine ⟨_,rfl,?_⟩;rw [decide_eq_true (by omega),decide_eq_false fun c1=>al (c1 _ (Je (by omega)))];rfl
   ·rw [if_neg (by simpa using by omega)];refine ⟨-1,rfl,?_⟩;rw [decide_eq_false (by omega),decide_eq_true];rfl;intro s ah;obtain ⟨j,ef,rfl⟩:=uh ah;have:=aw j (by omega)
    rwa [ru ef] at this
theorem ah_ {S:List qv} (aB:S.length≤1000):Nl S (fun q6=>Kw q6)=some (!decide (∀ s∈S,qM s)):=by
 unfold Nl OG;obtain ⟨r,ab,ae⟩:=UI aB qi 0 (by omega) (Ie (by omega)) (fun j h=>absurd h (by omega));rw [show (0:Int)=((0:Nat):Int) from rfl,ab,sb];exact congrArg some ae
theorem Yu (n lo hi:Int):Lk n lo hi=some (!(decide (lo≤n) && decide (n≤hi))):=by
 unfold Lk;by_cases ab:n<lo
 ·rw [if_pos (decide_eq_true ab),decide_eq_false (show ¬ lo≤n by omega)];rfl
 ·rw [if_neg (by simpa using ab),decide_eq_true (show lo≤n by omega)];by_cases ae:hi<n
  ·rw [decide_eq_true ae,decide_eq_false (show ¬ n≤hi by omega)];rfl
  ·rw [decide_eq_false ae,decide_eq_true (show n≤hi by omega)];rfl
theorem ahS (lo hi n k:Int):ID lo hi [n,k]=some ((decide (lo≤n) && decide (n≤hi)) && (decide (lo≤k) && decide (k≤hi))):=by
 obtain ⟨m,hm⟩:∃ m,qi=m+3:=⟨qi-3,rfl⟩;unfold ID Nk Nm;rw [hm,JG.eq_2,if_pos (show decide ((0:Int)<(([n,k]:List Int).length:Int))=true from rfl),qB ⟨sU _,show (0:Int)<(2:Int) by decide⟩,show ix [n,k] (0:Int)=n from rfl,Yu,sb];cases ak:(decide (lo≤n) && decide (n≤hi))
 ·rfl
 ·rw [show w (0+1:Int)=1 from rfl,if_neg (by decide),JG.eq_2,if_pos (show decide ((1:Int)<(([n,k]:List Int).length:Int))=true from rfl),qB ⟨by decide,show (1:Int)<(2:Int) by decide⟩,show ix [n,k] (1:Int)=k from rfl,Yu,sb];cases ak:(decide (lo≤k) && decide (k≤hi))
  ·rfl
  ·rw [show w (1+1:Int)=2 from rfl,JG.eq_2];rfl
theorem Yq {p:qb} (aB:p.1.length≤1000):Ni p=some (rm p):=by
 have aw:Me p (fun _=>some (0:Int)) false=some (if (∀ s∈p.1,qM s)∧0≤p.2.1∧p.2.1≤p.2.2∧p.2.2≤50 then 0 else 3):=by
  unfold Me;rw [if_neg (by decide),ah_ aB,sb];by_cases h:∀ s∈p.1,qM s
  ·rw [if_neg (by simpa using h),ahS,sb];by_cases ab:(0≤p.2.1∧p.2.1≤50)∧(0≤p.2.2∧p.2.2≤50)
   ·rw [if_pos (by simp [ab])];by_cases ae:p.2.2<p.2.1
    ·rw [if_pos (decide_eq_true ae),if_neg (by omega)]
    ·rw [if_neg (by simpa using by omega),if_pos ⟨h,by omega,by omega,by omega⟩]
   ·rw [if_neg (by simpa [and_assoc] using fun a b c=>by omega),if_neg (by omega)]
  ·rw [if_pos (by simpa using h),if_neg (fun k=>h k.1)]
 unfold Ni rm;rw [Mc,sb];have iN:(p.1.length:Int).tmod 2=((p.1.length % 2:Nat):Int):=M0 _;by_cases ai:3≤p.1.length∧p.1.length≤7
 ·rw [if_pos (by simp;omega),qB (by decide),iN];by_cases h:p.1.length=3∨p.1.length=5∨p.1.length=7
  ·rw [if_pos h,decide_eq_false (by omega),aw]
  ·rw [if_neg h,decide_eq_true (by omega)];rfl
 ·rw [if_neg (by simp;omega),if_neg (by omega)];rfl
def qo (n:Nat) (o:List Int):Prop:=o.length=n∧o.Nodup∧∀ x∈o,0≤x∧x<(n:Int)
instance (n:Nat) (o:List Int):Decidable (qo n o):=by unfold qo;exact inferInstance
def rP (p:qb) (o:List Int):Int:=if rm p≠0 then rm p else if qo p.1.length o then 0 else 16
theorem U0 {l:List Int} (ao:l.length≤1000) {v:Int}:∀ (m i:Nat),i≤l.length→l.length-i<m→(∀ j,j<i→ix l (j:Int)≠v)→Lj l v (fun _=>some false) m (i:Int)=some (decide (v∈l))
 | 0,_,_,h,_=>absurd h (by omega)
 | m+1,i,hi,hm,aw=>by
   rw [Lj];by_cases aR:i<l.length
   ·rw [if_pos (decide_eq_true (by omega)),qB (by omega),H7 i (by omega)];by_cases al:ix l (i:Int)=v
    ·rw [if_pos (decide_eq_true al),decide_eq_true (by rw [←al];exact Je (by omega))]
    ·rw [if_neg (by simpa using al)];refine U0 ao m (i+1) (by omega) (by omega) fun j gi=>?_;by_cases e:j=i
     ·rw [e];exact al
     ·exact aw j (by omega)
   ·rw [if_neg (by simpa using by omega),decide_eq_false];intro ah;obtain ⟨j,ef,e⟩:=uh ah;exact aw j (by omega) (by rw [ru ef];exact e)
theorem Ys {l:List Int} (ao:l.length≤1000) (v:Int):Li l v=some (decide (v∈l)):=by
 unfold Li;exact U0 ao qi 0 (by omega) (Ie (by omega)) (fun j h=>absurd h (by omega))
def MH (n:Nat) (o:List Int) (i:Nat):Prop:=(o.take i).Nodup∧∀ x∈o.take i,0≤x∧x<(n:Int)
theorem aeE {n:Nat} {o:List Int} {i:Nat} (hi:i<o.length):MH n o (i+1)↔MH n o i∧(0≤ix o (i:Int)∧ix o (i:Int)<(n:Int))∧ix o (i:Int) ∉ o.take i:=by
 unfold MH;rw [uZ hi,ru hi,uj];constructor
 ·rintro ⟨⟨ab,_,aF⟩,ba⟩;exact ⟨⟨ab,fun x aj=>ba x (List.mem_append_left _ aj)⟩,ba _ (List.mem_append_right _ (sS.2 rfl)),fun hm=>aF _ hm _ (sS.2 rfl) rfl⟩
 ·rintro ⟨⟨ab,ae⟩,aF,ba⟩;refine ⟨⟨ab,by simp,?_⟩,?_⟩
  ·intro a cu b af e;rw [sS] at af;subst af;subst e;exact ba cu
  ·intro x aj;rcases tf.1 aj with aj | aj
   ·exact ae x aj
   ·rw [sS] at aj;subst aj;exact aF
theorem UX {p:qb} {o:List Int} (ao:o.length≤1000) (aI:o.length=p.1.length):∀ (m i:Nat),i≤o.length→o.length-i<m→MH p.1.length o i→Le p o (fun _=>some 0) m (i:Int)=some (if qo p.1.length o then 0 else 16)
 | 0,_,_,h,_=>absurd h (by omega)
 | m+1,i,hi,hm,aw=>by
   rw [Le];by_cases aR:i<o.length
   ·rw [if_pos (decide_eq_true (by omega)),qB (by omega),H7 i (by omega)];have ft:(¬ (0≤ix o (i:Int)∧ix o (i:Int)<(p.1.length:Int))∨ix o (i:Int)∈o.take i)→¬ qo p.1.length o:=fun af al=>by
     rcases af with af | af
     ·exact af (al.2.2 _ (Je (by omega)))
     ·have:(o.take (i+1)).Nodup:=al.2.1.sublist (List.take_sublist _ _)
      rw [uZ aR,uj] at this;exact this.2.2 _ af _ (by rw [ru aR];simp) rfl
    by_cases ab:ix o (i:Int)<0
    ·rw [if_pos (decide_eq_true ab),if_neg (ft (.inl (by omega)))]
    ·rw [if_neg (by simpa using by omega),qB (by omega)];by_cases ae:(p.1.length:Int)≤ix o (i:Int)
     ·rw [if_pos (decide_eq_true ae),if_neg (ft (.inl (by omega)))]
     ·rw [if_neg (by simpa using by omega),qB (by omega),qB (by omega),tp,Ys (by rw [s9];omega),sb];by_cases aF:ix o (i:Int)∈o.take i
      ·rw [if_pos (decide_eq_true aF),if_neg (ft (.inr aF))]
      ·rw [if_neg (by simpa using aF)];exact UX ao aI m (i+1) (by omega) (by omega) ((aeE aR).2 ⟨aw,by omega,aF⟩)
   ·(obtain rfl:i=o.length:=by omega);rw [if_neg (by simp),if_pos];unfold MH at aw;rw [uV] at aw;exact ⟨aI,aw.1,aw.2⟩
theorem ahT {p:qb} (aB:p.1.length≤1000) {o:List Int} (ao:o.length≤1000):Md p o=some (rP p o):=by
 unfold Md rP;rw [Yb aB,sb,sb];by_cases h:rm p=0
 ·rw [if_neg (show ¬ decide (rm p≠0)=true by simpa using h),if_neg (show ¬ rm p≠0 by simpa using h)];by_cases aI:o.length=p.1.length
  ·rw [if_neg (show ¬ decide ((o.length:Int)≠(p.1.length:Int))=true by simp [aI])];exact UX ao aI qi 0 (by omega) (Ie (by omega)) ⟨by simp,by simp⟩
  ·rw [if_pos (show decide ((o.length:Int)≠(p.1.length:Int))=true from decide_eq_true (by omega)),if_neg (fun k=>aI k.1)]
 ·rw [if_pos (decide_eq_true h),if_pos h]
theorem agt:Sort.SWO Sort.ltInt:=by
 constructor <;> intros <;> simp_all [Sort.ltInt] <;> omega
theorem Xm (l:List Int):(IQ l).Perm l∧(IQ l).Pairwise (·≤·):=by
 obtain ⟨⟨ab,_,aF⟩,ba⟩:=Sort.insertionSort_holds (lt:=Sort.ltInt) agt l.toArray 0 l.length (sC _) (by simp);unfold IQ;generalize Sort.insertionSort Sort.ltInt l.toArray 0 l.length=d at ab aF ba;have ab:d.size=l.length:=by simpa using ab
 have e1:(d.extract 0 l.length).toList=d.toList:=by rw [←ab];simp
 have b':(l.toArray.extract 0 l.length).toList=l:=by simp
 rw [e1,b'] at aF;refine ⟨aF,List.pairwise_iff_getElem.2 fun i j hi aw h_=>?_⟩;have hi':i<d.size:=by simpa using hi
 have ef:j<d.size:=by simpa using aw
 have:=ba i j (sC _) h_ (by omega);rw [getElem!_pos d i hi',getElem!_pos d j ef] at this;simp only [Sort.ltInt,decide_eq_false_iff_not] at this;simp only [Array.getElem_toList];omega
theorem ME {n:Nat} {x:Int}:x∈qh n↔0≤x∧x<(n:Int):=by
 simp only [qh,sD,sH];exact ⟨by rintro ⟨i,hi,rfl⟩;omega,fun h=>⟨x.toNat,by omega,by omega⟩⟩
theorem XC (n:Nat):(qh n).Pairwise (·<·):=by
 unfold qh;rw [List.pairwise_map];exact List.pairwise_lt_range.imp fun h=>by omega
theorem agD (n:Nat):(qh n).Nodup:=afV (XC n)
theorem Vw:∀ {a b:List Int},a.Nodup→(∀ x∈a,x∈b)→b.length≤a.length→a.Perm b
 | [],b,_,_,h=>by
   rw [sO.1 (show b.length=0 by simpa using h)]
 | x::a,b,aI,ah,h=>by
   have aj:x∈b:=ah x (by simp);obtain ⟨ab,ae⟩:=tT.1 aI;refine (List.Perm.cons x (Vw (b:=b.erase x) ae (fun y aY=>?_) ?_)).trans (List.perm_cons_erase aj).symm
   ·exact (List.mem_erase_of_ne (fun e=>ab (by rw [←e];exact aY))).2 (ah y (by simp [aY]))
   ·rw [tS aj];simp at h;omega
theorem JU {n:Nat} {o:List Int}:qo n o↔o.Perm (qh n):=by
 constructor
 ·rintro ⟨ab,ae,aF⟩;exact Vw ae (fun x aj=>ME.2 (aF x aj)) (by simp [qh,ab])
 ·intro h;exact ⟨by rw [h.length_eq];simp [qh],h.nodup_iff.2 (agD n),fun x aj=>ME.1 (h.mem_iff.1 aj)⟩
theorem aer {n:Nat} {o:List Int}:qo n o↔o∈qX n (qh n):=by
 rw [JU,NV n _ _ (by simp [qh])]
theorem Xn {l:List Int}:(∀ j:Nat,j<(IQ l).length→ix (IQ l) (j:Int)=(j:Int))↔qo l.length l:=by
 obtain ⟨ab,ae⟩:=Xm l;have ao:=ab.length_eq;constructor
 ·intro h;have e:IQ l=qh l.length:=by
   refine List.ext_getElem (by simp [qh,ao]) fun j a b=>?_;have:=h j a;rw [ru a] at this;rw [this];simp [qh]
  rw [JU,←e];exact ab.symm
 ·intro h;have e:IQ l=qh l.length:=by
   refine List.Perm.eq_of_pairwise (le:=fun (a b:Int)=>a≤b) (fun a b _ _ x y=>by omega) ae ((XC _).imp fun h=>by omega) (ab.trans (JU.1 h))
  intro j aw;rw [ru aw];simp only [e];simp [qh]
theorem UU {eK:List Int} (ai:eK.length≤1000) {K:Option (Option (qb×Unit)×Int)}:∀ (m i:Nat),i≤eK.length→eK.length-i<m→(∀ j,j<i→ix eK (j:Int)=(j:Int)) →
  Ir eK (fun _=>K) m (i:Int)=if ∀ j:Nat,j<eK.length→ix eK (j:Int)=(j:Int) then K else some (none,16)
 | 0,_,_,h,_=>absurd h (by omega)
 | m+1,i,hi,hm,aw=>by
   rw [Ir];by_cases aR:i<eK.length
   ·rw [if_pos (decide_eq_true (by omega)),qB (by omega),H7 i (by omega)];by_cases al:ix eK (i:Int)=(i:Int)
    ·rw [if_neg (by simpa using al)];refine UU ai m (i+1) (by omega) (by omega) fun j gi=>?_;by_cases e:j=i
     ·rw [e];exact al
     ·exact aw j (by omega)
    ·rw [if_pos (decide_eq_true al),if_neg (fun h=>al (h i aR))]
   ·rw [if_neg (by simpa using by omega),if_pos fun j ao=>aw j (by omega)]
theorem OP {p:qb} (aB:p.1.length≤1000) {o:List Int} (ao:o.length≤12):rI p [o]=some (if rP p o=0 then (some (p,()),0) else (none,rP p o)):=by
 unfold rI rP;rw [Yq aB,sb];by_cases h:rm p=0
 ·rw [if_neg (show ¬ decide (rm p≠0)=true by simpa using h)];rw [if_neg (show ¬ rm p≠0 by simpa using h)];obtain ⟨m,hm⟩:=P0;rw [show Hz p [o] (fun _=>some (some (p,()),0)) qi 0=Hz p [o] (fun _=>some (some (p,()),0)) (m+2) 0 by rw [hm],Hz.eq_2,if_pos (show decide ((0:Int)<(([o]:List (List Int)).length:Int))=true from rfl),qB ⟨sU _,show (0:Int)<(1:Int) by decide⟩,show ix [o] (0:Int)=o from rfl];rw [show OS o=some () from rfl,sb,show OQ o=some (IQ o) from if_pos ao,sb];have ah:=Xm o;have DG:=ah.1.length_eq;rw [show (0:Int)=((0:Nat):Int) from rfl,UU (by omega) qi 0 (by omega) (Ie (by omega)) (fun j h=>absurd h (by omega))];by_cases ab:qo o.length o
  ·rw [if_pos (Xn.2 ab)];by_cases aI:o.length=p.1.length
   ·rw [if_neg (show ¬ decide ((o.length:Int)≠(p.1.length:Int))=true by simp [aI]),if_pos (by rw [←aI,if_pos ab]),show w (((0:Nat):Int)+1)=1 from rfl,Hz.eq_2];rfl
   ·have ft:¬ qo p.1.length o:=fun k=>aI k.1;rw [if_pos (show decide ((o.length:Int)≠(p.1.length:Int))=true from decide_eq_true (by omega)),if_neg ft];rfl
  ·have ft:¬ qo p.1.length o:=fun k=>ab (by rw [k.1];exact k);rw [if_neg (fun k=>ab (Xn.1 k)),if_neg ft];rfl
 ·rw [if_pos (decide_eq_true h),if_pos h,if_neg h]
theorem Sb {p:qb} (aB:p.1.length≤1000):rI p []=some (if rm p=0 then (some (p,()),0) else (none,rm p)):=by
 unfold rI;rw [Yq aB,sb];by_cases h:rm p=0
 ·rw [if_neg (show ¬ decide (rm p≠0)=true by simpa using h),if_pos h];obtain ⟨m,hm⟩:=P0;rw [show Hz p [] (fun _=>some (some (p,()),0)) qi 0=Hz p [] (fun _=>some (some (p,()),0)) (m+2) 0 by rw [hm],Hz.eq_2];rfl
 ·rw [if_pos (decide_eq_true h),if_neg h]
structure qY (p:qb):Prop where
 n:p.1.length=3∨p.1.length=5∨p.1.length=7
 s:∀ s∈p.1,qM s
 lo:0≤p.2.1
 le:p.2.1≤p.2.2
 hi:p.2.2≤50
theorem I_ {p:qb}:rm p=0↔qY p:=by
 unfold rm;constructor
 ·intro h;split at h
  ·rename_i ab;split at h
   ·rename_i ae;exact ⟨ab,ae.1,ae.2.1,ae.2.2.1,ae.2.2.2⟩
   ·omega
  ·omega
 ·intro h;rw [if_pos h.n,if_pos ⟨h.s,h.lo,h.le,h.hi⟩]
theorem KS {p:qb} {o:List Int}:rP p o=0↔qY p∧qo p.1.length o:=by
 unfold rP;by_cases h:rm p=0
 ·rw [if_neg (by simpa using h)];by_cases ab:qo p.1.length o
  ·rw [if_pos ab];exact ⟨fun _=>⟨I_.1 h,ab⟩,fun _=>rfl⟩
  ·rw [if_neg ab];exact ⟨fun k=>by omega,fun k=>absurd k.2 ab⟩
 ·rw [if_pos h];exact ⟨fun k=>absurd k h,fun k=>I_.2 k.1⟩
theorem rR {S:List qv} {o:List Int} (h:qo S.length o):JI S o:=fun i hi=>h.2.2 _ (Je (by omega))
end Go.Proofs.YtkoioidpbbbaiaaGreat.Ab
