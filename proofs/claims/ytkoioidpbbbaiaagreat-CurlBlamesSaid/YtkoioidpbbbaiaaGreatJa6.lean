
import Derived.Test.YtkoioidpbbbaiaaGreatJa5
import Derived.KernelRfl
import Derived.Test.YtkoioidpbbbaiaaGreatJa4
import Derived.Test.YtkoioidpbbbaiaaGreatProg
set_option linter.unusedSimpArgs false
set_option linter.unusedVariables false
set_option linter.unusedSectionVars false

open Array renaming length_toList→s_
open Bool renaming and_true→tx
open Classical renaming choose_spec→uJ
open Int renaming le_refl→sY,toNat_natCast→tD
open List renaming any_eq_true→vM,append_assoc→sC,append_nil→sM,drop_eq_getElem_cons→sV,drop_length→uO,exists_cons_of_ne_nil→tY,filter_append→tE,filter_congr→uq,filter_cons_of_neg→uN,filter_cons_of_pos→vn,filter_eq_self→tS,filter_filter→uH,find?_eq_none→uL,flatMap_append→uB,getD_eq_getElem?_getD→sB,getElem?_append→sr,getElem?_append_right→sv,getElem?_eq_getElem→sm,getElem?_eq_some_iff→sd,getElem?_map→sq,getElem_map→tX,getElem_of_mem→vl,length_append→sD,length_cons→sO,length_eq_zero_iff→sT,length_erase_of_mem→tR,length_map→sZ,length_nil→ug,length_take→s9,map_append→sR,map_cons→sI,map_set→tQ,mem_append→sU,mem_cons→sy,mem_filter→tc,mem_flatMap→tW,mem_map→sH,mem_map_of_mem→tn,mem_range→sJ,mem_singleton→sK,nil_append→uy,nodup_append→tZ,nodup_cons→tU,not_mem_nil→uc,set_append_right→vj,take_length→uM,take_of_length_le→tb,take_succ_eq_append_getElem→uP
open Nat renaming add_assoc→tj,le_refl→se,lt_succ_self→sg,zero_add→sG,zero_le→sE
open Option renaming bind_some→sc,map_eq_some_iff→sb,map_some→si
namespace Go.Proofs.YtkoioidpbbbaiaaGreat.Ab
open Go
set_option maxRecDepth 20000
set_option maxHeartbeats 4000000
theorem YI (l:List Int) (ao:l.length≤1000):Seq Tryz.prog 87 [.bR [.av (l.map hX) l.length .shared]] (l.map hX):=by
 intro L N q5 hlen fm ai Y;obtain ⟨Z,Ld,KB⟩:=ahs ai Y;have r7:(l.map hX).length=l.length:=by simp
 have VO:∀ j (h:j<l.length),Sem Tryz.prog (.yield L) [hX l[j]] (q5 j++Z j) 0 (.bool true) (q5 (j+1)++Z (j+1)):=fun j aw=>by
  have:=KB j (by rw [r7];exact aw);rw [tX] at this;exact this
 refine ⟨Z l.length,?_⟩;rw [r7];refine rL eD aer rfl (IP ?_) fun Q bo=>?_
 ·have key:∀ j,j≤l.length→(q5 0++Y).length≤(q5 j++Z j).length:=fun j=>by
   induction j with
   | zero=>intro _;rw [Ld];exact se _
   | succ j a8=>intro aw;exact Nat.le_trans (a8 (by omega)) (VO j (by omega)).1.1
  exact key l.length (se _)
 unfold Ys;conv=>whnf
 refine .intro (fun m T H=>∃ j:Nat,j≤l.length∧m=l.length-j∧T=qg 16 [(0,.yield L),(5,.av (l.map hX) l.length .shared),(6,hX (l.length:Int)),(7,hX (j:Int))]∧H=q5 j++Z j) l.length ⟨0,sE _,rfl,rfl,by rw [Ld]⟩ ?_;rintro m T H ⟨j,aw,rfl,rfl,rfl⟩;conv=>whnf
 refine HH (fun J6=>?_) (fun J6=>?_)
 ·have aR:j<l.length:=by omega
  have af:0≤(j:Int)∧(j:Int)<(l.length:Int):=by omega
  conv=>whnf
  refine ⟨af,?_⟩;rw [rj hX l (j:Int) af];conv=>whnf
  rw [rI aR];refine ⟨_,_,rH (VO j aR),?_⟩;conv=>whnf
  refine ⟨l.length-(j+1),by omega,j+1,by omega,rfl,?_,rfl⟩;rw [show ((j+1:Nat):Int)=IntKind.i64.wrap ((j:Int)+1) by rw [HR _ (by omega) (by omega)];omega];rfl
 ·obtain rfl:j=l.length:=by omega
  conv=>whnf
  exact bo _ _ _ ⟨.inl rfl,lF.refl _,rfl⟩
def I9 (l:List Int):List Int:=(Sort.insertionSort Sort.ltInt l.toArray 0 l.length).toList
theorem V7 (lt:Int→Int→Bool) (d:Array Int) (a b:Nat):(Sort.insertionSort lt d a b).size=d.size:=by
 have kB:∀ (j:Nat) (d:Array Int),(Sort.insInner lt a j d).size=d.size:=fun j=>by
  induction j with
  | zero=>intro d;rfl
  | succ j a8 =>
    intro d;rw [Sort.insInner];split
    ·rw [a8,swp_size]
    ·rfl
 show (Sort.insOuter lt a b (a+1) d).size=d.size
 have:∀ (n i:Nat) (d:Array Int),b-i=n→(Sort.insOuter lt a b i d).size=d.size:=fun n=>by
  induction n with
  | zero=>intro i d h;rw [Sort.insOuter.eq_1,if_neg (by omega)]
  | succ n a8=>intro i d h;rw [Sort.insOuter.eq_1,if_pos (by omega),a8 _ _ (by omega),kB]
 exact this _ _ d rfl
section
variable {H:List ar} {lo:Nat}
theorem adQ:Sem Go.Proofs.Tryz.prog (.fn 110) [.av [] 0 .full,hX 0,hX 0] H lo (.tuple []) H:=by
 refine rL eD WJ rfl (a'.refl _ _) fun Q bo=>?_;unfold Sk;conv=>whnf
 refine .intro (fun m T H'=>T=qg 49 [(0,.av [] 0 .full),(1,hX 0),(2,hX 0),(6,hX 1)]∧H=H') 0 ⟨rfl,rfl⟩ ?_;rintro m T H' ⟨rfl,rfl⟩;conv=>whnf
 exact bo _ _ _ ⟨.inl rfl,⟨by simp,fun j o aw=>.inr aw⟩,rfl⟩
theorem afX {JC:Int}:Sem Go.Proofs.Tryz.prog (.fn 103) [.av [] 0 .full,hX 0,hX 0,hX JC] H lo (.tuple []) H:=by
 refine rL eD WI rfl (a'.refl _ _) fun Q bo=>?_;unfold Si;obtain ⟨Q3,Jv⟩:∃ c,NS=c:=⟨_,rfl⟩;rw [Jv];conv=>whnf
 refine .intro (fun m T H'=>T=qg 134 [(0,.av [] 0 .full),(1,hX 0),(2,hX 0),(3,hX JC),(8,B true),(9,B true)]∧H'=H) 0 ⟨rfl,rfl⟩ ?_;rintro m T H' ⟨rfl,rfl⟩;subst Jv;unfold NS;obtain ⟨a7,cc⟩:∃ c,NR=c:=⟨_,rfl⟩;obtain ⟨Q2,La⟩:∃ c,Sj=c:=⟨_,rfl⟩;rw [cc,La];conv=>whnf
 subst cc;unfold NR;conv=>whnf
 refine ⟨_,_,rH adQ,?_⟩;conv=>whnf
 exact bo _ _ _ ⟨.inr rfl,⟨rfl,fun j o aw=>.inr aw⟩,rfl⟩
theorem ahA:Sem Go.Proofs.Tryz.prog (.fn 86) [.av [] 0 .full] H lo (.tuple []) H:=by
 refine rL eD WO rfl (a'.refl _ _) fun Q bo=>?_;unfold SW;conv=>whnf
 refine ⟨by first | rfl | simp only [List.all_cons,List.all_nil,Mr,Mz,Ms,Mu,Mt,Mv,MB,MA,Kb,Mw,Mx,My,tx,Bool.and_self],_,OH 0 (by decide),?_⟩
 conv=>whnf
 refine ⟨_,_,rH afX,?_⟩;conv=>whnf
 exact bo _ _ _ ⟨.inl rfl,⟨by simp,fun j o aw=>.inr aw⟩,rfl⟩
end
def P2 (l:List Int):Option (List Int):=if l.length≤12 then some (I9 l) else none
theorem TB {l v:List Int} (h:P2 l=some v):qw 67 [.func 87 [] [.bR [.av (l.map hX) l.length .shared]]] (.av (v.map hX) v.length .shared):=by
 unfold P2 at h;split at h
 ·rename_i ak;obtain rfl:=Option.some.inj h;by_cases aQ:l.length=0
  ·obtain rfl:=sT.1 aQ;have adM:I9 []=[]:=sT.1 (by unfold I9;rw [s_,V7];rfl);rw [adM];have hg:[I.bR [.av (([]:List Int).map hX) ([]:List Int).length .shared]].all (cn 7)=true:=rfl;refine qO eD WL rfl (rM (fun _=>rfl) _ _ _) fun Q bo=>?_;unfold SG Yi;(conv=>whnf);refine ⟨_,_,Ng (p7 (I8 rfl hg) rfl) (Ve hg (YI [] (by simp)) (by simp)) _ _,?_⟩;(conv=>whnf);refine ⟨_,_,rH ahA,?_⟩;(conv=>whnf);refine ⟨_,_,fun C=>rfl,?_⟩;(conv=>whnf);exact bo _ _ _ ⟨.inr rfl,_,rfl,_,yW rfl,rfl⟩
  replace ak:0<l.length∧l.length≤12:=⟨by omega,ak⟩;have hg:[I.bR [.av (l.map hX) l.length .shared]].all (cn 7)=true:=p7 (Ir (p7 (rM (fun _=>rfl) _ _ _) rfl)) rfl;have cE:=Ve hg (YI l (by omega)) (by omega);have cl:=ahw (lo:=0) (id:=0) (se 0) l.toArray (by simpa using ak.2) (H:=[IJ l.toArray]) rfl;obtain ⟨S,Rn⟩:∃ S,S=Sort.insertionSort Sort.ltInt l.toArray 0 l.toArray.size:=⟨_,rfl⟩;have ad:I9 l=S.toList:=by rw [Rn];unfold I9;simp
  have bQ:S.size=l.length:=by rw [Rn,V7];simp
  rw [←Rn] at cl;rw [ad];have bI:l≠[]:=fun e=>by rw [e] at ak;exact absurd ak.1 (by decide)
  have ado:OK l=.av (l.map hX) l.length (.uniq 1):=by
   cases l with
   | nil=>exact absurd rfl bI
   | cons a l=>rfl
  rw [ado] at cE;refine qO eD WL rfl (rM (fun _=>rfl) _ _ _) fun Q bo=>?_;unfold SG;conv=>whnf
  refine ⟨_,_,Ng (p7 (I8 rfl hg) rfl) cE _ _,?_⟩;conv=>whnf
  refine .inl ⟨by omega,?_⟩;conv=>whnf
  have e1:ar.cells (l.map hX)=IJ l.toArray:=rfl;have b9:I.ref 0 0 l.length none 1=Ks 0 l.toArray.size:=by unfold Ks;simp
  erw [e1];refine ⟨_,_,rH (by show Sem Tryz.prog (.fn 86) [I.ref 0 0 l.length none 1] [IJ l.toArray] 0 (.tuple []) [IJ S];rw [b9];exact cl),?_⟩;conv=>whnf
  have cF:rowOf [IJ S] (.ref 0 0 l.length none 1)=some (S.toList.map hX):=ahl rfl (bQ.symm.trans s_.symm) fun _=>rfl;refine ⟨.av (S.toList.map hX) l.length .shared,[.dead],fun C=>?_,?_⟩
  ·show ((rowOf [IJ S] (.ref 0 0 l.length none 1)).bind fun row=>some (I.av row l.length .shared,[ar.dead]))=_;rw [cF];rfl
  conv=>whnf
  rw [show S.toList.length=l.length from s_.trans bQ] at bo;exact bo _ _ _ ⟨.inr rfl,_,rfl,_,yW (rM (fun _=>rfl) _ _ _),rfl⟩
 ·cases h

noncomputable def Qx:gB :=
 .loop (some (qd false [0,2,5,2,10])) (p5 [p3 9 [.m_ 8,.m_ 7] (.bin .lss)] (.seq (.cond (.m_ 9) .skip (.exit 0)) (.seq (.block 1 (p5 [p6 10 8,p4 5 10] (p5 [p6 11 1,p6 12 0,p6 13 5,rn 14 12 13 1,qm 15 14,p3 16 [.m_ 11,.m_ 15] (.call 6)] (.cond (.m_ 16) (p5 [p4 17 5,p4 4 17] .ret) .skip)))) (qF [qW 18 8 1,p4 8 18]))))
noncomputable def aaV:gB :=
 p5 [qh 4 0] (.seq (p5 [p6 6 0,q2 7 6,qh 8 0] (.block 0 Qx)) (p5 [qh 4 (-1)] .ret))
theorem afu:qu Tryz.prog QY 88=some (aaV,19,[.tmp 4]):=by qb
def JY (s:qa) (f:(Int→Option Bool)) (qc:Unit→Option Int):Nat→Int→Option Int
 | 0,_=>none
 | m+1,s1 =>
   if (decide (s1<(s.length:Int)))=true then
    qs (0≤s1∧s1<(s.length:Int)) <|
    (f (ix s s1)).bind fun aS =>
    if aS=true then
     some s1
    else
     JY s f qc m (w (s1+(1:Int)))
   else
    qc ()
def Ow (s:qa) (f:(Int→Option Bool)):Option Int :=
 JY s f (fun _ =>
   some (-1:Int)) qi (0:Int)
theorem ajp {s:qa} {f:(Int→Option Bool)} {qc:Unit→Option Int} {s1:Int} {Hk:FuncId} {rP:List I} (Hx:HF rP) (JA:∀ (rh:Int) (r:Bool),f rh=some r→qw Hk ((hX rh)::rP) (B r)) {v:Int} {Q:rS}   (jG:qL [.tmp 4] Q (fun v=>(hX v)) v) (ra:∀ (qf:List I),qc ()=some v→rm 19 [] qf→Q (.exit 0) qf []) {T:List I} (bZ:eW (qd false [0,2,5,2,10]) T=qg 19 [(0,(qz s .shared)),(1,(.func Hk [] rP)),(7,(hX (s.length:Int))),(8,(hX s1))]) (h:JY s f qc qi s1=some v) :
  dN Tryz.prog QY 88 0 none Qx T [] Q:=by
 unfold Qx;refine wp_loop bZ ?_;refine .intro (fun m T H=>∃ (s1:Int),T=qg 19 [(0,(qz s .shared)),(1,(.func Hk [] rP)),(7,(hX (s.length:Int))),(8,(hX s1))]∧H=[]∧JY s f qc m s1=some v) qi ⟨s1,rfl,rfl,h⟩ ?_;clear h bZ;rintro m T H ⟨s1,rfl,rfl,h⟩;cases m
 ·exact rA h
 rename_i m;rw [JY.eq_2] at h;conv=>whnf
 refine bs h (fun gJ h=>?_) fun gJ h=>?_
 ·rw [gJ];conv=>whnf
  refine qE h id fun gK h=>?_;rw [rj hX s s1 gK];conv=>whnf
  obtain ⟨aS,qt,h⟩:=p' h;refine ⟨_,_,call6 (bs:=((hX (ix s s1))::rP)) (by simp only [sI,Hx.iA,Hx.ca];rfl) (by simp only [sI,Hx.iA];exact (p7 rfl Hx.T5)) (JA _ _ qt) rfl,?_⟩;conv=>whnf
  cases aS
  ·(conv=>whnf);replace h:=rq rfl h;exact ⟨m,sg m,(w (s1+(1:Int))),rfl,rfl,h⟩
  ·(conv=>whnf);replace h:=rp rfl h;exact qe h jG rfl rfl
 ·rw [gJ];conv=>whnf
  exact ra  _ h ⟨rfl,rfl⟩
theorem ajq {s:qa} {f:(Int→Option Bool)} {Hk:FuncId} {rP:List I} (Hx:HF rP) (JA:∀ (rh:Int) (r:Bool),f rh=some r→qw Hk ((hX rh)::rP) (B r)) {v:Int} (h:Ow s f=some v):qw 88 [(.av (s.map hX) s.length .shared),(.func Hk [] rP)] (hX v):=by
 refine qO eD afu rfl rfl fun Q bo=>?_;have jG:qL [.tmp 4] Q (fun v=>(hX v)) v:=fun T H bD=>bo _ T H bD;unfold Ow at h;unfold aaV;obtain ⟨r_,qD⟩:∃ c,Qx=c:=⟨_,rfl⟩;rw [qD];conv=>whnf
 subst qD;refine ajp Hx JA ?_ ?_ (by exact rfl) h
 ·exact fun T H bD=>jG T H bD
 ·intro  qf h qA;obtain ⟨rr,rfl⟩:=qA.ex;conv=>whnf
  exact qe h jG rfl rfl

noncomputable def aaN:gB :=
 p5 [p3 4 [.cv (.bool false)] .mR] (p5 [p4 5 0,p4 6 1,p3 7 [.cv (.func 88 [] []),.m_ 5,.m_ 6] (.call 6),qv 8 7 0 .geq,p4 4 8] .ret)
theorem afm:qu Tryz.prog UL 73=some (aaN,9,[.tmp 4]):=by qb
def Ot (s:qa) (f:(Int→Option Bool)):Option Bool :=
 (Ow s f).bind fun aS =>
 some (decide ((0:Int)≤aS))
theorem ajc {s:qa} {f:(Int→Option Bool)} {Hk:FuncId} {rP:List I} (Hx:HF rP) (JA:∀ (rh:Int) (r:Bool),f rh=some r→qw Hk ((hX rh)::rP) (B r)) {v:Bool} (h:Ot s f=some v):qw 73 [(.av (s.map hX) s.length .shared),(.func Hk [] rP)] (B v):=by
 refine qO eD afm rfl rfl fun Q bo=>?_;have jG:qL [.tmp 4] Q (fun v=>(B v)) v:=fun T H bD=>bo _ T H bD;unfold Ot at h;unfold aaN;conv=>whnf
 obtain ⟨aS,gJ,h⟩:=p' h;refine ⟨_,_,Q5 (cs:=[(qz s .shared),(.func Hk [] rP)]) (bs:=[(qz s .shared),(.func Hk [] rP)]) (KE rfl (KE (Hx.fn _ _) NI)) (by rfl) (by exact (p7 (rM (fun _=>rfl) _ _ _) (p7 (Hx.Xf _) rfl))) (ajq Hx JA gJ) rfl,?_⟩;conv=>whnf
 exact qe h jG rfl rfl

noncomputable def aaO:gB :=
 p5 [p3 4 [.cv (.bool false)] .mR] (p5 [p6 5 0,qm 6 1,qq 7 5 6 .lss,p4 8 7,ch 9 [.jm 0] 8 false .mR,ch 10 [.Bs 2] 8 false (.zE .one),ch 11 [.Bs 9,.Bs 10] 8 false (.bin .gtr),p3 12 [.Bs 8,.cv (.bool true),.Bs 11] .pick,p4 4 12] .ret)
theorem afn:qu Tryz.prog UM 74=some (aaO,13,[.tmp 4]):=by qb
def LX (n g6 a7:Int):Option Bool :=
 if (decide (n<g6))=true then
  some true
 else
  some (decide (a7<n))
theorem ajd {n:Int} {g6:Int} {a7:Int} {v:Bool} (h:LX n g6 a7=some v):qw 74 [(hX n),(.bR [(hX g6)]),(.bR [(hX a7)])] (B v):=by
 refine qO eD afn rfl rfl fun Q bo=>?_;have jG:qL [.tmp 4] Q (fun v=>(B v)) v:=fun T H bD=>bo _ T H bD;unfold LX at h;unfold aaO;conv=>whnf
 refine bs h (fun gJ h=>?_) fun gJ h=>?_
 ·rw [gJ];conv=>whnf
  exact qe h jG rfl rfl
 ·rw [gJ];conv=>whnf
  exact qe h jG rfl rfl

noncomputable def aaB:gB :=
 p5 [p3 3 [.jm 0] .box,p3 4 [.jm 1] .box,p3 6 [.cv (.bool false)] .mR] (p5 [p4 7 2,p3 8 [.Bs 3,.Bs 4] (.zY 74 0 2),p3 9 [.cv (.func 73 [] []),.m_ 7,.m_ 8] (.call 6),p3 10 [.Bs 9] (.un .not),p4 6 10] .ret)
theorem afa:qu Tryz.prog UA 50=some (aaB,11,[.tmp 6]):=by qb
def IU (lo hi:Int) (l:qa):Option Bool :=
 (Ot l (fun rh=>LX rh lo hi)).bind fun aS =>
 some (!aS)
theorem KX {lo:Int} {hi:Int} {l:qa} {v:Bool} (h:IU lo hi l=some v):qw 50 [(hX lo),(hX hi),(.av (l.map hX) l.length .shared)] (B v):=by
 refine qO eD afa rfl rfl fun Q bo=>?_;have jG:qL [.tmp 6] Q (fun v=>(B v)) v:=fun T H bD=>bo _ T H bD;unfold IU at h;unfold aaB;conv=>whnf
 obtain ⟨aS,gJ,h⟩:=p' h;refine ⟨_,_,Q5 (cs:=[(qz l .shared),(.func 74 [] [(.bR [(hX lo)]),(.bR [(hX hi)])])]) (bs:=[(qz l .shared),(.func 74 [] [(.bR [(hX lo)]),(.bR [(hX hi)])])]) (KE rfl (KE (ahv NI (KE (YR (cs:=[(hX lo)]) (by first | exact q7.h | rfl | (simp [sr,I.settle];done)) rfl) (KE (YR (cs:=[(hX hi)]) (by first | exact q7.h | rfl | (simp [sr,I.settle];done)) rfl) NI))) NI)) (by rfl) (by exact (p7 (rM (fun _=>rfl) _ _ _) (p7 (I8 rfl (p7 (Ir (p7 rfl rfl)) (p7 (Ir (p7 rfl rfl)) rfl))) rfl))) (ajc ⟨(p7 (Ir (p7 rfl rfl)) (p7 (Ir (p7 rfl rfl)) rfl)),by simp⟩ (fun _ _ aY=>ajd aY) gJ) rfl,?_⟩
 conv=>whnf
 exact qe h jG rfl rfl

noncomputable def aaC:gB :=
 p5 [p3 1 [.jm 0] .box,p3 2 [.cv (.bool false)] .mR] (p5 [p3 3 [.m_ 1] (.yM 0),qm 4 3,p3 5 [.Bs 4] (.yB 1 1 [.int .i64 0] [0]),p3 6 [.cv (.func 50 [] []),.cv (.int .i64 0),.cv (.int .i64 100),.m_ 5] (.call 3),p3 7 [.Bs 6] (.un .not),p4 8 7,ch 9 [.Bs 1] 8 false (.yM 1),ch 10 [.Bs 9] 8 false (.zE .one),⟨some 11,[.Bs 10],some (8,false),none,.yB 1 1 [.int .i64 0] [0]⟩,⟨some 12,[.cv (.func 50 [] []),.cv (.int .i64 (-10)),.cv (.int .i64 10),.m_ 11],some (8,false),none,.call 3⟩,ch 13 [.Bs 12] 8 false (.un .not),p3 14 [.Bs 8,.cv (.bool true),.Bs 13] .pick,p4 2 14] .ret)
theorem afb:qu Tryz.prog UB 51=some (aaC,15,[.tmp 2]):=by qb
def KY (s:(Int×Int)):Option Bool :=
 (IU (0:Int) (100:Int) [s.1]).bind fun aS =>
 if aS=true then
  (IU (-10:Int) (10:Int) [s.2]).bind fun bh =>
  some (!bh)
 else
  some true
theorem ZN {s:(Int×Int)} {v:Bool} (h:KY s=some v):qw 51 [(.agg [(hX s.1),(hX s.2)])] (B v):=by
 refine qO eD afb rfl rfl fun Q bo=>?_;have jG:qL [.tmp 2] Q (fun v=>(B v)) v:=fun T H bD=>bo _ T H bD;unfold KY at h;unfold aaC;conv=>whnf
 obtain ⟨aS,gJ,h⟩:=p' h;refine ⟨(p7 rfl (p7 rfl (p7 rfl rfl))),_,KX gJ,?_⟩;conv=>whnf
 cases aS
 ·conv=>whnf
  replace h:=rq rfl h;exact qe h jG rfl rfl
 ·conv=>whnf
  replace h:=rp rfl h;obtain ⟨bh,gK,h⟩:=p' h;refine ⟨(p7 rfl (p7 rfl (p7 rfl rfl))),_,KX gK,?_⟩;conv=>whnf
  exact qe h jG rfl rfl

noncomputable def P7:gB :=
 .loop (some (qd false [0,2,5,2,10])) (p5 [p3 9 [.m_ 8,.m_ 7] (.bin .lss)] (.seq (.cond (.m_ 9) .skip (.exit 0)) (.seq (.block 1 (p5 [p6 10 8,p4 5 10] (p5 [p6 11 1,p6 12 0,p6 13 5,rn 14 12 13 2,p3 15 [.Bs 14] (.zE (.str 2)),p3 16 [.m_ 11,.m_ 15] (.call 6)] (.cond (.m_ 16) (p5 [p4 17 5,p4 4 17] .ret) .skip)))) (qF [qW 18 8 1,p4 8 18]))))
noncomputable def Z9:gB :=
 p5 [qh 4 0] (.seq (p5 [p6 6 0,q2 7 6,qh 8 0] (.block 0 P7)) (p5 [qh 4 (-1)] .ret))
theorem aeH:qu Tryz.prog QG 101=some (Z9,19,[.tmp 4]):=by qb
def LF (s:qk) (f:((Int×Int)→Option Bool)) (qc:Unit→Option Int):Nat→Int→Option Int
 | 0,_=>none
 | m+1,s1 =>
   if (decide (s1<(s.length:Int)))=true then
    qs (0≤s1∧s1<(s.length:Int)) <|
    (f (ix s s1)).bind fun aS =>
    if aS=true then
     some s1
    else
     LF s f qc m (w (s1+(1:Int)))
   else
    qc ()
def PM (s:qk) (f:((Int×Int)→Option Bool)):Option Int :=
 LF s f (fun _ =>
   some (-1:Int)) qi (0:Int)
theorem aif {s:qk} {f:((Int×Int)→Option Bool)} {qc:Unit→Option Int} {s1:Int} {Hk:FuncId} {rP:List I} (Hx:HF rP) (JA:∀ (rh:(Int×Int)) (r:Bool),f rh=some r→qw Hk ((.agg [(hX rh.1),(hX rh.2)])::rP) (B r)) {v:Int} {Q:rS}   (jG:qL [.tmp 4] Q (fun v=>(hX v)) v) (ra:∀ (qf:List I),qc ()=some v→rm 19 [] qf→Q (.exit 0) qf []) {T:List I} (bZ:eW (qd false [0,2,5,2,10]) T=qg 19 [(0,(qZ s .shared)),(1,(.func Hk [] rP)),(7,(hX (s.length:Int))),(8,(hX s1))]) (h:LF s f qc qi s1=some v) :
  dN Tryz.prog QG 101 0 none P7 T [] Q:=by
 unfold P7;refine wp_loop bZ ?_;refine .intro (fun m T H=>∃ (s1:Int),T=qg 19 [(0,(qZ s .shared)),(1,(.func Hk [] rP)),(7,(hX (s.length:Int))),(8,(hX s1))]∧H=[]∧LF s f qc m s1=some v) qi ⟨s1,rfl,rfl,h⟩ ?_;clear h bZ;rintro m T H ⟨s1,rfl,rfl,h⟩;cases m
 ·exact rA h
 rename_i m;rw [LF.eq_2] at h;conv=>whnf
 refine bs h (fun gJ h=>?_) fun gJ h=>?_
 ·rw [gJ];conv=>whnf
  refine qE h id fun gK h=>?_;rw [IZ p_ 2 Lq s s1 gK];conv=>whnf
  obtain ⟨aS,qt,h⟩:=p' h;refine ⟨_,_,call6 (bs:=((.agg [(hX (ix s s1).1),(hX (ix s s1).2)])::rP)) (by simp only [sI,Hx.iA,Hx.ca];rfl) (by simp only [sI,Hx.iA];exact (p7 (H4 (p7 rfl (p7 rfl rfl))) Hx.T5)) (JA _ _ qt) rfl,?_⟩;conv=>whnf
  cases aS
  ·(conv=>whnf);replace h:=rq rfl h;exact ⟨m,sg m,(w (s1+(1:Int))),rfl,rfl,h⟩
  ·(conv=>whnf);replace h:=rp rfl h;exact qe h jG rfl rfl
 ·rw [gJ];conv=>whnf
  exact ra  _ h ⟨rfl,rfl⟩
theorem aih {s:qk} {f:((Int×Int)→Option Bool)} {Hk:FuncId} {rP:List I} (Hx:HF rP) (JA:∀ (rh:(Int×Int)) (r:Bool),f rh=some r→qw Hk ((.agg [(hX rh.1),(hX rh.2)])::rP) (B r)) {v:Int} (h:PM s f=some v):qw 101 [(.av (s.flatMap p_) s.length .shared),(.func Hk [] rP)] (hX v):=by
 refine qO eD aeH rfl rfl fun Q bo=>?_;have jG:qL [.tmp 4] Q (fun v=>(hX v)) v:=fun T H bD=>bo _ T H bD;unfold PM at h;unfold Z9;obtain ⟨r_,qD⟩:∃ c,P7=c:=⟨_,rfl⟩;rw [qD];conv=>whnf
 subst qD;refine aif Hx JA ?_ ?_ (by exact rfl) h
 ·exact fun T H bD=>jG T H bD
 ·intro  qf h qA;obtain ⟨rr,rfl⟩:=qA.ex;conv=>whnf
  exact qe h jG rfl rfl

noncomputable def aaU:gB :=
 p5 [p3 4 [.cv (.bool false)] .mR] (p5 [p4 5 0,p4 6 1,p3 7 [.cv (.func 101 [] []),.m_ 5,.m_ 6] (.call 6),qv 8 7 0 .geq,p4 4 8] .ret)
theorem aft:qu Tryz.prog UR 84=some (aaU,9,[.tmp 4]):=by qb
def Ov (s:qk) (f:((Int×Int)→Option Bool)):Option Bool :=
 (PM s f).bind fun aS =>
 some (decide ((0:Int)≤aS))
theorem ajo {s:qk} {f:((Int×Int)→Option Bool)} {Hk:FuncId} {rP:List I} (Hx:HF rP) (JA:∀ (rh:(Int×Int)) (r:Bool),f rh=some r→qw Hk ((.agg [(hX rh.1),(hX rh.2)])::rP) (B r)) {v:Bool} (h:Ov s f=some v):qw 84 [(.av (s.flatMap p_) s.length .shared),(.func Hk [] rP)] (B v):=by
 refine qO eD aft rfl rfl fun Q bo=>?_;have jG:qL [.tmp 4] Q (fun v=>(B v)) v:=fun T H bD=>bo _ T H bD;unfold Ov at h;unfold aaU;conv=>whnf
 obtain ⟨aS,gJ,h⟩:=p' h;refine ⟨_,_,Q5 (cs:=[(qZ s .shared),(.func Hk [] rP)]) (bs:=[(qZ s .shared),(.func Hk [] rP)]) (KE rfl (KE (Hx.fn _ _) NI)) (by rfl) (by exact (p7 (HC (fun _=>(p7 rfl (p7 rfl rfl))) _ _ _) (p7 (Hx.Xf _) rfl))) (aih Hx JA gJ) rfl,?_⟩;conv=>whnf
 exact qe h jG rfl rfl

noncomputable def Qq:gB :=
 .cond (.m_ 3) (p5 [qh 2 6] .ret) (p5 [p3 18 [.m_ 1] (.yM 0),qm 19 18,p3 20 [.cv (.func 84 [] []),.m_ 19,.cv (.func 51 [] [])] (.call 3),p4 21 20,ch 22 [.m_ 1] 21 false (.yM 1),ch 23 [.Bs 22] 21 false (.yM 0),ch 24 [.Bs 23] 21 false (.zE .one),ch 25 [.m_ 1] 21 false (.yM 1),ch 26 [.Bs 25] 21 false (.yM 1),ch 27 [.Bs 26] 21 false (.zE .one),⟨some 28,[.Bs 24,.Bs 27],some (21,false),none,.yB 2 1 [.int .i64 0] [0,1]⟩,⟨some 29,[.cv (.func 50 [] []),.cv (.int .i64 0),.cv (.int .i64 50),.m_ 28],some (21,false),none,.call 3⟩,ch 30 [.Bs 29] 21 false (.un .not),p3 31 [.Bs 21,.cv (.bool true),.Bs 30] .pick,p4 32 31,ch 33 [.m_ 1] 32 false (.yM 1),ch 34 [.Bs 33] 32 false (.yM 0),ch 35 [.Bs 34] 32 false (.zE .one),ch 36 [.Bs 1] 32 false (.yM 1),ch 37 [.Bs 36] 32 false (.yM 1),ch 38 [.Bs 37] 32 false (.zE .one),ch 39 [.Bs 35,.Bs 38] 32 false (.bin .gtr),p3 40 [.Bs 32,.cv (.bool true),.Bs 39] .pick,p4 17 40] (.cond (.m_ 17) (p5 [qh 2 3] .ret) .skip))
noncomputable def aaK:gB :=
 p5 [p3 1 [.jm 0] .box,qh 2 0] (.seq (.block 0 (p5 [p3 4 [.m_ 1] (.yM 0),qm 5 4,q2 6 5,p3 7 [.Bs 6] (.yB 1 1 [.int .i64 0] [0]),p3 8 [.cv (.func 50 [] []),.cv (.int .i64 3),.cv (.int .i64 7),.m_ 7] (.call 3),p3 9 [.Bs 8] (.un .not),p4 10 9,ch 11 [.m_ 1] 10 false (.yM 0),ch 12 [.Bs 11] 10 false (.zE .one),ch 13 [.jm 12] 10 false .zJ,ch 14 [.Bs 13,.cv (.int .i64 2)] 10 false (.bin .rem),ch 15 [.Bs 14,.cv (.int .i64 0)] 10 false (.bin .eql),p3 16 [.Bs 10,.cv (.bool true),.Bs 15] .pick,p4 3 16] Qq)) (p5 [qh 2 0] .ret))
theorem afj:qu Tryz.prog QU 66=some (aaK,41,[.tmp 2]):=by qb
def M3 (p:(qk×(Int×Int))) (O_:Unit→Option Int) (dA:Bool):Option Int :=
 if dA=true then
  some (6:Int)
 else
  (Ov p.1 (fun rh=>KY rh)).bind fun bh =>
  if bh=true then
   some (3:Int)
  else
   (IU (0:Int) (50:Int) [p.2.1,p.2.2]).bind fun eH =>
   if eH=true then
    if (decide (p.2.2<p.2.1))=true then
     some (3:Int)
    else
     O_ ()
   else
    some (3:Int)
def Oo (p:(qk×(Int×Int))):Option Int :=
 (IU (3:Int) (7:Int) [(p.1.length:Int)]).bind fun aS =>
 if aS=true then
  qs ((2:Int)≠0) <|
  M3 p (fun _ =>
    some (0:Int)) (decide (((p.1.length:Int).tmod (2:Int))=(0:Int)))
 else
  M3 p (fun _ =>
    some (0:Int)) true
theorem Z0 {p:(qk×(Int×Int))} {O_:Unit→Option Int} {dA:Bool} {v:Int} {Q:rS}  {qf:List I}  (jG:qL [.tmp 2] Q (fun v=>(hX v)) v) (adB:∀ (bw:ar) (qf:List I),O_ ()=some v→rm 41 [] qf→Q .normal qf [bw]) (qA:rm 41 [(1,(.ptr 0 0)),(3,(B dA))] qf) (h:M3 p O_ dA=some v) :
  dN Tryz.prog QU 66 0 none Qq qf [ar.cells [(qZ p.1 .shared),(hX p.2.1),(hX p.2.2)]] Q:=by
 obtain ⟨rr,rfl⟩:=qA.ex;unfold M3 at h;unfold Qq;conv=>whnf
 cases dA
 ·conv=>whnf
  replace h:=rq rfl h;obtain ⟨bh,qt,h⟩:=p' h;refine ⟨(p7 (HC (fun _=>(p7 rfl (p7 rfl rfl))) _ _ _) (p7 (I8 rfl rfl) rfl)),_,ajo ⟨rfl,by simp⟩ (fun _ _ aY=>ZN aY) qt,?_⟩;conv=>whnf
  cases bh
  ·(conv=>whnf);replace h:=rq rfl h;obtain ⟨eH,qH,h⟩:=p' h;refine ⟨(p7 rfl (p7 rfl (p7 rfl rfl))),_,KX qH,?_⟩;(conv=>whnf);cases eH
   ·(conv=>whnf);replace h:=rq rfl h;exact qe h jG rfl rfl
   ·(conv=>whnf);replace h:=rp rfl h;refine bs h (fun qX h=>?_) fun qX h=>?_
    ·rw [qX];(conv=>whnf);exact qe h jG rfl rfl
    ·rw [qX];(conv=>whnf);exact adB _ _ h ⟨rfl,rfl⟩
  ·(conv=>whnf);replace h:=rp rfl h;exact qe h jG rfl rfl
 ·conv=>whnf
  replace h:=rp rfl h;exact qe h jG rfl rfl
theorem Oq {p:(qk×(Int×Int))} {v:Int} (h:Oo p=some v):qw 66 [(.agg [(.av (p.1.flatMap p_) p.1.length .shared),(hX p.2.1),(hX p.2.2)])] (hX v):=by
 refine qO eD afj rfl rfl fun Q bo=>?_;have jG:qL [.tmp 2] Q (fun v=>(hX v)) v:=fun T H bD=>bo _ T H bD;unfold Oo at h;unfold aaK;obtain ⟨r_,qD⟩:∃ c,Qq=c:=⟨_,rfl⟩;rw [qD];conv=>whnf
 obtain ⟨aS,gJ,h⟩:=p' h;refine ⟨(p7 rfl (p7 rfl (p7 rfl rfl))),_,KX gJ,?_⟩;conv=>whnf
 cases aS
 ·conv=>whnf
  replace h:=rq rfl h;subst qD;refine Z0 ?_ ?_ (by exact ⟨rfl,rfl⟩) h
  ·exact fun T H bD=>jG T H bD
  ·intro bw qf h qA;obtain ⟨rr,rfl⟩:=qA.ex;(conv=>whnf);exact qe h jG rfl rfl
 ·conv=>whnf
  replace h:=rp rfl h;refine qE h id fun gK h=>?_;conv=>whnf
  subst qD;refine Z0 ?_ ?_ (by exact ⟨rfl,rfl⟩) h
  ·exact fun T H bD=>jG T H bD
  ·intro bw qf h qA;obtain ⟨rr,rfl⟩:=qA.ex;(conv=>whnf);exact qe h jG rfl rfl

noncomputable def aaL:gB :=
 p5 [p3 1 [.jm 0] .box,p3 2 [.cv .a0] .mR] (p5 [p3 3 [.Bs 1] (.zY 87 0 1),p4 2 3] .ret)
theorem afk:qu Tryz.prog UJ 68=some (aaL,4,[.tmp 2]):=by qb
def P3 (s:qa):Option Unit :=
 some ()
theorem TC {s:qa} {v:Unit} (h:P3 s=some v):qw 68 [(.av (s.map hX) s.length .shared)] (.func 87 [] [(.bR [(.av (s.map hX) s.length .shared)])]):=by
 refine qO eD afk rfl (I8 rfl (p7 (Ir (p7 (rM (fun _=>rfl) _ _ _) rfl)) rfl)) fun Q bo=>?_;have jG:qL [.tmp 2] Q (fun v=>(.func 87 [] [(.bR [(qz s .shared)])])) v:=fun T H bD=>bo _ T H bD;unfold P3 at h;unfold aaL;conv=>whnf
 exact jG _ _ ⟨.inr rfl,_,rfl,_,(Vs IQ (rN (Vu (l:=[(qz s .shared)]) (by first | exact q7.h | rfl | (simp [sr,I.settle];done)) (p7 (rM (fun _=>rfl) _ _ _) rfl)) IQ)),rfl⟩

def M9 (x:((qk×(Int×Int))×Unit)):List I:=[(qZ x.1.1 .shared),(hX x.1.2.1),(hX x.1.2.2),Hm]
instance {d:Nat} {x:((qk×(Int×Int))×Unit)}:qj (d+2) (M9 x):=⟨(inferInstance:qj (d+2) [(qZ x.1.1 .shared),(hX x.1.2.1),(hX x.1.2.2),Hm]).pl⟩
noncomputable def JZ:gB :=
 .loop (some (qd false [2,1,5,1,8,3,6,3,19])) (p5 [p3 29 [.m_ 28,.m_ 27] (.bin .lss)] (.seq (.cond (.m_ 29) .skip (.exit 2)) (.seq (.block 3 (p5 [p6 30 28,p3 31 [.m_ 26,.m_ 28] (.kV 1),qm 32 31,p4 10 30,p4 11 32] (p5 [p4 33 11,p4 34 10,qq 35 33 34 .neq] (.cond (.m_ 35) (p5 [p3 4 [.cv .eF] .mR,qh 5 16] .ret) .skip)))) (qF [qW 36 28 1,p4 28 36]))))
noncomputable def Jq:gB :=
 .loop (some (qd false [2,1,14,3,28])) (p5 [p3 20 [.m_ 19,.m_ 18] (.bin .lss)] (.seq (.cond (.m_ 20) .skip (.exit 0)) (.seq (.block 1 (p5 [p3 21 [.m_ 17,.m_ 19] (.kV 1),qm 22 21,p4 8 22] (p5 [p6 23 8,p3 24 [.cv (.func 68 [] []),.m_ 23] (.call 3),p3 25 [.cv (.func 67 [] []),.m_ 24] (.call 3),p4 9 25] (.seq (p5 [p4 26 9,p3 27 [.m_ 26] .zJ,qh 28 0] (.block 2 JZ)) (p5 [p4 37 8,q2 38 37,p3 39 [.m_ 2] (.yM 0),qm 40 39,q2 41 40,qq 42 38 41 .neq] (.cond (.m_ 42) (p5 [p3 4 [.cv .eF] .mR,qh 5 16] .ret) .skip)))))) (qF [qW 43 19 1,p4 19 43]))))
noncomputable def M8:gB :=
 p5 [p3 2 [.jm 0] .box,p3 4 [.cv .eF] .mR,qh 5 0] (.seq (p5 [p3 12 [.m_ 2] (.zE (.str 3)),p3 13 [.cv (.func 66 [] []),.m_ 12] (.call 3),p4 6 13] (p5 [p6 14 6,qv 15 14 0 .neq] (.cond (.m_ 15) (p5 [p4 16 6,p3 4 [.cv .eF] .mR,p4 5 16] .ret) .skip))) (.seq (p5 [p4 17 1,p3 18 [.m_ 17] .zJ,qh 19 0] (.block 0 Jq)) (p5 [p3 44 [.Bs 2] (.zE (.str 3)),p3 45 [] .zZ,p3 46 [.Bs 44,.Bs 45] (.build [.av [] 0 .full,.int .i64 0,.int .i64 0,.a0] [(0,3),(3,1)]),p3 47 [.jm 46] .box,p4 4 47,qh 5 0] .ret)))
theorem NH:qu Tryz.prog Kv 40=some (M8,48,[.tmp 4,.tmp 5]):=by qb
def IH (eH:qa) (qU:Unit→Option ((Option ((qk×(Int×Int))×Unit))×Int)):Nat→Int→Option ((Option ((qk×(Int×Int))×Unit))×Int)
 | 0,_=>none
 | m+1,s2 =>
   if (decide (s2<(eH.length:Int)))=true then
    qs (0≤s2∧s2<(eH.length:Int)) <|
    if (decide ((ix eH s2)≠s2))=true then
     some (none,(16:Int))
    else
     IH eH qU m (w (s2+(1:Int)))
   else
    qU ()
def HE (p:(qk×(Int×Int))) (ql:K5) (qc:Unit→Option ((Option ((qk×(Int×Int))×Unit))×Int)):Nat→Int→Option ((Option ((qk×(Int×Int))×Unit))×Int)
 | 0,_=>none
 | m+1,s1 =>
   if (decide (s1<(ql.length:Int)))=true then
    qs (0≤s1∧s1<(ql.length:Int)) <|
    (P3 (ix ql s1)).bind fun bh =>
    (P2 (ix ql s1)).bind fun eH =>
    IH eH (fun _ =>
      if (decide (((ix ql s1).length:Int)≠(p.1.length:Int)))=true then
       some (none,(16:Int))
      else
       HE p ql qc m (w (s1+(1:Int)))) qi (0:Int)
   else
    qc ()
def rX (p:(qk×(Int×Int))) (ql:K5):Option ((Option ((qk×(Int×Int))×Unit))×Int) :=
 (Oo p).bind fun aS =>
 if (decide (aS≠(0:Int)))=true then
  some (none,aS)
 else
  HE p ql (fun _ =>
    some ((some (p,())),(0:Int))) qi (0:Int)
theorem aiL {eH:qa} {qU:Unit→Option ((Option ((qk×(Int×Int))×Unit))×Int)} {s2:Int} {p:(qk×(Int×Int))} {ql:K5} {s1:Int} {v:((Option ((qk×(Int×Int))×Unit))×Int)} {Q:rS}   (jG:qL [.tmp 4,.tmp 5] Q (fun v=>(.tuple [(Mp M9 v.1),(hX v.2)])) v) (I4:∀ (qf:List I),qU ()=some v→rm 48 [(2,(.ptr 0 0)),(8,(qz (ix ql s1) .shared)),(17,(.av (ql.map oW) ql.length .shared)),(18,(hX (ql.length:Int))),(19,(hX s1))] qf→Q (.exit 2) qf [ar.cells [(qZ p.1 .shared),(hX p.2.1),(hX p.2.2)]]) {T:List I} (bZ:eW (qd false [2,1,5,1,8,3,6,3,19]) T=qg 48 [(2,(.ptr 0 0)),(8,(qz (ix ql s1) .shared)),(17,(.av (ql.map oW) ql.length .shared)),(18,(hX (ql.length:Int))),(19,(hX s1)),(26,(qz eH .shared)),(27,(hX (eH.length:Int))),(28,(hX s2))]) (h:IH eH qU qi s2=some v) :
  dN Tryz.prog Kv 40 0 none JZ T [ar.cells [(qZ p.1 .shared),(hX p.2.1),(hX p.2.2)]] Q:=by
 unfold JZ;refine wp_loop bZ ?_;refine .intro (fun m T H=>∃ (s2:Int),T=qg 48 [(2,(.ptr 0 0)),(8,(qz (ix ql s1) .shared)),(17,(.av (ql.map oW) ql.length .shared)),(18,(hX (ql.length:Int))),(19,(hX s1)),(26,(qz eH .shared)),(27,(hX (eH.length:Int))),(28,(hX s2))]∧H=[ar.cells [(qZ p.1 .shared),(hX p.2.1),(hX p.2.2)]]∧IH eH qU m s2=some v) qi ⟨s2,rfl,rfl,h⟩ ?_;clear h bZ;rintro m T H ⟨s2,rfl,rfl,h⟩;cases m
 ·exact rA h
 rename_i m;rw [IH.eq_2] at h;conv=>whnf
 refine bs h (fun qS h=>?_) fun qS h=>?_
 ·rw [qS];conv=>whnf
  refine qE h id fun re h=>?_;rw [rj hX eH s2 re];conv=>whnf
  refine bs h (fun q_ h=>?_) fun q_ h=>?_
  ·rw [q_];(conv=>whnf);exact qe h jG rfl rfl
  ·rw [q_];(conv=>whnf);exact ⟨m,sg m,(w (s2+(1:Int))),rfl,rfl,h⟩
 ·rw [qS];conv=>whnf
  exact I4  _ h ⟨rfl,rfl⟩
theorem aiK {p:(qk×(Int×Int))} {ql:K5} {qc:Unit→Option ((Option ((qk×(Int×Int))×Unit))×Int)} {s1:Int} {v:((Option ((qk×(Int×Int))×Unit))×Int)} {Q:rS}   (jG:qL [.tmp 4,.tmp 5] Q (fun v=>(.tuple [(Mp M9 v.1),(hX v.2)])) v) (ra:∀ (qf:List I),qc ()=some v→rm 48 [(2,(.ptr 0 0))] qf→Q (.exit 0) qf [ar.cells [(qZ p.1 .shared),(hX p.2.1),(hX p.2.2)]]) {T:List I} (bZ:eW (qd false [2,1,14,3,28]) T=qg 48 [(2,(.ptr 0 0)),(17,(.av (ql.map oW) ql.length .shared)),(18,(hX (ql.length:Int))),(19,(hX s1))]) (h:HE p ql qc qi s1=some v) :
  dN Tryz.prog Kv 40 0 none Jq T [ar.cells [(qZ p.1 .shared),(hX p.2.1),(hX p.2.2)]] Q:=by
 unfold Jq;obtain ⟨r_,qD⟩:∃ c,JZ=c:=⟨_,rfl⟩;rw [qD];refine wp_loop bZ ?_;refine .intro (fun m T H=>∃ (s1:Int),T=qg 48 [(2,(.ptr 0 0)),(17,(.av (ql.map oW) ql.length .shared)),(18,(hX (ql.length:Int))),(19,(hX s1))]∧H=[ar.cells [(qZ p.1 .shared),(hX p.2.1),(hX p.2.2)]]∧HE p ql qc m s1=some v) qi ⟨s1,rfl,rfl,h⟩ ?_;clear h bZ;rintro m T H ⟨s1,rfl,rfl,h⟩;cases m
 ·exact rA h
 rename_i m;rw [HE.eq_2] at h;conv=>whnf
 refine bs h (fun qt h=>?_) fun qt h=>?_
 ·rw [qt];conv=>whnf
  refine qE h id fun qH h=>?_;rw [rj oW ql s1 qH];conv=>whnf
  obtain ⟨bh,qX,h⟩:=p' h;refine ⟨qj.pl,_,TC qX,?_⟩;conv=>whnf
  obtain ⟨eH,q9,h⟩:=p' h;refine ⟨(p7 (I8 rfl (p7 (Ir (p7 (rM (fun _=>rfl) _ _ _) rfl)) rfl)) rfl),_,TB  q9,?_⟩;conv=>whnf
  subst qD;refine aiL ?_ ?_ (by exact rfl) h
  ·exact fun T H bD=>jG T H bD
  ·intro  qf h qA;obtain ⟨rr,rfl⟩:=qA.ex;(conv=>whnf);refine bs h (fun ry h=>?_) fun ry h=>?_
   ·rw [ry];(conv=>whnf);exact qe h jG rfl rfl
   ·rw [ry];(conv=>whnf);exact ⟨m,sg m,(w (s1+(1:Int))),rfl,rfl,h⟩
 ·rw [qt];conv=>whnf
  exact ra  _ h ⟨rfl,rfl⟩
theorem MX {p:(qk×(Int×Int))} {ql:K5} {v:((Option ((qk×(Int×Int))×Unit))×Int)} (h:rX p ql=some v):qw 40 [(.agg [(.av (p.1.flatMap p_) p.1.length .shared),(hX p.2.1),(hX p.2.2)]),(.av (ql.map oW) ql.length .shared)] (.tuple [(Mp M9 v.1),(hX v.2)]):=by
 refine qO eD NH rfl (Is (p7 (Xl (fun _=>(p7 (HC (fun _=>(p7 rfl (p7 rfl rfl))) _ _ _) (p7 rfl (p7 rfl (p7 rfl rfl))))) _) (p7 rfl rfl))) fun Q bo=>?_;have jG:qL [.tmp 4,.tmp 5] Q (fun v=>(.tuple [(Mp M9 v.1),(hX v.2)])) v:=fun T H bD=>bo _ T H bD;unfold rX at h;unfold M8;obtain ⟨J3,rO⟩:∃ c,Jq=c:=⟨_,rfl⟩;rw [rO];conv=>whnf
 obtain ⟨aS,gJ,h⟩:=p' h;refine ⟨qj.pl,_,Oq gJ,?_⟩;conv=>whnf
 refine bs h (fun gK h=>?_) fun gK h=>?_
 ·rw [gK];conv=>whnf
  exact qe h jG rfl rfl
 ·rw [gK];conv=>whnf
  subst rO;refine aiK ?_ ?_ (by exact rfl) h
  ·exact fun T H bD=>jG T H bD
  ·intro  qf h qA;obtain ⟨rr,rfl⟩:=qA.ex;(conv=>whnf);obtain rfl:=Option.some.inj h;exact jG _ _ ⟨.inr rfl,_,rfl,_,(Ni (rN (acQ (l:=[(qZ p.1 .shared),(hX p.2.1),(hX p.2.2),(.map 1)]) (by first | exact q7.h | rfl | (simp [sr,I.settle];done)) (rN (yW (HC (fun _=>(p7 rfl (p7 rfl rfl))) _ _ _)) (rN (yW rfl) (rN (yW rfl) (rN (Vt (by simp) (by simp)) IQ))))) (rN (yW rfl) IQ))),rfl⟩
end Go.Proofs.YtkoioidpbbbaiaaGreat.Ab


namespace Go.Proofs.YtkoioidpbbbaiaaGreat.Ab
open Go
section
variable {P:Program}
theorem call9 {k:FuncId} {xs bs:List I} {H:List ar} {lo:Nat} {v:I} (af:(xs.map I.gr).map I.ca=bs) (aB:(xs.map I.gr).all (cn 8)=true) (h:nj P k bs v):oU P 9 lo (.fn k) xs H v.ca H:=by
 subst af;refine ⟨_,EB h.1,?_⟩;simp only [eN,aB,EA,sc,yW h.2,si]
theorem ahr {k:FuncId} {args:List I} {H H':List ar} {lo:Nat} {r:I} (h:Sem P (.fn k) (args.map I.gr) H lo r H'):Sem P (.fn k) args H lo r H':=by
 obtain ⟨aQ,ab,ae⟩:=h;exact ⟨aQ,ab,fun B aa J S w vs ag aI ad=>ae B aa J S w vs ag aI ad.gr⟩
theorem ab3 {k:FuncId} {args:List I} {es:List (Nat×I×I)} {clock:Nat} {D:List ar} (cq:(args.map I.gr).all (cn 8)=true) (Jz:∀ (j i:Nat) (k v:I),es[j]?=some (i,k,v)→cn 8 k=true∧cn 8 v=true)
  (h:Sem P (.fn k) (args.map I.gr) [] 0 (.map 0) (.map es clock::D)) (H:List ar) (lo:Nat):oU P 2 lo (.fn k) args H (.map H.length) (H++[.map es clock]):=by
 refine ⟨_,EB (ahr (ahp cq Jz h H)),?_⟩;have e1:Co H.length (.map H.length)=some H.length:=by simp [Co,yU]
 have b9:(H++[ar.map es clock])[H.length]?=some (.map es clock):=by simp
 have dx:bL (H++[ar.map es clock]) H.length H.length H.length 8 (.map H.length)=some (.map H.length):=by simp [bL]
 have f_:DM 2 H.length (H++[ar.map es clock]) (.map H.length)=some H.length:=e1;simp only [eN,EA,sc,f_,b9,dx,se,if_true,WS fun j i k v aw=>⟨yW (Jz j i k v aw).1,yW (Jz j i k v aw).2⟩]
def I.Lv:I→I
 | .av c n (.own _)=>.av c n .shared
 | v=>v
variable {J:List Nat} {S:Nat→Nat→Prop} {w:World} {aa:Nat→Option aH}
theorem ahb {u:I} {v:Value} (h:Rel J S w u v):Rel J S w u.Lv v:=by
 unfold I.Lv;split
 ·rename_i c n z;exact h.view rfl
 ·exact h
theorem afT {l:aH} {u:I} {v:Value} (h:aU aa J S w l u v):aU aa J S w l u.Lv v:=by
 unfold I.Lv;split
 ·exact aU.b3 rfl
 ·exact h
theorem ahT {bz:Nat→aH} {T:List I} {bb:List Value} (h:a5 bz aa J S w T bb):a5 bz aa J S w (T.map I.Lv) bb :=
 ⟨by simpa using h.len,fun i u v hu ad=>by
  rw [sq] at hu;simp only [sb] at hu;obtain ⟨x,aj,rfl⟩:=hu;exact ahb (h.rel i x v aj ad),fun i u v hu ad=>by
  rw [sq] at hu;simp only [sb] at hu
  obtain ⟨x,aj,rfl⟩:=hu;exact afT (h.own i x v aj ad)⟩
theorem ahq {k:FuncId} {args:List I} {H H':List ar} {lo:Nat} {r:I} (h:Sem P (.fn k) (args.map I.Lv) H lo r H'):Sem P (.fn k) args H lo r H':=by
 obtain ⟨aQ,ab,ae⟩:=h;exact ⟨aQ,ab,fun B aa J S w vs ag aI ad=>ae B aa J S w vs ag aI (ahT ad)⟩
theorem af7 {k:FuncId} {args:List I} {v:I} (h:nj P k (args.map I.Lv) v):nj P k args v:=⟨ahq h.1,h.2⟩
end
end Go.Proofs.YtkoioidpbbbaiaaGreat.Ab


namespace Go.Proofs.YtkoioidpbbbaiaaGreat.Ab
open Go
set_option maxRecDepth 20000
set_option maxHeartbeats 4000000
abbrev qn:=(List (Int×Int))×(Int×Int)
abbrev rT (p:qn):ar:=ar.cells [(.av (p.1.flatMap p_) p.1.length .shared),(hX p.2.1),(hX p.2.2)]
abbrev L3 (p:qn) (ql:List (List Int)):List I:=[(.agg [(.av (p.1.flatMap p_) p.1.length .shared),(hX p.2.1),(hX p.2.2)]),(.av (ql.map oW) ql.length .shared)]
theorem aiM {eH:(List Int)} {qU:Unit→Option ((Option (((List (Int×Int))×(Int×Int))×Unit))×Int)} {s2:Int} {p:((List (Int×Int))×(Int×Int))} {ql:(List (List Int))} {s1:Int} {v:((Option (((List (Int×Int))×(Int×Int))×Unit))×Int)} {Q:cN→List I→List ar→Prop}   (jG:∀ (e:Int) (T:List I),v=(none,e)→r0 [rT p] T [.tmp 4,.tmp 5]=some [.eF,hX e]→Q .ret T [rT p]) (I4:∀ (qf:List I),qU ()=some v→rm 48 [(2,(.ptr 0 0)),(8,(.av ((ix ql s1).map hX) (ix ql s1).length .shared)),(17,(.av (ql.map oW) ql.length .shared)),(18,(hX (ql.length:Int))),(19,(hX s1))] qf→Q (.exit 2) qf [ar.cells [(.av (p.1.flatMap p_) p.1.length .shared),(hX p.2.1),(hX p.2.2)]]) {T:List I} (bZ:eW [false,false,true,false,false,false,false,false,true,false,false,false,false,false,false,false,false,true,true,true,false,false,false,false,false,false,true,true,true,false,false,false,false,false,false,false,false,false,false,false,false,false,false,false,false,false,false,false] T=qg 48 [(2,(.ptr 0 0)),(8,(.av ((ix ql s1).map hX) (ix ql s1).length .shared)),(17,(.av (ql.map oW) ql.length .shared)),(18,(hX (ql.length:Int))),(19,(hX s1)),(26,(.av (eH.map hX) eH.length .shared)),(27,(hX (eH.length:Int))),(28,(hX s2))]) (h:IH eH qU qi s2=some v) :
  dN Tryz.prog Kv 40 0 none JZ T [ar.cells [(.av (p.1.flatMap p_) p.1.length .shared),(hX p.2.1),(hX p.2.2)]] Q:=by
 unfold JZ;skip;refine wp_loop bZ ?_;refine .intro (fun m T H=>∃ (s2:Int),T=qg 48 [(2,(.ptr 0 0)),(8,(.av ((ix ql s1).map hX) (ix ql s1).length .shared)),(17,(.av (ql.map oW) ql.length .shared)),(18,(hX (ql.length:Int))),(19,(hX s1)),(26,(.av (eH.map hX) eH.length .shared)),(27,(hX (eH.length:Int))),(28,(hX s2))]∧H=[ar.cells [(.av (p.1.flatMap p_) p.1.length .shared),(hX p.2.1),(hX p.2.2)]]∧IH eH qU m s2=some v) qi ⟨s2,rfl,rfl,h⟩ ?_;clear h bZ;rintro m T H ⟨s2,rfl,rfl,h⟩;cases m
 ·exact rA h
 rename_i m;rw [IH.eq_2] at h;conv=>whnf
 refine bs h (fun qS h=>?_) fun qS h=>?_
 ·rw [qS];conv=>whnf
  refine qE h id fun re h=>?_;rw [rj hX eH s2 re];conv=>whnf
  refine bs h (fun q_ h=>?_) fun q_ h=>?_
  ·rw [q_];(conv=>whnf);obtain rfl:=Option.some.inj h;exact jG _ _ rfl rfl
  ·rw [q_];(conv=>whnf);exact ⟨m,sg m,(w (s2+(1:Int))),rfl,rfl,h⟩
 ·rw [qS];conv=>whnf
  exact I4  _ h ⟨rfl,rfl⟩
theorem ZJ {p:((List (Int×Int))×(Int×Int))} {ql:(List (List Int))} {qc:Unit→Option ((Option (((List (Int×Int))×(Int×Int))×Unit))×Int)} {s1:Int} {v:((Option (((List (Int×Int))×(Int×Int))×Unit))×Int)} {Q:cN→List I→List ar→Prop}   (jG:∀ (e:Int) (T:List I),v=(none,e)→r0 [rT p] T [.tmp 4,.tmp 5]=some [.eF,hX e]→Q .ret T [rT p]) (ra:∀ (qf:List I),qc ()=some v→rm 48 [(2,(.ptr 0 0))] qf→Q (.exit 0) qf [ar.cells [(.av (p.1.flatMap p_) p.1.length .shared),(hX p.2.1),(hX p.2.2)]]) {T:List I} (bZ:eW [false,false,true,false,false,false,false,false,false,false,false,false,false,false,false,false,false,true,true,true,false,false,false,false,false,false,false,false,false,false,false,false,false,false,false,false,false,false,false,false,false,false,false,false,false,false,false,false] T=qg 48 [(2,(.ptr 0 0)),(17,(.av (ql.map oW) ql.length .shared)),(18,(hX (ql.length:Int))),(19,(hX s1))]) (h:HE p ql qc qi s1=some v) :
  dN Tryz.prog Kv 40 0 none Jq T [ar.cells [(.av (p.1.flatMap p_) p.1.length .shared),(hX p.2.1),(hX p.2.2)]] Q:=by
 unfold Jq;obtain ⟨r_,qD⟩:∃ c,JZ=c:=⟨_,rfl⟩;rw [qD];refine wp_loop bZ ?_;refine .intro (fun m T H=>∃ (s1:Int),T=qg 48 [(2,(.ptr 0 0)),(17,(.av (ql.map oW) ql.length .shared)),(18,(hX (ql.length:Int))),(19,(hX s1))]∧H=[ar.cells [(.av (p.1.flatMap p_) p.1.length .shared),(hX p.2.1),(hX p.2.2)]]∧HE p ql qc m s1=some v) qi ⟨s1,rfl,rfl,h⟩ ?_;clear h bZ;rintro m T H ⟨s1,rfl,rfl,h⟩;cases m
 ·exact rA h
 rename_i m;rw [HE.eq_2] at h;conv=>whnf
 refine bs h (fun qt h=>?_) fun qt h=>?_
 ·rw [qt];conv=>whnf
  refine qE h id fun qH h=>?_;rw [rj oW ql s1 qH];conv=>whnf
  obtain ⟨bh,qX,h⟩:=p' h;refine ⟨qj.pl,_,TC qX,?_⟩;conv=>whnf
  obtain ⟨eH,q9,h⟩:=p' h;refine ⟨(p7 (I8 rfl (p7 (Ir (p7 (rM (fun _=>rfl) _ _ _) rfl)) rfl)) rfl),_,TB  q9,?_⟩;conv=>whnf
  subst qD;refine aiM ?_ ?_ (by exact rfl) h
  ·exact fun e T bD ai=>jG e T bD ai
  ·intro  qf h qA;obtain ⟨rr,rfl⟩:=qA.ex;(conv=>whnf);refine bs h (fun ry h=>?_) fun ry h=>?_
   ·rw [ry];(conv=>whnf);obtain rfl:=Option.some.inj h;exact jG _ _ rfl rfl
   ·rw [ry];(conv=>whnf);exact ⟨m,sg m,(w (s1+(1:Int))),rfl,rfl,h⟩
 ·rw [qt];conv=>whnf
  exact ra  _ h ⟨rfl,rfl⟩
theorem Wo {eH:List Int} {K:Unit→Option (Option (qn×Unit)×Int)} {t:qn×Unit} {e:Int}:∀ {m:Nat} {s:Int},IH eH K m s=some (some t,e)→K ()=some (some t,e)
 | 0,s,h=>by cases h
 | m+1,s,h=>by
   rw [IH.eq_2] at h;split at h
   ·obtain ⟨_,h⟩:=rW h;split at h
    ·cases h
    ·exact Wo h
   ·exact h
theorem Wn {p:qn} {ql:List (List Int)} {K:Unit→Option (Option (qn×Unit)×Int)} {t:qn×Unit} {e:Int}:∀ {m:Nat} {s:Int},HE p ql K m s=some (some t,e)→K ()=some (some t,e)
 | 0,s,h=>by cases h
 | m+1,s,h=>by
   rw [HE.eq_2] at h;split at h
   ·obtain ⟨_,h⟩:=rW h;obtain ⟨bh,_,h⟩:=p' h;obtain ⟨eH,_,h⟩:=p' h;have h:=Wo h;split at h
    ·cases h
    ·exact Wn h
   ·exact h
theorem Wm {p:qn} {ql:List (List Int)} {t:qn×Unit} {e:Int} (h:HE p ql (fun _=>some (some (p,()),0)) qi 0=some (some t,e)):t=(p,())∧e=0:=by
 have h:=Wn h;obtain ⟨ab,ae⟩:=Prod.mk.inj (Option.some.inj h);exact ⟨(Option.some.inj ab).symm,ae.symm⟩
theorem ZI {p:qn} {ql:List (List Int)} {e:Int} (h:rX p ql=some (none,e)):Sem Tryz.prog (.fn 40) (L3 p ql) [] 0 (.tuple [.eF,hX e]) [rT p]:=by
 refine rL eD NH rfl (IP (sE _)) fun Q bo=>?_;have jG:∀ (cS:Int) (T:List I),((none,e):Option (qn×Unit)×Int)=(none,cS)→r0 [rT p] T [.tmp 4,.tmp 5]=some [.eF,hX cS]→Q .ret T [rT p]:=fun cS T he ai=>by
  obtain rfl:=(Prod.mk.inj he).2;exact bo _ _ _ ⟨.inr rfl,lF.refl _,by rw [ai];rfl⟩
 unfold rX at h;unfold M8;obtain ⟨J3,rO⟩:∃ c,Jq=c:=⟨_,rfl⟩;rw [rO];conv=>whnf
 obtain ⟨aS,gJ,h⟩:=p' h;refine ⟨qj.pl,_,Oq gJ,?_⟩;conv=>whnf
 refine bs h (fun gK h=>?_) fun gK h=>?_
 ·rw [gK];conv=>whnf
  obtain rfl:aS=e:=(Prod.mk.inj (Option.some.inj h)).2;exact jG _ _ rfl rfl
 ·rw [gK];conv=>whnf
  subst rO;refine ZJ ?_ ?_ (by exact rfl) h
  ·exact fun e T bD ai=>jG e T bD ai
  ·intro  qf h qA;exact absurd (Prod.mk.inj (Option.some.inj h)).1 (by simp)
theorem Of {p:qn} {ql:List (List Int)} {t:qn×Unit} {e:Int} (h:rX p ql=some (some t,e)):t=(p,())∧e=0∧Sem Tryz.prog (.fn 40) (L3 p ql) [] 0 (.tuple [.ptr 2 0,hX 0]) [rT p,.map [] 0,.cells [(.av (p.1.flatMap p_) p.1.length .shared),(hX p.2.1),(hX p.2.2),.map 1]]:=by
 have ad:t=(p,())∧e=0:=by
  have aX:=h;unfold rX at aX;obtain ⟨aS,gJ,aX⟩:=p' aX;split at aX
  ·cases aX
  ·exact Wm aX
 obtain ⟨rfl,rfl⟩:=ad;refine ⟨rfl,rfl,?_⟩;refine rL eD NH rfl (IP (sE _)) fun Q bo=>?_;unfold rX at h;unfold M8;obtain ⟨J3,rO⟩:∃ c,Jq=c:=⟨_,rfl⟩;rw [rO];conv=>whnf
 obtain ⟨aS,gJ,h⟩:=p' h;refine ⟨qj.pl,_,Oq gJ,?_⟩;conv=>whnf
 refine bs h (fun gK h=>?_) fun gK h=>?_
 ·exact absurd (Prod.mk.inj (Option.some.inj h)).1 (by simp)
 ·rw [gK];conv=>whnf
  subst rO;refine ZJ ?_ ?_ (by exact rfl) h
  ·exact fun e T bD ai=>absurd (Prod.mk.inj bD).1 (by simp)
  ·intro  qf h qA;obtain ⟨rr,rfl⟩:=qA.ex;(conv=>whnf);exact bo _ _ _ ⟨.inr rfl,lF.refl _,rfl⟩
section
variable {p:qn} {ql:List (List Int)}
theorem ab5 {e:Int} {lo:Nat} (h:rX p ql=some (none,e)):oU Tryz.prog 2 lo (.fn 40) (L3 p ql) [] (.tuple [.eF,hX e]) [] :=
 ⟨_,EB (ZI h),by
  show (k6 _ _ _ _ _ _ (.fn 40) (L3 p ql) [] 0).bind _=_
  rw [EA];rfl⟩
theorem ab4 {t:qn×Unit} {e:Int} {lo:Nat} (h:rX p ql=some (some t,e)):oU Tryz.prog 2 lo (.fn 40) (L3 p ql) [] (.tuple [.ptr 0 0,hX 0]) [.cells [(.av (p.1.flatMap p_) p.1.length .shared),(hX p.2.1),(hX p.2.2),Hm]] :=
 ⟨_,EB (Of h).2.2,by
  show (k6 _ _ _ _ _ _ (.fn 40) (L3 p ql) [] 0).bind _=_;rw [EA];have e1:dZ (bL [rT p,.map [] 0,.cells [(.av (p.1.flatMap p_) p.1.length .shared),(hX p.2.1),(hX p.2.2),.map 1]] 0 2 0 8) [(.av (p.1.flatMap p_) p.1.length .shared),(hX p.2.1),(hX p.2.2),.map 1]=some [(.av (p.1.flatMap p_) p.1.length .shared),(hX p.2.1),(hX p.2.2),Hm] :=
   rN (yW (HC (fun _=>p7 rfl (p7 rfl rfl)) _ _ _)) (rN (yW rfl) (rN (yW rfl) (rN (Vt (by simp) (by simp)) IQ)))
  show (if 0≤2 then (match dZ (bL [rT p,.map [] 0,.cells [(.av (p.1.flatMap p_) p.1.length .shared),(hX p.2.1),(hX p.2.2),.map 1]] 0 2 0 8) [(.av (p.1.flatMap p_) p.1.length .shared),(hX p.2.1),(hX p.2.2),.map 1],bL _ 0 2 0 8 (.tuple [.ptr 2 0,hX 0]) with | some l',some v=>some (v,[]++[ar.cells l']) | _,_=>none) else none)=_
  rw [e1];rfl⟩
end
end Go.Proofs.YtkoioidpbbbaiaaGreat.Ab


namespace Go.Proofs.YtkoioidpbbbaiaaGreat.Ab
open Go
noncomputable def SI:gB :=
 p5 [p3 5 [.Bs 1,.Bs 2,.Bs 3,.m_ 4] (.zY 71 0 4),⟨none,[.m_ 4,.jm 5],none,none,.st 1⟩] (qF [qm 6 4,p3 7 [.jm 6,.cv (.av [] 0 .full)] (.call 1)])
noncomputable def SH:gB :=
 p5 [p3 2 [.jm 0] .box] (p5 [p3 3 [] (.alloc [.int .i64 0,.int .i64 0,.int .i64 0,.int .i64 0,.int .i64 0,.int .i64 0,.int .i64 0])] (p5 [p3 4 [] (.alloc [.a0])] SI))
theorem WM:qu Go.Proofs.Tryz.prog UK 70=some (SH,8,[]):=by qb
noncomputable def agO:gB :=
 p5 [qm 18 2,p4 19 0,p3 20 [.jm 18,.jm 19] (.call 1),p4 6 20] .ret
noncomputable def NW:gB :=
 p5 [p4 47 7,p3 48 [.m_ 3,.Bs 47] (.zu 7 1),⟨none,[.jm 48,.cv (.int .i64 0)],none,none,.st 1⟩] (p5 [p4 49 8,p3 50 [.Bs 49] (.un .not)] (.cond (.m_ 50) (p5 [p3 6 [.cv (.bool false)] .mR] .ret) .skip))
noncomputable def Ls:gB :=
 p5 [p3 36 [.m_ 4] (.zE .one),p6 37 0,p6 38 0,q2 39 38,p6 40 0,q2 41 40,p3 42 [.jm 37,.jm 39,.jm 41] (.Bh 1 false true true),p6 43 7,p3 44 [.Bs 43] (.yB 1 1 [.int .i64 0] [0]),p3 45 [.jm 42,.jm 44] (.app 1 8),p3 46 [.jm 36,.jm 45] (.call 1),p4 8 46] NW
noncomputable def SJ:gB :=
 .seq (p5 [p6 30 7,p3 31 [.m_ 3,.Bs 30] (.zu 7 1),qm 32 31,qv 33 32 0 .gtr] (.cond (.m_ 33) (.exit 1) .skip)) (p5 [p6 34 7,p3 35 [.m_ 3,.Bs 34] (.zu 7 1),⟨none,[.jm 35,.cv (.int .i64 1)],none,none,.st 1⟩] Ls)
noncomputable def SK:gB :=
 .block 1 (p5 [p6 29 27,p4 7 29] SJ)
noncomputable def JF:gB :=
 .seq (p5 [qm 21 1,p3 22 [.Bs 21] .z4,qK 23 22 0,qK 24 23 0,qm 25 24,q2 26 25,qh 27 0] (.block 0 (.loop (some (qd false [0,1,2,2,21,2,24])) (p5 [p3 28 [.m_ 27,.m_ 26] (.bin .lss)] (.seq (.cond (.m_ 28) .skip (.exit 0)) (.seq SK (qF [qW 51 27 1,p4 27 51]))))))) (p5 [p3 6 [.cv (.bool true)] .mR] .ret)
noncomputable def Lt:gB :=
 .seq (p5 [p6 9 0,q2 10 9,p3 11 [.m_ 1] (.zE .one),p3 12 [.Bs 11] .z4,qK 13 12 0,qK 14 13 0,qm 15 14,q2 16 15,qq 17 10 16 .eql] (.cond (.m_ 17) agO .skip)) JF
noncomputable def Lr:gB :=
 p5 [p3 6 [.cv (.bool false)] .mR] Lt
theorem O':qu Go.Proofs.Tryz.prog Kw 71=some (Lr,52,[.tmp 6]):=by qb
end Go.Proofs.YtkoioidpbbbaiaaGreat.Ab


namespace Go.Proofs.YtkoioidpbbbaiaaGreat.Ab
open Go
set_option maxRecDepth 20000
set_option maxHeartbeats 4000000
def I2 (b:I) (p:Nat):I:=.func 71 [] [b,.ptr p 0,.ptr (p+1) 0,.ptr (p+2) 0]
@[irreducible] def rU (X Y0:List ar) (L:Nat) (b:I) (p:Nat) (U:List Int) (Y:List ar):List ar:=X++(Y0++([.cells [.yield L],.cells (U.map hX),.cells [I2 b p]]++Y))
section
variable {X Y0 Y:List ar} {L p:Nat} {b:I} {U:List Int} (aB:X.length+Y0.length=p)
include aB
theorem ahD:(rU X Y0 L b p U Y)[p]?=some (.cells [.yield L]):=by
 unfold rU;rw [sv (by omega),sv (by omega),show p-X.length-Y0.length=0 by omega];rfl
theorem S8:(rU X Y0 L b p U Y)[p+1]?=some (.cells (U.map hX)):=by
 unfold rU;rw [sv (by omega),sv (by omega),show p+1-X.length-Y0.length=1 by omega];rfl
theorem YZ:(rU X Y0 L b p U Y)[p+2]?=some (.cells [I2 b p]):=by
 unfold rU;rw [sv (by omega),sv (by omega),show p+2-X.length-Y0.length=2 by omega];rfl
theorem Y1 (Na:List Int):(rU X Y0 L b p U Y).set (p+1) (.cells (Na.map hX))=rU X Y0 L b p Na Y:=by
 unfold rU;rw [vj _ _ (by omega),vj _ _ (by omega),show p+1-X.length-Y0.length=1 by omega];rfl
end
def Hi (l:List Int):I:=match l with | []=>.av [] 0 .full | _=>.av (l.map hX) l.length (.own 1)
theorem ahC {LC LD:I} {Q:cN→List I→List ar→Prop} {begun:List Int} {i n:Nat} {X Y0 Y:List ar} {L p:Nat} {b:I} {U:List Int} (aB:X.length+Y0.length=p) (r9:U.length=7) (hi:i<7) (af:begun.length≤7)
  (dT:∃ L2 qT,L2.length=X.length∧Sem Tryz.prog (.fn 71) [.av ((begun++[(i:Int)]).map hX) (begun++[(i:Int)]).length (.uniq 1),b,.ptr p 0,.ptr (p+1) 0,.ptr (p+2) 0] (rU X Y0 L b p U Y) 0 (.bool true) (rU L2 Y0 L b p U qT) ∧
   Q .normal (qg 52 [(0,Hi begun),(3,.ptr (p+1) 0),(4,.ptr (p+2) 0),(26,hX n),(27,hX i),(28,LC),(33,LD),(50,.bool false)]) (rU L2 Y0 L b p (U.set i 0) qT)) :
  dN Tryz.prog Kw 71 0 none Ls (qg 52 [(0,Hi begun),(3,.ptr (p+1) 0),(4,.ptr (p+2) 0),(7,hX i),(26,hX n),(27,hX i),(28,LC),(33,LD)]) (rU X Y0 L b p U Y) Q:=by
 obtain ⟨L2,qT,ajU,cl,bo⟩:=dT;have O4:L2.length+Y0.length=p:=by omega
 have fin:∀ dE,dE=qg 52 [(0,Hi begun),(3,.ptr (p+1) 0),(4,.ptr (p+2) 0),(7,hX i),(8,.bool true),(26,hX n),(27,hX i),(28,LC),(33,LD)]→dN Tryz.prog Kw 71 0 none NW dE (rU L2 Y0 L b p U qT) Q:=by
  rintro _ rfl;unfold NW;conv=>whnf
  refine ⟨by omega,?_⟩;conv=>whnf
  refine Ew (S8 O4) ?_;conv=>whnf
  rw [show 0+(i:Int).toNat*1=i by omega];refine Gn (by simp;omega) ?_;conv=>whnf
  rw [show (List.map hX U).set i (I.int IntKind.i64 0)=(U.set i 0).map hX by rw [tQ],Y1 O4];exact bo
 unfold Ls;cases begun with
 | nil =>
   (conv=>whnf);refine Ew (YZ aB) ?_;(conv=>whnf);refine ⟨⟨by decide,by decide,by decide⟩,?_⟩;(conv=>whnf);refine ⟨rfl,by decide,?_⟩;(conv=>whnf);refine ⟨by decide,by decide,rfl,?_⟩;(conv=>whnf);refine ⟨_,_,rH cl,?_⟩;(conv=>whnf);exact fin _ rfl
 | cons a l =>
   (conv=>whnf);refine Ew (YZ aB) ?_;(conv=>whnf);refine ⟨⟨rfl,by omega,sY _⟩,?_⟩;(conv=>whnf);rw [tD,Nat.mul_one,tb (by simp)];refine ⟨rfl,by decide,?_⟩;(conv=>whnf);refine ⟨by decide,by omega,by simp,?_⟩;(conv=>whnf);(have e1:List.map hX (a::l)++[hX (i:Int)]=((a::l)++[(i:Int)]).map hX:=by simp);(have b9:(a::l).length+1=((a::l)++[(i:Int)]).length:=by simp);refine ⟨_,_,rH (by erw [e1,b9];exact cl),?_⟩;(conv=>whnf);exact fin _ rfl
def rJ (U:List Int) (n:Nat):List Int:=((List.range n).filter fun i=>decide (U.getD i 0=0)).map fun i:Nat=>(i:Int)
theorem RV (U:List Int) (n:Nat):rJ U (n+1)=rJ U n++if U.getD n 0=0 then [(n:Int)] else []:=by
 unfold rJ;rw [List.range_succ,tE,sR];by_cases h:U.getD n 0=0
 ·rw [if_pos h,vn (by simpa using h)];rfl
 ·rw [if_neg h,uN (by simpa using h)];rfl
theorem ad4 (U:List Int) (n:Nat):(rJ U n).Nodup:=by
 unfold rJ;refine List.Pairwise.map _ (R:=(·≠·)) (fun a b h=>by omega) ?_;exact List.Pairwise.filter _ List.nodup_range
theorem WV {U:List Int} {n:Nat} {x:Int}:x∈rJ U n↔∃ i:Nat,i<n∧U.getD i 0=0∧x=(i:Int):=by
 unfold rJ;simp only [sH,tc,sJ,decide_eq_true_eq];constructor
 ·rintro ⟨i,⟨ab,ae⟩,rfl⟩;exact ⟨i,ab,ae,rfl⟩
 ·rintro ⟨i,ab,ae,rfl⟩;exact ⟨i,⟨ab,ae⟩,rfl⟩
theorem Ml {U:List Int} {n i:Nat} (hi:i<U.length) (aQ:U.getD i 0=0):rJ (U.set i 1) n=(rJ U n).erase (i:Int):=by
 rw [(ad4 U n).erase_eq_filter];unfold rJ;rw [List.filter_map,uH];congr 1;refine uq fun x _=>?_;by_cases e:x=i
 ·subst e;simp [hi]
 ·have:((x:Int) != (i:Int))=true:=by simp;omega
  simp only [Function.comp,this,Bool.true_and];congr 1;simp only [sB];rw [List.getElem?_set_ne (by omega)]
def Hh (k:Nat) (U:List Int) (n i:Nat):Nat:=((rJ U i).flatMap fun x=>(qV k ((rJ U n).erase x)).map (x::·)).length
theorem OL (k:Nat) (U:List Int) (n i:Nat):Hh k U n (i+1)=Hh k U n i+if U.getD i 0=0 then (qV k ((rJ U n).erase (i:Int))).length else 0:=by
 unfold Hh;rw [RV,uB,sD];congr 1;by_cases h:U.getD i 0=0
 ·rw [if_pos h,if_pos h];simp
 ·rw [if_neg h,if_neg h];rfl
theorem ad5 {U:List Int} {n i:Nat} (hi:i≤n):∃ r,rJ U n=rJ U i++r:=by
 obtain ⟨d,rfl⟩:=Nat.exists_eq_add_of_le hi;clear hi
 induction d with
 | zero=>exact ⟨[],by simp⟩
 | succ d a8 =>
   obtain ⟨r,ai⟩:=a8;rw [←tj,RV,ai];exact ⟨_,sC ..⟩
theorem WC {k:Nat} {U:List Int} {n i j:Nat} {l:List Int} (hi:i<n) (aQ:U.getD i 0=0) (ao:(qV k ((rJ U n).erase (i:Int)))[j]?=some l):(qV (k+1) (rJ U n))[Hh k U n i+j]?=some ((i:Int)::l):=by
 obtain ⟨r,ai⟩:=ad5 (U:=U) (n:=n) (i:=i+1) hi;rw [RV,if_pos aQ] at ai;show ((rJ U n).flatMap fun x=>(qV k ((rJ U n).erase x)).map (x::·))[Hh k U n i+j]?=_;have aw:=(sd.1 ao).1;conv=>lhs;arg 1;arg 2;rw [ai]
 rw [uB,uB,sC,sv (by unfold Hh;omega)];rw [show Hh k U n i+j-((rJ U i).flatMap fun x=>(qV k ((rJ U n).erase x)).map (x::·)).length=j by unfold Hh;omega];rw [List.getElem?_append_left (by simp;exact aw)];simp [ao]
theorem OJ {α:Type} (P:Nat→α→α→Prop) (h0:α) (h:∀ i a,∃ b,P i a b):∃ f:Nat→α,f 0=h0∧∀ i,P i (f i) (f (i+1)):=by
 classical
 exact ⟨fun n=>Nat.rec h0 (fun i a=>Classical.choose (h i a)) n,rfl,fun i=>uJ (h i _)⟩
theorem YO {U:List Int} {i:Nat} (h:∀ i,0≤U.getD i 0):∀ j,0≤(U.set i 1).getD j 0:=fun j=>by
 have:=h j;simp only [sB,List.getElem?_set] at this ⊢;split
 ·split <;> simp
 ·exact this
theorem YM {U:List Int} {i:Nat} (hi:i<U.length) (h:U.getD i 0=0):U.set i 0=U:=by
 rw [sB,sm hi] at h;rw [←show U[i]=0 from h,List.set_getElem_self]
def aa1 (L:Nat) (q5:Nat→List ar) (c:Nat) (begun:List Int) (E:List (List Int)):Prop :=
 ∀ (j:Nat) (l:List Int),E[j]?=some l→∀ Y:List ar,∃ Z,Sem Tryz.prog (.yield L) [Hi (begun++l)] (q5 (c+j)++Y) 0 (.bool true) (q5 (c+j+1)++(Y++Z))
theorem VK {b:((List (Int×Int))×(Int×Int))×Unit} (qS:b.1.1.length≤7) (iP:0<b.1.1.length) {L N:Nat} {q5:Nat→List ar} (hlen:∀ i,(q5 i).length=N) {Y0:List ar} {p:Nat} (aB:N+Y0.length=p) :
  ∀ (k:Nat) (begun:List Int) (IW:hB) (U:List Int) (c:Nat),U.length=7→(∀ i,0≤U.getD i 0)→begun.length+k=b.1.1.length→(rJ U b.1.1.length).length=k→((IW=.full∧begun=[])∨IW=.uniq 1∧begun≠[])→aa1 L q5 c begun (qV k (rJ U b.1.1.length)) →
  ∀ Y,∃ Z,Sem Tryz.prog (.fn 71) [.av (begun.map hX) begun.length IW,.bR [lj b],.ptr p 0,.ptr (p+1) 0,.ptr (p+2) 0] (rU (q5 c) Y0 L (.bR [lj b]) p U Y) 0 (.bool true) (rU (q5 (c+(qV k (rJ U b.1.1.length)).length)) Y0 L (.bR [lj b]) p U (Y++Z))
 | 0,begun,IW,U,c,r9,_,al,ao,CM,ai,Y=>by
   obtain ⟨Z,cl⟩:=ai 0 [] rfl (Y0++([.cells [.yield L],.cells (U.map hX),.cells [I2 (.bR [lj b]) p]]++Y));(have JV:(q5 c).length+Y0.length=p:=by rw [hlen];exact aB);(have bI:begun≠[]:=fun e=>by subst e;simp at al;omega);have CM:IW=.uniq 1:=by
    rcases CM with ⟨_,h⟩ | ⟨h,_⟩
    ·exact absurd h bI
    ·exact h
   subst CM;obtain ⟨a,l,rfl⟩:=tY bI;refine ⟨Z,?_⟩;(have e1:q5 (c+0)++(Y0++([.cells [.yield L],.cells (U.map hX),.cells [I2 (.bR [lj b]) p]]++Y))=rU (q5 c) Y0 L (.bR [lj b]) p U Y:=by unfold rU;rfl);(have b9:q5 (c+0+1)++((Y0++([.cells [.yield L],.cells (U.map hX),.cells [I2 (.bR [lj b]) p]]++Y))++Z)=rU (q5 (c+1)) Y0 L (.bR [lj b]) p U (Y++Z):=by unfold rU;simp);rw [e1,b9,sM] at cl;show Sem _ _ _ _ _ _ (rU (q5 (c+1)) _ _ _ _ _ _);refine rL eD O' rfl cl.1 fun Q bo=>?_;unfold Lr Lt;obtain ⟨fY,Hp⟩:∃ c,JF=c:=⟨_,rfl⟩;rw [Hp];(conv=>whnf);rw [decide_eq_true (show (((a::l).length:Nat):Int)=(b.1.1.length:Int) by omega)];(conv=>whnf);refine Ew (ahD JV) ?_;(conv=>whnf);refine ⟨_,_,rH cl,?_⟩;(conv=>whnf);exact bo _ _ _ ⟨.inr rfl,lF.refl _,rfl⟩
 | k+1,begun,IW,U,c,r9,Ns,al,ao,CM,ai,Y=>by
   obtain ⟨n,aI⟩:∃ n,n=b.1.1.length:=⟨_,rfl⟩;have M_:=VK (L:=L) qS iP hlen aB k;rw [←aI] at qS iP al ao ai M_ ⊢;have JV:∀ j,(q5 j).length+Y0.length=p:=fun j=>by rw [hlen];exact aB
   obtain ⟨J1,Ld,KB⟩:=OJ (fun i Z QE=>(i<n→U.getD i 0=0→∃ W,QE=Z++W∧Sem Tryz.prog (.fn 71) [.av ((begun++[(i:Int)]).map hX) (begun++[(i:Int)]).length (.uniq 1),.bR [lj b],.ptr p 0,.ptr (p+1) 0,.ptr (p+2) 0] (rU (q5 (c+Hh k U n i)) Y0 L (.bR [lj b]) p (U.set i 1) (Y++Z)) 0 (.bool true) (rU (q5 (c+Hh k U n (i+1))) Y0 L (.bR [lj b]) p (U.set i 1) (Y++QE)))∧(¬ (i<n∧U.getD i 0=0)→QE=Z)) ([]:List ar) (fun i Z=>by
    by_cases h:i<n∧U.getD i 0=0
    ·obtain ⟨hi,aQ⟩:=h;have hm:(i:Int)∈rJ U n:=WV.2 ⟨i,hi,aQ,rfl⟩
     obtain ⟨W,l9⟩:=M_ (begun++[(i:Int)]) (.uniq 1) (U.set i 1) (c+Hh k U n i) (by simpa using r9) (YO Ns) (by simp;omega) (by rw [Ml (by omega) aQ,tR hm];omega) (.inr ⟨rfl,by simp⟩) (fun j l aw Y=>by
      rw [Ml (by omega) aQ] at aw;obtain ⟨Z,cl⟩:=ai _ _ (WC hi aQ aw) Y;refine ⟨Z,?_⟩;rw [show c+Hh k U n i+j=c+(Hh k U n i+j) by omega,sC]
      exact cl) (Y++Z)
     refine ⟨Z++W,fun _ _=>⟨W,rfl,?_⟩,fun h=>absurd ⟨hi,aQ⟩ h⟩;rw [Ml (by omega) aQ] at l9;rw [OL,if_pos aQ,←sC,←tj];exact l9
    ·exact ⟨Z,fun ab ae=>absurd ⟨ab,ae⟩ h,fun _=>rfl⟩)
   refine ⟨J1 n,?_⟩;have RH:Hh k U n n=(qV (k+1) (rJ U n)).length:=rfl;rw [←RH];refine rL eD O' rfl (IP (by unfold rU;simp [hlen])) fun Q bo=>?_;have main:∀ T,T=qg 52 [(0,Hi begun),(1,.bR [lj b]),(2,.ptr p 0),(3,.ptr (p+1) 0),(4,.ptr (p+2) 0),(6,.bool false),(17,.bool false)]→dN Tryz.prog Kw 71 0 none JF T (rU (q5 c) Y0 L (.bR [lj b]) p U Y) Q:=by
    rintro _ rfl;unfold JF SK SJ;obtain ⟨br,eP⟩:∃ c,Ls=c:=⟨_,rfl⟩;rw [eP];(conv=>whnf);rw [←aI];refine .intro (fun m T H=>∃ i:Nat,i≤n∧m=n-i∧T=qg 52 [(0,Hi begun),(3,.ptr (p+1) 0),(4,.ptr (p+2) 0),(26,hX n),(27,hX i)]∧H=rU (q5 (c+Hh k U n i)) Y0 L (.bR [lj b]) p U (Y++J1 i)) n ⟨0,sE _,rfl,rfl,by rw [Ld,sM];rfl⟩ ?_;rintro m T H ⟨i,hi,rfl,rfl,rfl⟩;(conv=>whnf);refine HH (fun aR=>?_) (fun aR=>?_)
    ·(have hc:i<n:=by omega);(conv=>whnf);refine ⟨by omega,?_⟩;(conv=>whnf);refine Ew (S8 (JV _)) ?_;(conv=>whnf);rw [show 0+(i:Int).toNat*1=i by omega];refine Ew (x:=hX (U.getD i 0)) (by rw [sq,sB,sm (show i<U.length by omega)];rfl) ?_;(conv=>whnf);(have rK:IntKind.i64.wrap ((i:Int)+1)=((i+1:Nat):Int):=by rw [HR _ (by omega) (by omega)];omega);refine HH (fun aQ=>?_) (fun aQ=>?_)
     ·(conv=>whnf);refine ⟨n-(i+1),by omega,i+1,by omega,rfl,by rw [rK];rfl,?_⟩;rw [OL,if_neg (by omega),(KB i).2 (by omega)];rfl
     ·(have Np:U.getD i 0=0:=by have:=Ns i;omega);obtain ⟨W,l9,cl⟩:=(KB i).1 hc Np;(conv=>whnf);refine ⟨by omega,?_⟩;(conv=>whnf);refine Ew (S8 (JV _)) ?_;(conv=>whnf);rw [show 0+(i:Int).toNat*1=i by omega];refine Gn (by simp;omega) ?_;(conv=>whnf);rw [show (List.map hX U).set i (I.int IntKind.i64 1)=(U.set i 1).map hX by rw [tQ],Y1 (JV _)];subst eP;refine ahC (JV _) (by simpa using r9) (by omega) (by omega) ⟨q5 (c+Hh k U n (i+1)),Y++J1 (i+1),by rw [hlen,hlen],cl,?_⟩;(conv=>whnf);refine ⟨n-(i+1),by omega,i+1,by omega,rfl,by rw [rK];rfl,?_⟩;rw [List.set_set,YM (by omega) Np]
    ·(obtain rfl:i=n:=by omega);(conv=>whnf);exact bo _ _ _ ⟨.inr rfl,lF.refl _,rfl⟩
   rcases CM with ⟨rfl,rfl⟩ | ⟨rfl,bI⟩
   ·unfold Lr Lt;obtain ⟨fY,Hp⟩:∃ c,JF=c:=⟨_,rfl⟩;rw [Hp];(conv=>whnf);rw [decide_eq_false (show ¬ (((([]:List Int).length:Nat):Int)=(b.1.1.length:Int)) by simp only [ug];omega)];(conv=>whnf);subst Hp;exact main _ rfl
   ·obtain ⟨a,l,rfl⟩:=tY bI;unfold Lr Lt;obtain ⟨fY,Hp⟩:∃ c,JF=c:=⟨_,rfl⟩;rw [Hp];(conv=>whnf);rw [decide_eq_false (show ¬ ((((a::l).length:Nat):Int)=(b.1.1.length:Int)) by omega)];(conv=>whnf);subst Hp;exact main _ rfl
def OB (P:Program) (k:FuncId) (cap:List I) (E:List I):Prop :=
 ∀ (l N:Nat) (q5:Nat→List ar),(∀ i,(q5 i).length=N)→l<N →
   (∀ (i:Nat) (h:i<E.length) (Y:List ar),∃ Z,Sem P (.yield l) [E[i]] (q5 i++Y) 0 (.bool true) (q5 (i+1)++(Y++Z))) →
   ∀ Y,∃ Z,Sem P (.fn k) (.yield l::cap) (q5 0++Y) 0 (.tuple []) (q5 E.length++(Y++Z))
theorem YC {α:Type} {P:Program} {A:dt} {fn:FuncId} {rl:Option Nat} {k:FuncId} {cap:List I} {t:Nat} {bp:List Nat} {gE cp:Code} {T:List I} {H Hn:List ar} {Q:cN→List I→List ar→Prop} {f:α→I} {L:List α} (IE:OB P k cap (L.map f))
  (Obj:Nat→List ar) (ax:dc T t=.func k [] cap) (aQ:Obj 0=H) (hlen:∀ i,(Obj i).length=H.length)
  (Lk:∀ (i:Nat) (h:i<L.length) (Y:List ar),∃ Z,Sem P (.yield H.length) [f L[i]] ((Obj i++[.loop .ready none fn (T.map I.view) bp gE cp A])++Y) 0 (.bool true) ((Obj (i+1)++[.loop .ready none fn (T.map I.view) bp gE cp A])++(Y++Z)))
  (hc:inLoop H rl=true) (aI:Obj L.length=Hn) (bo:∀ qT,Q .normal (T.map I.settle) ((Hn++[.dead])++qT)):dN P A fn 0 rl (.AM (.m_ t) bp gE cp) T H Q:=by
 show hF T t _;rw [iN,ax]
 obtain ⟨qT,cl⟩:=IE H.length (H.length+1) (fun i=>Obj i++[.loop .ready none fn (T.map I.view) bp gE cp A]) (fun i=>by simp [hlen]) (by omega) (fun i h Y=>by
  have aX:i<L.length:=by simpa using h
  obtain ⟨qT,ai⟩:=Lk i aX Y
  exact ⟨qT,by rw [tX];exact ai⟩) []
 subst aI;simp only [sM,uy,sZ,aQ] at cl;have ao:(Obj L.length).length=H.length:=hlen _;refine ⟨hc,.tuple [],_,.ready,none,fn,T.map I.view,bp,gE,cp,A,cl,by rw [←ao];exact IK _ _ _,by decide,?_⟩;show Q .normal (T.map I.settle) (((Obj L.length++[ar.loop .ready none fn (T.map I.view) bp gE cp A])++qT).set H.length .dead);rw [←ao,JH];exact bo qT
def qp (n:Nat):List Int:=(List.range n).map fun i:Nat=>(i:Int)
theorem WB {n:Nat} (aI:n≤7):rJ [0,0,0,0,0,0,0] n=qp n:=by
 unfold rJ qp;rw [tS.2];intro a cq
 have:a<n:=sJ.1 cq
 have cL:a<7:=by omega
 match a,cL with
 | 0,_ | 1,_ | 2,_ | 3,_ | 4,_ | 5,_ | 6,_=>rfl
theorem YH {b:((List (Int×Int))×(Int×Int))×Unit} (qS:b.1.1.length≤7) (iP:0<b.1.1.length):OB Tryz.prog 70 [.bR [lj b]] ((qV b.1.1.length (qp b.1.1.length)).map Hi):=by
 intro L N q5 hlen fm ai Y;have jQ:=WB qS
 obtain ⟨Z,cl⟩:=VK (b:=b) (L:=L) qS iP hlen (Y0:=Y) (p:=N+Y.length) rfl b.1.1.length [] .full [0,0,0,0,0,0,0] 0 rfl (fun i=>by
  rw [sB]
  match i with
  | 0 | 1 | 2 | 3 | 4 | 5 | 6 | i+7=>simp) (by simp) (by rw [jQ];simp [qp]) (.inl ⟨rfl,rfl⟩) (fun j l aw Y=>by
    rw [jQ] at aw;obtain ⟨ab,ae⟩:=sd.1 aw;obtain ⟨Z,h⟩:=ai j (by simpa using ab) Y;refine ⟨Z,?_⟩;rw [tX,ae] at h;rw [sG]
    exact h) []
 rw [jQ,sG] at cl;rw [sZ];have e1:rU (q5 0) Y L (.bR [lj b]) (N+Y.length) [0,0,0,0,0,0,0] []=((q5 0++Y)++[.cells [.yield L]])++[.cells [hX 0,hX 0,hX 0,hX 0,hX 0,hX 0,hX 0]]++[.cells [I2 (.bR [lj b]) (N+Y.length)]]:=by
  unfold rU;simp
 refine ⟨[.cells [.yield L],.cells [hX 0,hX 0,hX 0,hX 0,hX 0,hX 0,hX 0],.cells [I2 (.bR [lj b]) (N+Y.length)]]++Z,?_⟩;have b9:rU (q5 (qV b.1.1.length (qp b.1.1.length)).length) Y L (.bR [lj b]) (N+Y.length) [0,0,0,0,0,0,0] ([]++Z)=q5 (qV b.1.1.length (qp b.1.1.length)).length++(Y++([.cells [.yield L],.cells [hX 0,hX 0,hX 0,hX 0,hX 0,hX 0,hX 0],.cells [I2 (.bR [lj b]) (N+Y.length)]]++Z)):=by
  unfold rU;simp
 rw [e1,b9] at cl;obtain ⟨Hn,VN⟩:∃ Hn,Hn=q5 (qV b.1.1.length (qp b.1.1.length)).length++(Y++([.cells [.yield L],.cells [hX 0,hX 0,hX 0,hX 0,hX 0,hX 0,hX 0],.cells [I2 (.bR [lj b]) (N+Y.length)]]++Z)):=⟨_,rfl⟩;rw [←VN] at cl ⊢;have hle:(q5 0++Y).length=N+Y.length:=by simp [hlen]
 obtain ⟨HS,gI⟩:∃ HS,HS=q5 0++Y:=⟨_,rfl⟩;rw [←gI] at cl hle ⊢;refine rL eD WM rfl (IP (by rw [VN,hle];simp [hlen])) fun Q bo=>?_;rw [←hle] at cl;unfold SH SI;conv=>whnf
 have l1:(HS++[ar.cells [I.yield L]]).length=HS.length+1:=by simp
 have l2:((HS++[ar.cells [I.yield L]])++[ar.cells [I.int IntKind.i64 0,I.int IntKind.i64 0,I.int IntKind.i64 0,I.int IntKind.i64 0,I.int IntKind.i64 0,I.int IntKind.i64 0,I.int IntKind.i64 0]]).length=HS.length+2:=by simp
 refine Ew (x:=.cells [.a0]) (by simp) ?_;conv=>whnf
 rw [HK];refine Ew (x:=.cells [I2 (.bR [lj b]) HS.length]) (by rw [sv (se _),l1,l2,Nat.sub_self];rfl) ?_;conv=>whnf
 refine ⟨_,_,rH (by rw [l1,l2];exact cl),?_⟩;conv=>whnf
 exact bo _ _ _ ⟨.inl rfl,lF.refl _,rfl⟩
end Go.Proofs.YtkoioidpbbbaiaaGreat.Ab


namespace Go.Proofs.YtkoioidpbbbaiaaGreat.Ab
open Go
noncomputable def X6:gB :=
 p5 [p3 2 [.cv (.av [] 0 .full)] (.nil 1)] (p5 [p4 3 0,p3 4 [.cv (.func 69 [] []),.cv (.av [] 0 .full),.m_ 3] (.call 0),p4 2 4] .ret)
theorem aei:qu Go.Proofs.Tryz.prog Uu 42=some (X6,5,[.tmp 2]):=by qb
noncomputable def Yj:gB :=
 p5 [p3 2 [.jm 0] .box,p3 4 [.cv (.av [] 0 .full)] (.nil 1)] (.seq (p5 [p4 6 1] (.block 0 (.AM (.m_ 6) [7] (rD Go.Proofs.Tryz.prog 69 0) (rE Go.Proofs.Tryz.prog 69 0)))) (p5 [p3 12 [.Bs 2] .take,p4 4 12] .ret))
theorem aeo:qu Go.Proofs.Tryz.prog JT 69=some (Yj,13,[.tmp 4]):=by qb
noncomputable def Sm:gB :=
 .seq (p5 [p3 16 [.m_ 4] (.zE .one),p3 17 [.cv (.func 43 [] []),.m_ 16] (.call 3)] (.block 0 (.AM (.m_ 17) [18] (rD Go.Proofs.Tryz.prog 16 0) (rE Go.Proofs.Tryz.prog 16 0)))) (p5 [qm 25 6,p4 2 25,qh 3 0] .ret)
noncomputable def XS:gB :=
 .seq (p5 [p6 13 5,qv 14 13 0 .neq] (.cond (.m_ 14) (p5 [p4 15 5,qh 2 0,p4 3 15] .ret) .skip)) (p5 [p3 6 [] (.alloc [.int .i64 0]),⟨none,[.m_ 6,.cv (.int .i64 0)],none,none,.st 1⟩] Sm)
noncomputable def XT:gB :=
 p5 [p3 9 [.Bs 1] (.zE (.str 3)),p3 10 [.cv (.func 40 [] []),.m_ 9,.cv (.av [] 0 .full)] (.call 3),p4 8 10,qR 11 8 0,p3 12 [.Bs 8] (.ext 1),p3 4 [] (.alloc [.eF]),⟨none,[.m_ 4,.jm 11],none,none,.st 1⟩,p4 5 12] XS
noncomputable def XR:gB :=
 p5 [p3 1 [.jm 0] .box,qh 2 0,qh 3 0] XT
theorem aed:qu Go.Proofs.Tryz.prog JR 16=some (XR,26,[.tmp 2,.tmp 3]):=by qb
noncomputable def XN:gB :=
 p5 [p4 21 7,p3 22 [.Bs 6] (.zY 45 0 1),p3 23 [.cv (.func 44 [] []),.m_ 21,.m_ 22] (.call 0),p4 2 23,qh 3 0] .ret
noncomputable def XO:gB :=
 p5 [p4 18 4,p3 19 [.cv (.func 43 [] []),.m_ 18] (.call 3),p3 20 [.cv (.func 42 [] []),.m_ 19] (.call 3),p4 7 20] XN
noncomputable def Sl:gB :=
 p5 [p6 16 4,p3 17 [.Bs 16] (.zY 41 1 0),p3 6 [] (.alloc [.a0]),⟨none,[.m_ 6,.jm 17],none,none,.st 1⟩] XO
noncomputable def XP:gB :=
 .seq (p5 [p6 13 5,qv 14 13 0 .neq] (.cond (.m_ 14) (p5 [p4 15 5,p3 2 [.cv (.av [] 0 .full)] (.nil 1),p4 3 15] .ret) .skip)) Sl
noncomputable def XQ:gB :=
 p5 [p3 9 [.Bs 1] (.zE (.str 3)),p3 10 [.cv (.func 40 [] []),.m_ 9,.cv (.av [] 0 .full)] (.call 3),p4 8 10,qR 11 8 0,p3 12 [.Bs 8] (.ext 1),p4 4 11,p4 5 12] XP
noncomputable def XM:gB :=
 p5 [p3 1 [.jm 0] .box,p3 2 [.cv (.av [] 0 .full)] (.nil 1),qh 3 0] XQ
theorem aec:qu Go.Proofs.Tryz.prog Uf 14=some (XM,24,[.tmp 2,.tmp 3]):=by qb
noncomputable def X8:gB :=
 .seq (ri [p3 6 [.m_ 2] (.zE .one),p4 7 0,p3 8 [.m_ 6,.m_ 7] (.call 3),p3 9 [.m_ 2] (.zE .one),p4 10 1,p3 11 [.m_ 9,.m_ 10] (.call 3),qq 12 8 11 .lss,p4 5 12]) .ret
noncomputable def X7:gB :=
 p5 [p3 5 [.cv (.bool false)] .mR] X8
theorem aej:qu Go.Proofs.Tryz.prog Uw 45=some (X7,13,[.tmp 5]):=by qb
end Go.Proofs.YtkoioidpbbbaiaaGreat.Ab


namespace Go.Proofs.YtkoioidpbbbaiaaGreat.Ab
open Go
theorem K6 {k k':FuncId} {xs ys:List I} {v bn:I} {acc:c4} (h:k'=k→ys=xs→bn=v) (t:∀ p∈acc,p.1=k→p.2.1=xs→p.2.2=v):∀ p∈((k',ys,bn)::acc:c4),p.1=k→p.2.1=xs→p.2.2=v:=fun p aB=>by
 rcases sy.1 aB with rfl | aB
 ·exact h
 ·exact t p aB
end Go.Proofs.YtkoioidpbbbaiaaGreat.Ab


namespace Go.Proofs.YtkoioidpbbbaiaaGreat.Ab
open Go
set_option maxRecDepth 20000
set_option maxHeartbeats 4000000
noncomputable def Yw:gB :=
 .ou false [p3 5 [.jm 7] .mR]
theorem aev:eu Tryz.prog JT (rD Tryz.prog 69 0) 0=some Yw:=by qb
noncomputable def YB:gB :=
 .block 1 (.ou false [p3 8 [.m_ 2] .take,p3 9 [.jm 5] .mR,p3 10 [.Bs 9] (.yB 1 1 [.av [] 0 .full] [0]),p3 11 [.jm 8,.jm 10] (.app 1 24),⟨none,[.jm 2,.jm 11],none,none,.st 1⟩])
theorem aez:eu Tryz.prog JT (rE Tryz.prog 69 0) 0=some YB:=by qb
def Ip (l:List (List Int)):I:=match l with | []=>.av [] 0 .full | _=>.av (l.map oW) l.length (.own 1)
theorem abK {l:List (List Int)} {e:List Int} (he:e≠[]) {yh fx Gi Gj r3 I' HP u8 HQ HM HN HO:I} (ao:l.length≤100000) (Y:List ar) :
  ∃ Z,Sem Tryz.prog (.yield [ar.cells [Ip l]].length) [Hi e] (([ar.cells [Ip l]]++[ar.loop .ready none 69 [yh,fx,.ptr 0 0,Gi,Gj,r3,I',HP,u8,HQ,HM,HN,HO] [7] (rD Tryz.prog 69 0) (rE Tryz.prog 69 0) JT])++Y) 0 (.bool true) (([ar.cells [Ip (l++[e])]]++[ar.loop .ready none 69 [yh,fx,.ptr 0 0,Gi,Gj,r3,I',HP,u8,HQ,HM,HN,HO] [7] (rD Tryz.prog 69 0) (rE Tryz.prog 69 0) JT])++(Y++Z)):=by
 refine ⟨[],?_⟩;rw [sM];obtain ⟨f_,e,rfl⟩:=tY he;refine PB eD aev aez (IK _ _ _) rfl (IP (by simp)) ?_;unfold Yw;conv=>whnf
 refine ⟨rfl,IK _ _ _,?_⟩;rw [JH];unfold YB;cases l with
 | nil =>
   (conv=>whnf);refine ⟨rfl,by omega,?_⟩;(conv=>whnf);refine ⟨by decide,by decide,rfl,?_⟩;(conv=>whnf);show _∧(([ar.cells [Ip ([]++[f_::e])]]++[ar.loop .busy none 69 [yh,fx,.ptr 0 0,Gi,Gj,r3,I',HP,u8,HQ,HM,HN,HO] [7] (rD Tryz.prog 69 0) (rE Tryz.prog 69 0) JT])++Y)[[ar.cells [Ip ([]++[f_::e])]].length]?=_∧lF ((([ar.cells [Ip ([]++[f_::e])]]++[ar.loop .busy none 69 [yh,fx,.ptr 0 0,Gi,Gj,r3,I',HP,u8,HQ,HM,HN,HO] [7] (rD Tryz.prog 69 0) (rE Tryz.prog 69 0) JT])++Y).set [ar.cells [Ip ([]++[f_::e])]].length _) _;exact ⟨rfl,IK _ _ _,by rw [JH];exact lF.refl _⟩
 | cons a l =>
   (conv=>whnf);refine ⟨rfl,by omega,?_⟩;(conv=>whnf);refine ⟨by decide,by simp only [sO] at ao ⊢;omega,by simp,?_⟩;(conv=>whnf);(have e1:List.map oW (a::l)++[I.av (List.map hX (f_::e)) (f_::e).length .shared]=((a::l)++[f_::e]).map oW:=by rw [sR];rfl);have dx:I.av (List.map oW (a::l)++[I.av (List.map hX (f_::e)) (f_::e).length .shared]) ((a::l).length+1) (.own 1)=Ip ((a::l)++[f_::e]):=by
    show _=I.av (((a::l)++[f_::e]).map oW) ((a::l)++[f_::e]).length (.own 1);rw [sR,sD];rfl
   have lX:((([ar.cells [Ip (a::l)]]++[ar.loop .busy none 69 [yh,fx,.ptr 0 0,Gi,Gj,r3,I',HP,u8,HQ,HM,HN,HO] [7] (rD Tryz.prog 69 0) (rE Tryz.prog 69 0) JT])++Y).set 0 (ar.cells ([Ip (a::l)].set 0 (I.av (List.map oW (a::l)) (a::l).length hB.shared)))).set 0 (ar.cells [I.av (List.map oW (a::l)++[I.av (List.map hX (f_::e)) (f_::e).length .shared]) ((a::l).length+1) (.own 1)])=([ar.cells [Ip ((a::l)++[f_::e])]]++[ar.loop .busy none 69 [yh,fx,.ptr 0 0,Gi,Gj,r3,I',HP,u8,HQ,HM,HN,HO] [7] (rD Tryz.prog 69 0) (rE Tryz.prog 69 0) JT])++Y:=by
    rw [dx];rfl
   erw [lX];exact ⟨IK _ _ _,by erw [JH];exact lF.refl _⟩
theorem Pe (l:List (List Int)) (n:Nat) (c:hB):cn 8 (.av (l.map oW) n c)=true:=rM (d:=7) (f:=oW) (fun x=>rM (fun _=>rfl) _ _ _) l n c
theorem Xj (l:List (List Int)):cn 8 (Ip l)=true:=by
 cases l with
 | nil=>rfl
 | cons a l=>exact Pe _ _ _
theorem acp {k:FuncId} {cap:List I} {l:List (List Int)} (IE:OB Tryz.prog k cap (l.map Hi)) (bI:∀ e∈l,e≠[]) (ao:l.length≤100000):qw 69 [.av [] 0 .full,.func k [] cap] (Ip l):=by
 refine OS eD aeo rfl (Xj l) fun Q bo=>?_;unfold Yj;obtain ⟨a7,cc⟩:∃ c,gB.AM (.m_ 6) [7] (rD Tryz.prog 69 0) (rE Tryz.prog 69 0)=c:=⟨_,rfl⟩;rw [cc];conv=>whnf
 subst cc;refine YC (f:=Hi) IE (fun i=>[ar.cells [Ip (l.take i)]]) (by exact rfl) (by exact rfl) (fun _=>rfl) ?_ (rl:=none) (by exact rfl) (Hn:=[ar.cells [Ip l]]) (by show [ar.cells [Ip (l.take l.length)]]=_;rw [uM]) ?_
 ·intro i hi Y;rw [show l.take (i+1)=l.take i++[l[i]] by rw [List.take_add_one,sm hi];rfl];exact abK (l:=l.take i) (e:=l[i]) (bI _ (List.getElem_mem hi)) (by rw [s9];omega) Y
 ·intro qT;cases l with
  | nil =>
    (conv=>whnf);exact bo _ _ _ (Ke (.inr rfl) (Xj _) rfl)
  | cons a l =>
    (conv=>whnf);exact bo _ _ _ (ahd (.inr rfl) (Pe _ _ _) (.inl rfl))
theorem aco {k:FuncId} {cap:List I} {l:List (List Int)} (pv:cap.all (cn 7)=true) (IE:OB Tryz.prog k cap (l.map Hi)) (bI:∀ e∈l,e≠[]) (ao:l.length≤100000):qw 42 [.func k [] cap] (.av (l.map oW) l.length .shared):=by
 refine qO eD aei rfl (Pe _ _ _) fun Q bo=>?_;unfold X6;conv=>whnf
 refine ⟨_,_,Ng (p7 rfl (p7 (I8 rfl pv) rfl)) (acp IE bI ao) _ _,?_⟩;cases l with
 | nil =>
   (conv=>whnf);exact bo _ _ _ ⟨.inr rfl,_,rfl,_,yW rfl,rfl⟩
 | cons a l =>
   (conv=>whnf);exact bo _ _ _ ⟨.inr rfl,_,rfl,_,yW (Pe _ _ _),rfl⟩
theorem WT:∀ {x y:List Int},x.map hX=y.map hX→x=y
 | [],[],_=>rfl
 | [],_::_,h=>by cases h
 | _::_,[],h=>by cases h
 | a::x,c::y,h=>by
   obtain ⟨ab,ae⟩:=List.cons.inj h;(have ab:a=c:=by injection ab);rw [ab,WT ae]
def KU (b:((List (Int×Int))×(Int×Int))×Unit) (x y:List Int):Option Bool :=
 (Kl b x).bind fun n=>(Kl b y).bind fun m=>some (decide (n<m))
theorem aiS {b:((List (Int×Int))×(Int×Int))×Unit} {x y:List Int} {v:Bool} (h:KU b x y=some v):qw 45 [.av (x.map hX) x.length .shared,.av (y.map hX) y.length .shared,.bR [.func 41 [lj b] []]] (B v):=by
 unfold KU at h;obtain ⟨n,aI,h⟩:=p' h;obtain ⟨m,hm,h⟩:=p' h;obtain rfl:=Option.some.inj h;refine OS eD aej rfl rfl fun Q bo=>?_;unfold X7 X8;conv=>whnf
 refine ⟨qj.pl,_,Oh aI,rC,?_⟩;conv=>whnf
 refine ⟨qj.pl,_,Oh hm,(K6 (fun _ e=>?_) rC),?_⟩
 ·have b9:x.map hX=y.map hX:=by
   have:=(List.cons.inj (List.cons.inj e).2).1;injection this
  obtain rfl:x=y:=WT b9;rw [aI] at hm;rw [Option.some.inj hm]
 conv=>whnf
 exact bo _ _ _ (Ke (.inr rfl) rfl rfl)

noncomputable def Qg:gB :=
 .loop (some (qd false [1,1,3,1,6,3,10])) (p5 [p3 15 [.m_ 14,.m_ 13] (.bin .lss)] (.seq (.cond (.m_ 15) .skip (.exit 0)) (.seq (.block 1 (p5 [p3 16 [.m_ 12,.m_ 14] (.kV 1),qm 17 16,p4 7 17] (p5 [p6 18 1,p6 19 7,p6 20 5,p3 21 [.m_ 18,.m_ 19,.m_ 20] (.call 6)] (.cond (.m_ 21) (qF [p4 22 7,p4 5 22]) .skip)))) (qF [qW 23 14 1,p4 14 23]))))
noncomputable def aaw:gB :=
 p5 [p3 4 [.cv (.av [] 0 .full)] (.nil 1)] (p5 [p6 8 0,p3 9 [.Bs 8,.cv (.int .i64 0)] (.kV 1),qm 10 9,p4 5 10] (.seq (p5 [p4 11 0,p3 12 [.jm 11,.cv (.int .i64 1)] (.Bh 1 true false false),p3 13 [.m_ 12] .zJ,qh 14 0] (.block 0 Qg)) (p5 [p4 24 5,p4 4 24] .ret)))
theorem ae6:qu Tryz.prog QO 44=some (aaw,25,[.tmp 4]):=by qb
def KT (l:K5) (better:(qa→qa→Option Bool)) (qc:qa→Option qa):Nat→qa→Int→Option qa
 | 0,_,_=>none
 | m+1,s1,s2 =>
   if (decide (s2<((l.drop (1:Int).toNat).length:Int)))=true then
    qs (0≤s2∧s2<((l.drop (1:Int).toNat).length:Int)) <|
    (better (ix (l.drop (1:Int).toNat) s2) s1).bind fun aS =>
    if aS=true then
     KT l better qc m (ix (l.drop (1:Int).toNat) s2) (w (s2+(1:Int)))
    else
     KT l better qc m s1 (w (s2+(1:Int)))
   else
    qc s1
def Oi (l:K5) (better:(qa→qa→Option Bool)):Option qa :=
 qs (0≤(0:Int)∧(0:Int)<(l.length:Int)) <|
 qs (0≤(1:Int)∧(1:Int)≤(l.length:Int)) <|
 KT l better (fun yn =>
   some yn) qi (ix l (0:Int)) (0:Int)

noncomputable def aav:gB :=
 p5 [p3 1 [.jm 0] .box,p3 2 [.cv .a0] .mR] (p5 [p3 3 [.Bs 1] (.zY 70 0 1),p4 2 3] .ret)
theorem ae5:qu Tryz.prog Uv 43=some (aav,4,[.tmp 2]):=by qb
def ZL (b:((qk×(Int×Int))×Unit)):Option Unit :=
 some ()
theorem Ts {b:((qk×(Int×Int))×Unit)} {v:Unit} (h:ZL b=some v):qw 43 [(.bR [(.av (b.1.1.flatMap p_) b.1.1.length .shared),(hX b.1.2.1),(hX b.1.2.2),Hm])] (.func 70 [] [(.bR [(.bR [(.av (b.1.1.flatMap p_) b.1.1.length .shared),(hX b.1.2.1),(hX b.1.2.2),Hm])])]):=by
 refine qO eD ae5 rfl (I8 rfl (p7 (Ir (p7 (Ir (p7 (HC (fun _=>(p7 rfl (p7 rfl rfl))) _ _ _) (p7 rfl (p7 rfl (p7 rfl rfl))))) rfl)) rfl)) fun Q bo=>?_;have jG:∀ T H,HY [.tmp 2] (.func 70 [] [(.bR [(.bR [(qZ b.1.1 .shared),(hX b.1.2.1),(hX b.1.2.2),Hm])])]) .ret T H→Q .ret T H:=fun T H bD=>bo _ T H bD;unfold ZL at h;unfold aav;conv=>whnf
 exact jG _ _ ⟨.inr rfl,_,rfl,_,(Vs IQ (rN (Vu (l:=[(.bR [(qZ b.1.1 .shared),(hX b.1.2.1),(hX b.1.2.2),Hm])]) (by first | exact q7.h | rfl | (simp [sr,I.settle];done)) (p7 (Ir (p7 (HC (fun _=>(p7 rfl (p7 rfl rfl))) _ _ _) (p7 rfl (p7 rfl (p7 rfl rfl))))) rfl)) IQ)),rfl⟩

theorem aiP {l:(List (List Int))} {better:((List Int)→(List Int)→Option Bool)} {qc:(List Int)→Option (List Int)} {s1:(List Int)} {s2:Int} {kf_better oid lo:Nat} {HS:List ar} {cv:List I} (aE:HS[oid]?=some (.cells cv)) (ha:cv.map I.view=cv) (fc:cv.map (ke HS)=cv) (JV:cv.all (cn 7)=true) (RK:∀ (rh:(List Int)) (BD:(List Int)) (r:Bool),better rh BD=some r→qw kf_better [(.av (rh.map hX) rh.length .shared),(.av (BD.map hX) BD.length .shared),.bR cv] (B r)) {v:(List Int)} {Q:cN→List I→List ar→Prop}   (ra:∀ (yn:(List Int)) (qf:List I),qc yn=some v→rm 25 [(5,(.av (yn.map hX) yn.length .shared))] qf→Q (.exit 0) qf HS) {T:List I} (bZ:eW [false,true,false,false,false,true,false,false,false,false,false,false,true,true,true,false,false,false,false,false,false,false,false,false,false] T=qg 25 [(1,(.func kf_better [] [.ptr oid 0])),(5,(.av (s1.map hX) s1.length .shared)),(12,(.av ((l.drop (1:Int).toNat).map oW) (l.drop (1:Int).toNat).length .shared)),(13,(hX ((l.drop (1:Int).toNat).length:Int))),(14,(hX s2))]) (h:KT l better qc qi s1 s2=some v) :
  dN Tryz.prog QO 44 lo none Qg T HS Q:=by
 unfold Qg;skip;refine wp_loop bZ ?_;refine .intro (fun m T H=>∃ (s1:(List Int)) (s2:Int),T=qg 25 [(1,(.func kf_better [] [.ptr oid 0])),(5,(.av (s1.map hX) s1.length .shared)),(12,(.av ((l.drop (1:Int).toNat).map oW) (l.drop (1:Int).toNat).length .shared)),(13,(hX ((l.drop (1:Int).toNat).length:Int))),(14,(hX s2))]∧H=HS∧KT l better qc m s1 s2=some v) qi ⟨s1,s2,rfl,rfl,h⟩ ?_;clear h bZ;rintro m T H ⟨s1,s2,rfl,rfl,h⟩;cases m
 ·exact rA h
 rename_i m;rw [KT.eq_2] at h;conv=>whnf
 refine bs h (fun qt h=>?_) fun qt h=>?_
 ·rw [qt];conv=>whnf
  refine qE h id fun qH h=>?_;rw [rj oW (l.drop (1:Int).toNat) s2 qH];conv=>whnf
  obtain ⟨aS,qX,h⟩:=p' h;have Cn:hT H (.ptr oid 0)=.bR cv:=by
   show (match H[oid]? with | some (.cells l)=>I.bR (((l.drop 0).map I.view).map (ke H)) | _=>.ptr oid 0)=_;rw [aE];show I.bR ((cv.map I.view).map (ke H))=_;rw [ha,fc]
  refine ⟨_,_,call6 (bs:=[(.av ((ix (l.drop (1:Int).toNat) s2).map hX) (ix (l.drop (1:Int).toNat) s2).length .shared),(.av (s1.map hX) s1.length .shared),.bR cv]) (by show [_,_,(hT H (.ptr oid 0)).ca]=_;rw [Cn];rfl) (by show ([_,_,hT H (.ptr oid 0)]:List I).all (cn 8)=true;rw [Cn];exact (p7 (rM (fun _=>rfl) _ _ _) (p7 (rM (fun _=>rfl) _ _ _) (p7 (Ir JV) rfl)))) (RK _ _ _ qX) rfl,?_⟩;conv=>whnf
  cases aS
  ·(conv=>whnf);replace h:=rq rfl h;exact ⟨m,sg m,s1,(w (s2+(1:Int))),rfl,rfl,h⟩
  ·(conv=>whnf);replace h:=rp rfl h;exact ⟨m,sg m,(ix (l.drop (1:Int).toNat) s2),(w (s2+(1:Int))),rfl,rfl,h⟩
 ·rw [qt];conv=>whnf
  exact ra _ _ h ⟨rfl,rfl⟩
theorem aiQ {l:(List (List Int))} {better:((List Int)→(List Int)→Option Bool)} {kf_better oid:Nat} {HS:List ar} {cv:List I} (aE:HS[oid]?=some (.cells cv)) (ha:cv.map I.view=cv) (fc:cv.map (ke HS)=cv) (JV:cv.all (cn 7)=true) (RK:∀ (rh:(List Int)) (BD:(List Int)) (r:Bool),better rh BD=some r→qw kf_better [(.av (rh.map hX) rh.length .shared),(.av (BD.map hX) BD.length .shared),.bR cv] (B r)) {v:(List Int)} (h:Oi l better=some v):Sem Tryz.prog (.fn 44) [(.av (l.map oW) l.length .shared),(.func kf_better [] [.ptr oid 0])] HS HS.length (.av (v.map hX) v.length .shared) HS:=by
 refine rL eD ae6 rfl (a'.refl _ _) fun Q bo=>?_;unfold Oi at h;unfold aaw;obtain ⟨r_,qD⟩:∃ c,Qg=c:=⟨_,rfl⟩;rw [qD];conv=>whnf
 refine qE h id fun gJ h=>?_;rw [rj oW l (0:Int) gJ];conv=>whnf
 refine qE h id fun gK h=>?_;erw [YT oW l (1:Int) gK];conv=>whnf
 subst qD;refine aiP aE ha fc JV RK ?_ (by exact rfl) h;intro yn qf h qA;obtain ⟨rr,rfl⟩:=qA.ex;conv=>whnf
 obtain rfl:=Option.some.inj h;exact bo _ _ _ ⟨.inr rfl,lF.refl _,rfl⟩
theorem LA (n:Nat):(qp n).length=n:=by simp [qp]
theorem RY {n:Nat} (aI:0<n):∀ e∈qV n (qp n),e≠[]:=fun e he h=>by
 have:=ad8 (LA n) he;rw [h] at this;simp at this;omega
def OO:Nat→Nat
 | 0=>1
 | n+1=>(n+1)*OO n
theorem Vl {α β:Type} {f:α→List β} {c:Nat}:∀ {l:List α},(∀ x∈l,(f x).length=c)→(l.flatMap f).length=l.length*c
 | [],_=>by simp
 | a::l,h=>by
   rw [List.flatMap_cons,sD,h a (by simp),Vl fun x aj=>h x (by simp [aj]),sO,Nat.succ_mul];omega
theorem WD:∀ (n:Nat) (left:List Int),left.length=n→(qV n left).length=OO n
 | 0,_,_=>rfl
 | n+1,left,h=>by
   show (left.flatMap fun x=>(qV n (left.erase x)).map (x::·)).length=(n+1)*OO n;rw [Vl (c:=OO n) fun x aj=>by rw [sZ];exact WD n _ (by rw [tR aj];omega),h]
theorem WE {n:Nat} (aI:n≤7):(qV n (qp n)).length≤100000:=by
 rw [WD n _ (LA n)]
 match n,aI with
 | 0,_ | 1,_ | 2,_ | 3,_ | 4,_ | 5,_ | 6,_ | 7,_=>decide
theorem ab2 {P:Program} {k:FuncId} {args:List I} {H H':List ar} {lo:Nat} {r:I} (h:Sem P (.fn k) args H H.length r H') (aB:cn 8 r=true):oU P 0 lo (.fn k) args H r H:=by
 refine ⟨_,EB h,?_⟩;simp only [eN,EA,sc,yW aB,si]
theorem Ie {d:Nat} (b:((List (Int×Int))×(Int×Int))×Unit):cn (d+3) (lj b)=true:=Ir (p7 (HC (fun _=>p7 rfl (p7 rfl rfl)) _ _ _) (p7 rfl (p7 rfl (p7 rfl rfl))))
def KN (p:qn):Option (List Int×Int) :=
 (rX p []).bind fun r=>match r with
 | (none,q)=>if decide (q≠0)=true then some ([],q) else none
 | (some b,q)=>if decide (q≠0)=true then some ([],q) else
   qs (0<b.1.1.length∧b.1.1.length≤7) <|
   (Oi (qV b.1.1.length (qp b.1.1.length)) (KU b)).bind fun l=>some (l,0)
theorem Tf {p:qn} {v:List Int×Int} (h:KN p=some v):qw 14 [.agg [.av (p.1.flatMap p_) p.1.length .shared,hX p.2.1,hX p.2.2]] (.tuple [.av (v.1.map hX) v.1.length .shared,hX v.2]):=by
 unfold KN at h;obtain ⟨⟨aS,bh⟩,ai,h⟩:=p' h;refine qO eD aec rfl (Is (p7 (rM (fun _=>rfl) _ _ _) (p7 rfl rfl))) fun Q bo=>?_;have jG:∀ T H,HY [.tmp 2,.tmp 3] (.tuple [(.av (v.1.map hX) v.1.length .shared),(hX v.2)]) .ret T H→Q .ret T H:=fun T H bD=>bo _ T H bD;unfold XM XQ XP;obtain ⟨br,eP⟩:∃ c,Sl=c:=⟨_,rfl⟩;rw [eP];conv=>whnf
 refine ⟨qj.pl,_,MX ai,?_⟩;rcases aS with _ | b
 ·conv=>whnf
  refine bs h (fun af h=>?_) fun af h=>?_
  ·rw [af];(conv=>whnf);obtain rfl:=Option.some.inj h;exact jG _ _ (Iu rfl rfl)
  ·cases h
 ·conv=>whnf
  refine bs h (fun af h=>?_) fun af h=>?_
  ·rw [af];(conv=>whnf);obtain rfl:=Option.some.inj h;exact jG _ _ (Iu rfl rfl)
  ·rw [af];(conv=>whnf);subst eP;unfold Sl XO XN;obtain ⟨⟨Di,Mj⟩,h⟩:=rW h;obtain ⟨l,ao,h⟩:=p' h;obtain rfl:=Option.some.inj h;(conv=>whnf);refine ⟨p7 (Ie b) rfl,_,Ts (b:=b) (v:=()) rfl,?_⟩;(conv=>whnf);have pv:[I.bR [lj b]].all (cn 7)=true:=p7 (Ir (p7 (Ie b) rfl)) rfl;refine ⟨p7 (I8 rfl pv) rfl,_,aco pv (YH Mj Di) (RY Di) (WE Mj),?_⟩;(conv=>whnf);refine ⟨_,_,ab2 (aiQ (better:=KU b) (kf_better:=45) (cv:=[.func 41 [lj b] []]) (oid:=1) rfl rfl rfl (p7 (I8 (p7 (Ie b) rfl) rfl) rfl) (fun rh BD r aY=>aiS aY) ao) (rM (fun _=>rfl) _ _ _),?_⟩;(conv=>whnf);exact jG _ _ (Iu rfl rfl)
end Go.Proofs.YtkoioidpbbbaiaaGreat.Ab


namespace Go.Proofs.YtkoioidpbbbaiaaGreat.Ab
open Go
noncomputable def Sn:gB :=
 .ou true [p6 54 8, p3 55 [.Bs 54] .z4, qK 56 55 0, qK 57 56 0, qm 58 57, p3 59 [.m_ 12] (.yM 0), qm 60 59, p3 61 [.m_ 12] (.yM 1), p3 62 [.Bs 61] (.zE (.str 2)), p3 63 [.m_ 12] (.yM 0), p3 64 [.Bs 63] (.other (Oper.mk (some 64) (Op.load 3 (Operand.tmp 63)) 3 "curl.go:119" (Array.mk [Edge.mk 9 Ground.data, Edge.mk 13 (Ground.gcOnly Departure.lateStores)]) none) 13), qW 65 64 1, rn 66 58 60 2, ⟨none, [.jm 66, .jm 62], none, none, .other (Oper.mk none (Op.store 54 (Operand.tmp 66) (Operand.tmp 62)) 0 "curl.go:119" (Array.mk [Edge.mk 12 Ground.data, Edge.mk 8 Ground.data, Edge.mk 0 Ground.phase, Edge.mk 1 Ground.phase, Edge.mk 2 Ground.phase, Edge.mk 3 Ground.phase, Edge.mk 4 Ground.phase, Edge.mk 5 Ground.phase, Edge.mk 6 Ground.phase, Edge.mk 7 Ground.phase, Edge.mk 8 Ground.phase, Edge.mk 9 (Ground.textOnly Departure.lateStores), Edge.mk 10 (Ground.textOnly Departure.lateStores), Edge.mk 11 (Ground.textOnly Departure.lateStores)]) none) 13⟩, p4 10 65]
noncomputable def XV:gB :=
 .seq (p5 [p4 39 10,p3 40 [.m_ 3] (.yM 0),qm 41 40,q2 42 41,qv 43 42 1 .sub,p3 44 [.m_ 12] (.yM 0),qm 45 44,p3 46 [.Bs 45] (.yB 1 1 [.int .i64 0] [0]),p3 47 [.cv (.func 50 [] []),.m_ 39,.m_ 43,.m_ 46] (.call 3),p3 48 [.Bs 47] (.un .not),p4 49 48,ch 50 [.m_ 12] 49 false (.yM 1),ch 51 [.Bs 50] 49 false (.zE (.str 2)),⟨some 52,[.cv (.func 51 [] []),.m_ 51],some (49,false),none,.call 3⟩,p3 53 [.Bs 49,.cv (.bool true),.Bs 52] .pick] (.cond (.m_ 53) (p5 [qh 6 0,qh 7 3] .ret) .skip)) Sn
noncomputable def So:gB :=
 .block 1 (p5 [p3 37 [.m_ 33,.m_ 35] (.kV 3),p3 38 [.Bs 37] (.zE (.str 3)),p3 12 [] (.alloc [.int .i64 0,.int .i64 0,.int .i64 0]),⟨none,[.m_ 12,.jm 38],none,none,.st 3⟩] XV)
noncomputable def XW:gB :=
 p5 [p4 72 2,q2 73 72,p4 6 73,qh 7 0] .ret
noncomputable def Sp:gB :=
 .seq (p5 [p4 68 8,p4 69 1,p3 70 [.cv (.func 41 [] []),.m_ 68,.m_ 69] (.call 6),qv 71 70 0 .gtr] (.cond (.m_ 71) (p5 [qh 6 0,qh 7 23] .ret) .skip)) XW
noncomputable def XX:gB :=
 .seq (p5 [p6 33 2,p3 34 [.m_ 33] .zJ,qh 35 0] (.block 0 (.loop (some (qd false [1,3,4,1,1,1,22,3,38])) (p5 [p3 36 [.m_ 35,.m_ 34] (.bin .lss)] (.seq (.cond (.m_ 36) .skip (.exit 0)) (.seq So (qF [qW 67 35 1,p4 35 67]))))))) Sp
noncomputable def Sq:gB :=
 p5 [p6 23 8,p6 24 8,p3 25 [.Bs 24] .z4,qK 26 25 0,qK 27 26 0,qm 28 27,p3 29 [.cv (.func 49 [] []),.m_ 28] (.call 2),p3 30 [.Bs 23] .z4,qK 31 30 0,qK 32 31 0,⟨none,[.jm 32,.jm 29],none,none,.st 1⟩] XX
noncomputable def XY:gB :=
 .seq (p5 [p6 20 9,qv 21 20 0 .neq] (.cond (.m_ 21) (p5 [p4 22 9,qh 6 0,p4 7 22] .ret) .skip)) (p5 [qh 10 0] Sq)
noncomputable def XZ:gB :=
 p5 [p3 14 [.m_ 3] (.zE (.str 3)),p6 15 1,p3 16 [.Bs 15] (.yB 1 1 [.av [] 0 .full] [0]),p3 17 [.cv (.func 40 [] []),.m_ 14,.m_ 16] (.call 2),p4 13 17,qR 18 13 0,p3 19 [.Bs 13] (.ext 1),p4 8 18,p4 9 19] XY
noncomputable def XU:gB :=
 p5 [p3 3 [.jm 0] .yy,qh 6 0,qh 7 0] XZ
theorem aee:qu Go.Proofs.Tryz.prog Ug 19=some (XU,74,[.tmp 6,.tmp 7]):=by qb
noncomputable def agA:gB :=
 p5 [p3 5 [] (.yB 0 2 [.int .i64 0,.int .i64 0] []),p4 6 0,p3 7 [.jm 5,.jm 6] (.app 2 16),⟨some 2,[.jm 7],none,some 7,.Bq⟩] .ret
noncomputable def X9:gB :=
 p5 [p3 2 [.cv (.av [] 0 .full)] (.nil 2)] (.seq (p5 [p6 3 0, p3 4 [.Bs 3, .cv (.av [] 0 .full)] (.other (Oper.mk (some 4) (Op.binOp .eql 22 (Operand.tmp 3) (Operand.const (Value.slice none 0 0)) 22) 4 "slices.go:357" (Array.mk [Edge.mk 0 Ground.data]) none) 0)] (.cond (.m_ 4) (p5 [p3 2 [.cv (.av [] 0 .full)] (.nil 2)] .ret) .skip)) agA)
theorem aek:qu Go.Proofs.Tryz.prog Uy 49=some (X9,8,[.tmp 2]):=by qb
end Go.Proofs.YtkoioidpbbbaiaaGreat.Ab


namespace Go.Proofs.YtkoioidpbbbaiaaGreat.Ab
open Go
set_option maxRecDepth 20000
set_option maxHeartbeats 4000000
theorem ack {l:List (Int×Int)} (ao:l≠[]) (ab:l.length≤1000) (H:List ar):Sem Tryz.prog (.fn 49) [.av (l.flatMap p_) l.length .shared] H H.length (.ref H.length 0 l.length none 2) (H++[.cells (l.flatMap p_)]):=by
 obtain ⟨a,l,rfl⟩:=tY ao;refine rL eD aek rfl (a'.append _ _ _) fun Q bo=>?_;unfold X9;conv=>whnf
 refine ⟨.bool false,H,fun C=>rfl,?_⟩;conv=>whnf
 refine ⟨Iz p_ 2 (fun _=>rfl) _,by simp only [sO] at ab ⊢;omega,?_⟩;conv=>whnf
 refine ⟨rfl,by simp only [sO] at ab ⊢;omega,?_⟩;conv=>whnf
 refine .inl ⟨by simp,?_⟩;conv=>whnf
 rw [sG];exact bo _ _ _ ⟨.inr rfl,lF.refl _,rfl⟩
theorem af4 {d:Nat} (l:List (Int×Int)) (n:Nat) (c:hB):cn (d+2) (.av (l.flatMap p_) n c)=true:=HC (fun _=>p7 rfl (p7 rfl rfl)) _ _ _
theorem acj {l:List (Int×Int)} (ao:l≠[]) (ab:l.length≤1000) (H:List ar) (lo:Nat):oU Tryz.prog 2 lo (.fn 49) [.av (l.flatMap p_) l.length .shared] H (.ref H.length 0 l.length none 2) (H++[.cells (l.flatMap p_)]):=by
 refine ⟨_,EB (ack ao ab H),?_⟩;have e1:DM 2 H.length (H++[ar.cells (l.flatMap p_)]) (.ref H.length 0 l.length none 2)=some H.length:=by simp [DM,Co,yU]
 have b9:(H++[ar.cells (l.flatMap p_)])[H.length]?=some (.cells (l.flatMap p_)):=by simp
 have dx:bL (H++[ar.cells (l.flatMap p_)]) H.length H.length H.length 8 (.ref H.length 0 l.length none 2)=some (.ref H.length 0 l.length none 2):=by simp [bL]
 have lX:dZ (bL (H++[ar.cells (l.flatMap p_)]) H.length H.length H.length 8) (l.flatMap p_)=some (l.flatMap p_):=zU fun u hu=>by
  obtain ⟨x,_,aj⟩:=tW.1 hu;simp only [p_,sy,uc,or_false] at aj;rcases aj with rfl | rfl <;> rfl
 simp only [eN,EA,sc,e1,b9,dx,lX,se,if_true]
theorem adX {P:Program} {C:b6} {lo id:Nat} {o:Oper} {t:TypeId} {e:Operand} {x y z:I} {H:List ar} (aq:o.op=.load t e) (cq:iI P t=some .one) (ag:H[id]?=some (.cells [x,y,z])):a3 P C lo o 13 [.ptr id 0] H=some (x.view,H):=by
 unfold a3;rw [aq];show dC P lo 13 t H [.ptr id 0]=_;unfold dC;simp only [ag,sO,ug,if_true];rw [U0 cq];simp only [OE,ag,Lm];rfl
theorem S5:∀ (S:List (Int×Int)) (i:Nat) (a b:Int),i<S.length→((S.flatMap p_).set (i*2) (hX a)).set (i*2+1) (hX b)=(S.set i (a,b)).flatMap p_
 | [],i,a,b,h=>absurd h (by simp)
 | s::S,0,a,b,_=>rfl
 | s::S,i+1,a,b,h=>by
   have a8:=S5 S i a b (by simpa using h);show ((hX s.1::hX s.2::S.flatMap p_).set ((i+1)*2) (hX a)).set ((i+1)*2+1) (hX b)=hX s.1::hX s.2::(S.set i (a,b)).flatMap p_;rw [←a8,show (i+1)*2=i*2+1+1 by omega,show i*2+1+1+1=(i*2+1)+1+1 by omega];rfl
theorem ahB {P:Program} {C:b6} {lo id i:Nat} {o:Oper} {t:TypeId} {e1 b9:Operand} {S:List (Int×Int)} {a b:Int} {H:List ar} (aq:o.op=.store t e1 b9) (ah:bE P t=some 2) (bC:lo≤id) (hi:i<S.length) (ag:H[id]?=some (.cells (S.flatMap p_))) :
  a3 P C lo o 13 [.ptr id (i*2),.agg [hX a,hX b]] H=some (.a0,H.set id (.cells ((S.set i (a,b)).flatMap p_))):=by
 have ao:(S.flatMap p_).length=S.length*2:=Iz p_ 2 (fun _=>rfl) S;unfold a3;rw [aq];show gj P lo 13 t H [.ptr id (i*2),.agg [hX a,hX b]]=_;unfold gj;simp only [ag];rw [if_neg (by omega)];unfold g5;simp only [ah,I.cells,gQ,ag,if_pos bC];rw [if_pos ⟨rfl,by omega⟩,←S5 S i a b hi];rfl
theorem R2 {α:Type} {f:α→α} {l:List α} (h:∀ u∈l,f u=u):l.map f=l:=by
 conv=>rhs;rw [←List.map_id l]
 exact List.map_congr_left fun u hu=>h u hu
theorem YE {S:List (Int×Int)} {H:List ar} {id n:Nat} {cap:Option Nat} (ag:H[id]?=some (.cells (S.flatMap p_))) (aI:S.length=n):rowOf H (.ref id 0 n cap 2)=some (S.flatMap p_):=by
 have ao:(S.flatMap p_).length=S.length*2:=Iz p_ 2 (fun _=>rfl) S;simp only [rowOf,ag,sG,List.drop_zero];rw [if_pos (by omega),tb (by omega),R2 (Zp (f:=p_) (fun _=>N_ rfl (N_ rfl Zq)) S)]
abbrev qC:=Int×(Int×Int)
def L' (n:Int):List qC→List (Int×Int)→Int→Option (Option (List (Int×Int)))
 | [],S,_=>some (some S)
 | c::r,S,next=>(IU next (w (n-1)) [c.1]).bind fun a =>
   if a=true then (KY c.2).bind fun bad=>if bad=true then some none else qs (0≤c.1∧c.1<(S.length:Int)) <| L' n r (S.set c.1.toNat c.2) (w (c.1+1))
   else some none
def JL (p:qn) (order:List Int) (l:List qC):Option (Int×Int) :=
 (rX p [order]).bind fun r=>match r with
 | (none,q)=>if decide (q≠0)=true then some (0,q) else none
 | (some b,q)=>if decide (q≠0)=true then some (0,q) else
   qs (p.1≠[]∧p.1.length≤1000∧l.length≤1000) <|
   (L' p.1.length l p.1 0).bind fun o=>match o with
   | none=>some (0,3)
   | some S=>(Kl ((S,p.2),()) order).bind fun c=>if decide (0<c)=true then some (0,23) else some (l.length,0)
theorem PS {p:qn} {order:List Int} {l:List qC} {v:Int×Int} (h:JL p order l=some v):qw 19 [.agg [.av (p.1.flatMap p_) p.1.length .shared,hX p.2.1,hX p.2.2],.av (order.map hX) order.length .shared,.av (l.flatMap qy) l.length .shared] (.tuple [hX v.1,hX v.2]):=by
 unfold JL at h;obtain ⟨⟨aS,bh⟩,ai,h⟩:=p' h;refine qO eD aee rfl (Is (p7 rfl (p7 rfl rfl))) fun Q bo=>?_;have jG:∀ T H,HY [.tmp 6,.tmp 7] (.tuple [hX v.1,hX v.2]) .ret T H→Q .ret T H:=fun T H bD=>bo _ T H bD;unfold XU XZ XY;obtain ⟨nr,Md⟩:∃ c,Sq=c:=⟨_,rfl⟩;rw [Md];conv=>whnf
 refine ⟨rfl,?_⟩;conv=>whnf
 rcases aS with _ | b
 ·refine ⟨_,_,ab5 ai,?_⟩;conv=>whnf
  refine bs h (fun af h=>?_) fun af h=>?_
  ·rw [af];(conv=>whnf);obtain rfl:=Option.some.inj h;exact jG _ _ (Iu rfl rfl)
  ·cases h
 ·obtain ⟨rfl,rfl,_⟩:=Of ai;refine ⟨_,_,ab4 ai,?_⟩;conv=>whnf
  refine bs h (fun af h=>?_) fun af h=>?_
  ·exact absurd af (by decide)
  subst Md;unfold Sq;obtain ⟨⟨bI,aB,ao⟩,h⟩:=rW h;obtain ⟨o,ak,h⟩:=p' h;obtain ⟨br,eP⟩:∃ c,So=c:=⟨_,rfl⟩;obtain ⟨dS,Cr⟩:∃ c,Sp=c:=⟨_,rfl⟩;unfold XX;rw [eP,Cr];conv=>whnf
  refine ⟨_,_,acj bI aB _ _,?_⟩;conv=>whnf
  have el:(l.flatMap qy).length=l.length*3:=Iz qy 3 (fun _=>rfl) _
  refine .intro (fun m T H=>∃ (i:Nat) (S:List (Int×Int)) (next:Int) (Y:List ar),i≤l.length∧m=l.length-i∧S.length=p.1.length∧L' p.1.length (l.drop i) S next=some o ∧
   T=qg 74 [(1,.av (order.map hX) order.length .shared),(2,.av (l.flatMap qy) l.length .shared),(3,.bR [.av (p.1.flatMap p_) p.1.length .shared,hX p.2.1,hX p.2.2]),(8,.ptr 0 0),(10,hX next),(33,.av (l.flatMap qy) l.length .shared),(34,hX l.length),(35,hX i)] ∧
   H=ar.cells [.ref 1 0 p.1.length none 2,hX p.2.1,hX p.2.2,Hm]::ar.cells (S.flatMap p_)::Y) l.length ⟨0,p.1,0,[],sE _,rfl,rfl,ak,rfl,rfl⟩ ?_
  rintro m T H ⟨i,S,next,Y,hi,rfl,cl,al,rfl,rfl⟩;conv=>whnf
  refine HH (fun aR=>?_) (fun aR=>?_)
  ·(have HJ:i<l.length:=by omega);rw [sV HJ] at al;unfold L' at al;obtain ⟨a,cq,al⟩:=p' al;subst eP;unfold So XV;obtain ⟨a7,cc⟩:∃ c,Sn=c:=⟨_,rfl⟩;rw [cc];(conv=>whnf);(have ID:0≤(i:Int)∧(i:Int)<(l.length:Int):=by omega);refine ⟨ID,?_⟩;rw [IZ qy 3 H8 l (i:Int) ID];rw [rI HJ];obtain ⟨c,RD⟩:∃ c,c=l[i]:=⟨_,rfl⟩;rw [←RD] at cq al ⊢;(conv=>whnf);refine Ew (x:=ar.cells [hX 0,hX 0,hX 0]) (by first | exact q7.h | rfl | (simp [sr,I.settle];done)) ?_
   (conv=>whnf);rw [HK];refine Ew (x:=ar.cells [hX c.1,hX c.2.1,hX c.2.2]) (by first | exact q7.h | rfl | (simp [sr,I.settle];done)) ?_
   (conv=>whnf);refine ⟨p7 rfl (p7 rfl (p7 rfl rfl)),_,KX cq,?_⟩;(conv=>whnf);cases a with
   | false =>
     obtain rfl:=Option.some.inj (rq rfl al);(conv=>whnf);obtain rfl:=Option.some.inj h;exact jG _ _ (Iu rfl rfl)
   | true =>
     obtain ⟨bad,gK,al⟩:=p' (rp rfl al);(conv=>whnf);refine Ew (x:=ar.cells [hX c.1,hX c.2.1,hX c.2.2]) (by first | exact q7.h | rfl | (simp [sr,I.settle];done)) ?_
     (conv=>whnf);refine ⟨p7 rfl rfl,_,ZN gK,?_⟩;(conv=>whnf);cases bad with
     | true =>
       obtain rfl:=Option.some.inj (rp rfl al);(conv=>whnf);obtain rfl:=Option.some.inj h;exact jG _ _ (Iu rfl rfl)
     | false =>
       obtain ⟨jJ,al⟩:=rW (rq rfl al);(conv=>whnf);subst cc;unfold Sn;(conv=>whnf);refine Ew (x:=ar.cells [hX c.1,hX c.2.1,hX c.2.2]) (by first | exact q7.h | rfl | (simp [sr,I.settle];done)) ?_
       (conv=>whnf);refine Ew (x:=ar.cells [hX c.1,hX c.2.1,hX c.2.2]) (by first | exact q7.h | rfl | (simp [sr,I.settle];done)) ?_
       (conv=>whnf);refine ⟨_,_,fun C=>adX (x:=hX c.1) rfl (by qb) (by first | exact q7.h | rfl | (simp [sr,I.settle];done)),?_⟩
       (conv=>whnf);refine ⟨by omega,?_⟩;(conv=>whnf);refine ⟨.a0,ar.cells [.ref 1 0 p.1.length none 2,hX p.2.1,hX p.2.2,Hm]::ar.cells ((S.set c.1.toNat c.2).flatMap p_)::(Y++[ar.cells [hX c.1,hX c.2.1,hX c.2.2]]),fun C=>Eq.trans (by rw [sG];exact ahB (S:=S) (i:=c.1.toNat) (id:=1) rfl (by qb) (sE _) (by omega) rfl) rfl,?_⟩;(conv=>whnf);(have rK:IntKind.i64.wrap ((i:Int)+1)=((i+1:Nat):Int):=by rw [HR _ (by omega) (by omega)];omega);exact ⟨l.length-(i+1),by omega,i+1,S.set c.1.toNat c.2,w (c.1+1),_,by omega,rfl,by simpa using cl,al,by rw [rK];rfl,rfl⟩
  ·(obtain rfl:i=l.length:=by omega);rw [uO] at al;obtain rfl:=Option.some.inj al;obtain ⟨c,adp,h⟩:=p' h;(conv=>whnf);subst Cr;unfold Sp XW;have cF:rowOf (ar.cells [.ref 1 0 p.1.length none 2,hX p.2.1,hX p.2.2,Hm]::ar.cells (S.flatMap p_)::Y) (.ref 1 0 p.1.length none 2)=some (S.flatMap p_):=YE rfl cl;have Cn:iA (ar.cells [.ref 1 0 p.1.length none 2,hX p.2.1,hX p.2.2,Hm]::ar.cells (S.flatMap p_)::Y) (.ptr 0 0)=lj ((S,p.2),()):=by
    show I.bR [ke _ (.ref 1 0 p.1.length none 2),hX p.2.1,hX p.2.2,Hm]=_;have f_:ke (ar.cells [.ref 1 0 p.1.length none 2,hX p.2.1,hX p.2.2,Hm]::ar.cells (S.flatMap p_)::Y) (.ref 1 0 p.1.length none 2)=.av (S.flatMap p_) p.1.length .shared:=by
     show (match rowOf _ (.ref 1 0 p.1.length none 2) with | some row=>I.av row p.1.length .shared | none=>.ref 1 0 p.1.length none 2)=_;rw [cF]
    rw [f_,←cl]
   (conv=>whnf);refine ⟨_,_,call6 (bs:=[lj ((S,p.2),()),.av (order.map hX) order.length .shared]) (by rw [sI,Cn];rfl) (by rw [sI,Cn];exact p7 (Ie _) (p7 (rM (fun _=>rfl) _ _ _) rfl)) (Oh adp) rfl,?_⟩;(conv=>whnf);refine bs h (fun af h=>?_) fun af h=>?_
   ·rw [af];(conv=>whnf);obtain rfl:=Option.some.inj h;exact jG _ _ (Iu rfl rfl)
   ·rw [af];(conv=>whnf);obtain rfl:=Option.some.inj h;exact jG _ _ (Iu rfl rfl)
end Go.Proofs.YtkoioidpbbbaiaaGreat.Ab


namespace Go.Proofs.YtkoioidpbbbaiaaGreat.Ab
open Go
noncomputable def Sw:gB :=
 .block 1 (ri [p3 20 [.m_ 5] (.yM 0),qm 21 20,p6 22 1,p6 23 6,rn 24 22 23 3,qK 25 24 0,qm 26 25,p6 27 1,p6 28 6,rn 29 27 28 3,qK 30 29 1,p3 31 [.Bs 30] (.zE (.str 2)),rn 32 21 26 2,⟨none,[.jm 32,.jm 31],none,none,.st 2⟩])
noncomputable def X':gB :=
 .seq (p5 [p6 14 6,p6 15 1,q2 16 15,qq 17 14 16 .lss] (.cond (.m_ 17) .skip (.exit 0))) (.seq Sw (qF [p4 18 6,qW 19 18 1,p4 6 19]))
noncomputable def Ph:gB :=
 .seq (p5 [qh 6 0] (.block 0 (.loop (some (qd false [1,1,2,3,27])) X'))) (p5 [p3 33 [.Bs 5] (.zE (.str 3)),⟨none,[.m_ 4,.jm 33],none,none,.st 3⟩] .ret)
noncomputable def Ya:gB :=
 .seq (.two [p3 7 [] (.yB 0 2 [.int .i64 0,.int .i64 0] []),p3 8 [.m_ 2] (.yM 0),p3 9 [.Bs 8] (.zF .one),p3 10 [.jm 7,.jm 9] (.yt 2 16),p3 11 [.m_ 2] (.yM 1),p3 12 [.Bs 11] (.zF (.str 2)),p3 13 [.Bs 10,.Bs 12] (.build [.av [] 0 .full,.int .i64 0,.int .i64 0] [(0,1),(1,2)]),p3 5 [] (.alloc [.av [] 0 .full,.int .i64 0,.int .i64 0]),⟨none,[.m_ 5,.jm 13],none,none,.st 3⟩] [p3 7 [] (.yB 0 2 [.int .i64 0,.int .i64 0] []),p3 8 [.m_ 2] (.yM 0),p3 9 [.Bs 8] (.zF .one),p3 5 [] (.alloc [.av [] 0 .full,.int .i64 0,.int .i64 0]),p3 10 [.jm 7,.jm 9] (.yt 2 16),p3 11 [.m_ 2] (.yM 1),p3 12 [.Bs 11] (.zF (.str 2)),p3 13 [.Bs 10,.Bs 12] (.build [.av [] 0 .full,.int .i64 0,.int .i64 0] [(0,1),(1,2)]),⟨none,[.m_ 5,.jm 13],none,none,.st 3⟩]) Ph
noncomputable def X_:gB :=
 p5 [p3 2 [.jm 0] .yy,p3 4 [] (.alloc [.av [] 0 .full,.int .i64 0,.int .i64 0])] Ya
theorem ael:qu Go.Proofs.Tryz.prog QQ 54=some (X_,34,[.cell 4 (.str 3)]):=by qb
end Go.Proofs.YtkoioidpbbbaiaaGreat.Ab


namespace Go.Proofs.YtkoioidpbbbaiaaGreat.Ab
open Go
set_option maxRecDepth 20000
set_option maxHeartbeats 4000000
def K_:List qC→List (Int×Int)→Option (List (Int×Int))
 | [],S=>some S
 | c::r,S=>qs (0≤c.1∧c.1<(S.length:Int)) <| K_ r (S.set c.1.toNat c.2)
def Oj (p:qn) (l:List qC):Option qn :=
 qs (p.1≠[]∧p.1.length≤1000∧l.length≤1000) <| (K_ l p.1).bind fun S=>some (S,p.2)
theorem WR {p:qn} {l:List qC} {S':List (Int×Int)} (ao:l.length≤1000) (C':K_ l p.1=some S') {vid rid:Nat} {Hs:List (Int×Int)→List ar} (aQ:∀ S,∃ x,(Hs S)[0]?=some (.cells [x,hX 0,hX 0])) (ad:∀ S,(Hs S)[vid]?=some (.cells [.ref rid 0 p.1.length none 2,hX p.2.1,hX p.2.2])) (ai:∀ S,(Hs S)[rid]?=some (.cells (S.flatMap p_))) (ah:∀ S bK,(Hs S).set rid (.cells (bK.flatMap p_))=Hs bK)
  (nG:∀ (S:List (Int×Int)) (T:List I),S.length=p.1.length→dc T 4=.ptr 0 0→HY [.cell 4 (.str 3)] (.agg [.av (S.flatMap p_) S.length .shared,hX p.2.1,hX p.2.2]) .ret T ((Hs S).set 0 (.cells [.ref rid 0 p.1.length none 2,hX p.2.1,hX p.2.2])))
  {Q:cN→List I→List ar→Prop} (bo:∀ T H,HY [.cell 4 (.str 3)] (.agg [.av (S'.flatMap p_) S'.length .shared,hX p.2.1,hX p.2.2]) .ret T H→Q .ret T H) {T:List I} {v2:I} (bZ:T=qg 34 [(1,.av (l.flatMap qy) l.length .shared),(2,v2),(4,.ptr 0 0),(5,.ptr vid 0)]) :
  dN Tryz.prog QQ 54 0 none Ph T (Hs p.1) Q:=by
 subst bZ;unfold Ph X';obtain ⟨a7,cc⟩:∃ c,Sw=c:=⟨_,rfl⟩;rw [cc];conv=>whnf
 refine .intro (fun m T H=>∃ (i:Nat) (S:List (Int×Int)),i≤l.length∧m=l.length-i∧S.length=p.1.length∧K_ (l.drop i) S=some S'∧T=qg 34 [(1,.av (l.flatMap qy) l.length .shared),(4,.ptr 0 0),(5,.ptr vid 0),(6,hX i)]∧H=Hs S) l.length ⟨0,p.1,sE _,rfl,rfl,C',rfl,rfl⟩ ?_;rintro m T H ⟨i,S,hi,rfl,cl,al,rfl,rfl⟩;conv=>whnf
 refine HH (fun aR=>?_) (fun aR=>?_)
 ·have HJ:i<l.length:=by omega
  rw [sV HJ] at al;unfold K_ at al;obtain ⟨jJ,al⟩:=rW al;subst cc;unfold Sw;conv=>whnf
  refine Ew (ad S) ?_;conv=>whnf
  have ID:0≤(i:Int)∧(i:Int)<(l.length:Int):=by omega
  refine ⟨ID,?_⟩;rw [IZ qy 3 H8 l (i:Int) ID];rw [rI HJ];conv=>whnf
  refine ⟨ID,?_⟩;rw [IZ qy 3 H8 l (i:Int) ID];rw [rI HJ];obtain ⟨c,RD⟩:∃ c,c=l[i]:=⟨_,rfl⟩;rw [←RD] at al jJ ⊢;conv=>whnf
  refine ⟨by omega,?_⟩;conv=>whnf
  refine Ew (ai S) ?_;conv=>whnf
  rw [show 0+c.1.toNat*2=c.1.toNat*2 by omega];have pD:(S.flatMap p_).length=S.length*2:=Iz p_ 2 (fun _=>rfl) S;refine Gn (by omega) ?_;conv=>whnf
  refine Gn (by rw [List.length_set];omega) ?_;conv=>whnf
  erw [S5 S c.1.toNat c.2.1 c.2.2 (by omega),ah];have rK:IntKind.i64.wrap ((i:Int)+1)=((i+1:Nat):Int):=by rw [HR _ (by omega) (by omega)];omega
  exact ⟨l.length-(i+1),by omega,i+1,S.set c.1.toNat c.2,by omega,rfl,by simpa using cl,al,by rw [rK];rfl,rfl⟩
 ·obtain rfl:i=l.length:=by omega
  rw [uO] at al;obtain rfl:=Option.some.inj al;conv=>whnf
  refine Ew (ad S) ?_;conv=>whnf
  obtain ⟨x,aj⟩:=aQ S;refine Ew aj ?_;conv=>whnf
  exact bo _ _ (nG S _ cl rfl)
theorem Vv {S:List (Int×Int)} {H:List ar} {id n d:Nat} {x y:Int} (aE:id<H.length) (ag:H[id]?=some (.cells (S.flatMap p_))) (aI:S.length=n):bL H 0 H.length 0 (d+3) (.agg [.ref id 0 n none 2,hX x,hX y])=some (.agg [.av (S.flatMap p_) n .shared,hX x,hX y]):=by
 have e1:bL H 0 H.length 0 (d+2) (.ref id 0 n none 2)=some (.av (S.flatMap p_) n .shared):=by
  show (if id<0 then some (I.ref id 0 n none 2) else if id=H.length then some (.ref 0 0 n none 2) else match rowOf H (.ref id 0 n none 2) with | some row=>(dZ (bL H 0 H.length 0 (d+1)) row).map fun cs=>.av cs n (eZ none n) | none=>none)=_;rw [if_neg (by omega),if_neg (by omega),YE ag aI];have lX:dZ (bL H 0 H.length 0 (d+1)) (S.flatMap p_)=some (S.flatMap p_):=zU fun u hu=>by
   obtain ⟨x,_,aj⟩:=tW.1 hu;simp only [p_,sy,uc,or_false] at aj;rcases aj with rfl | rfl <;> rfl
  simp only [lX,si];rfl
 show (dZ (bL H 0 H.length 0 (d+2)) [.ref id 0 n none 2,hX x,hX y]).map I.agg=_;rw [rN e1 (rN rfl (rN rfl IQ))];rfl
theorem ai2 {p:qn} {l:List qC} {v:qn} (h:Oj p l=some v):qw 54 [.agg [.av (p.1.flatMap p_) p.1.length .shared,hX p.2.1,hX p.2.2],.av (l.flatMap qy) l.length .shared] (.agg [.av (v.1.flatMap p_) v.1.length .shared,hX v.2.1,hX v.2.2]):=by
 unfold Oj at h;obtain ⟨⟨bI,aB,ao⟩,h⟩:=rW h;obtain ⟨S',ak,h⟩:=p' h;obtain rfl:=Option.some.inj h;refine qO eD ael rfl (H4 (p7 (af4 _ _ _) (p7 rfl (p7 rfl rfl)))) fun Q bo=>?_;have jG:∀ T H,HY [.cell 4 (.str 3)] (.agg [.av (S'.flatMap p_) S'.length .shared,hX p.2.1,hX p.2.2]) .ret T H→Q .ret T H:=fun T H bD=>bo _ T H bD;have pD:(p.1.flatMap p_).length=p.1.length*2:=Iz p_ 2 (fun _=>rfl) p.1;have O5:p.1.length≠0:=fun e=>bI (sT.1 e);have e1:∀ S:List (Int×Int),S.length=p.1.length→∀ T:List I,dc T 4=.ptr 0 0→HY [.cell 4 (.str 3)] (.agg [.av (S.flatMap p_) S.length .shared,hX p.2.1,hX p.2.2]) .ret T [.cells [.ref 1 0 p.1.length none 2,hX p.2.1,hX p.2.2],.cells (S.flatMap p_),.cells [.ref 1 0 p.1.length none 2,hX p.2.1,hX p.2.2]]:=fun S cl T bZ=>by
  refine ⟨.inr rfl,[.agg [.ref 1 0 p.1.length none 2,hX p.2.1,hX p.2.2]],by simp only [r0,bZ];rfl,_,Vv (S:=S) (by simp) rfl cl,by rw [cl];rfl⟩
 have b9:∀ S:List (Int×Int),S.length=p.1.length→∀ T:List I,dc T 4=.ptr 0 0→HY [.cell 4 (.str 3)] (.agg [.av (S.flatMap p_) S.length .shared,hX p.2.1,hX p.2.2]) .ret T [.cells [.ref 2 0 p.1.length none 2,hX p.2.1,hX p.2.2],.cells [.ref 2 0 p.1.length none 2,hX p.2.1,hX p.2.2],.cells (S.flatMap p_)]:=fun S cl T bZ=>by
  refine ⟨.inr rfl,[.agg [.ref 2 0 p.1.length none 2,hX p.2.1,hX p.2.2]],by simp only [r0,bZ];rfl,_,Vv (S:=S) (by simp) rfl cl,by rw [cl];rfl⟩
 unfold X_ Ya;obtain ⟨ajJ,Ri⟩:∃ c,Ph=c:=⟨_,rfl⟩;rw [Ri];conv=>whnf
 refine ⟨rfl,?_⟩;conv=>whnf
 refine ⟨?_,?_⟩
 ·conv=>whnf
  refine ⟨pD,by omega,?_⟩;conv=>whnf
  refine ⟨rfl,by omega,?_⟩;conv=>whnf
  refine ⟨by omega,?_⟩;conv=>whnf
  rw [sG];subst Ri;refine WR ao ak (vid:=2) (rid:=1) (Hs:=fun S=>[.cells [.av [] 0 .full,hX 0,hX 0],.cells (S.flatMap p_),.cells [.ref 1 0 p.1.length none 2,hX p.2.1,hX p.2.2]]) (fun _=>⟨_,rfl⟩) (fun _=>rfl) (fun _=>rfl) (fun _ _=>rfl) (fun S T cl bZ=>e1 S cl T bZ) jG rfl
 ·conv=>whnf
  refine ⟨pD,by omega,?_⟩;conv=>whnf
  refine ⟨rfl,by omega,?_⟩;conv=>whnf
  refine ⟨by omega,?_⟩;conv=>whnf
  rw [sG];subst Ri;refine WR ao ak (vid:=1) (rid:=2) (Hs:=fun S=>[.cells [.av [] 0 .full,hX 0,hX 0],.cells [.ref 2 0 p.1.length none 2,hX p.2.1,hX p.2.2],.cells (S.flatMap p_)]) (fun _=>⟨_,rfl⟩) (fun _=>rfl) (fun _=>rfl) (fun _ _=>rfl) (fun S T cl bZ=>b9 S cl T bZ) jG rfl

abbrev rb:=Int×Int
abbrev ru:=List (Nat×rb×rb)
def rz (A:ru):List (Nat×I×I):=A.map fun a=>(a.1,.agg (p_ a.2.1),.agg (p_ a.2.2))
theorem Rc (a b:rb):gH (.agg (p_ a)) (.agg (p_ b))=some (decide (a=b)):=by
 simp only [gH,p_,dI,if_true,si,tx,Option.some.injEq];rw [Bool.eq_iff_iff];simp only [beq_iff_eq,decide_eq_true_eq,Bool.and_eq_true];exact ⟨fun h=>Prod.ext h.1 h.2,fun h=>by rw [h];exact ⟨rfl,rfl⟩⟩
theorem Re {k:rb}:∀ {A:ru} {n:Nat},(∀ x∈A,k≠x.2.1)→fE (.agg (p_ k)) (rz A) n=some none
 | [],n,_=>rfl
 | a::A,n,h=>by
   simp only [rz,sI,fE,Rc];rw [decide_eq_false (h a (by simp))];exact Re (n:=n+1) fun x aj=>h x (by simp [aj])
theorem OP {k:rb} {a:Nat×rb×rb} {R:ru} (cq:a.2.1=k):∀ {A:ru} {n:Nat},(∀ x∈A,k≠x.2.1)→fE (.agg (p_ k)) (rz (A++a::R)) n=some (some (n+A.length))
 | [],n,_=>by
   simp only [uy,rz,sI,fE,Rc];rw [decide_eq_true cq.symm];rfl
 | b::A,n,h=>by
   simp only [List.cons_append,rz,sI,fE,Rc];rw [decide_eq_false (h b (by simp))];have:=OP (R:=R) cq (A:=A) (n:=n+1) fun x aj=>h x (by simp [aj]);simp only [rz] at this;show fE (.agg (p_ k)) _ (n+1)=_;rw [this,sO];congr 2;omega
theorem N6 (k:rb):∀ (A:ru),(∀ x∈A,k≠x.2.1)∨∃ L a R,A=L++a::R∧a.2.1=k∧∀ x∈L,k≠x.2.1
 | []=>.inl (by simp)
 | b::A=>by
   by_cases h:b.2.1=k
   ·exact .inr ⟨[],b,A,rfl,h,by simp⟩
   ·rcases N6 k A with ab | ⟨L,a,R,ab,ae,aF⟩
    ·refine .inl fun x aj=>?_;rcases sy.1 aj with rfl | aj
     ·exact fun e=>h e.symm
     ·exact ab x aj
    ·refine .inr ⟨b::L,a,R,by rw [ab];rfl,ae,fun x aj=>?_⟩;rcases sy.1 aj with rfl | aj
     ·exact fun e=>h e.symm
     ·exact aF x aj
def HU (s:ru×Nat) (k v:rb):ru×Nat :=
 if s.1.any (fun a=>decide (k=a.2.1))=true then (s.1.map fun a=>if k=a.2.1 then (a.1,k,v) else a,s.2) else (s.1++[(s.2,k,v)],s.2+1)
structure JP (s:ru×Nat):Prop where
 ids:(s.1.map (·.1)).Nodup
 low:∀ a∈s.1,a.1<s.2
 keys:(s.1.map (·.2.1)).Nodup
theorem Wb {L R:ru} {a:Nat×rb×rb} (h:((L++a::R).map (·.2.1)).Nodup):(∀ x∈L,a.2.1≠x.2.1)∧∀ x∈R,a.2.1≠x.2.1:=by
 rw [sR,sI] at h;obtain ⟨_,ae,aF⟩:=tZ.1 h;refine ⟨fun x aj e=>aF _ (tn aj) _ (by simp) e.symm,fun x aj e=>?_⟩;exact (tU.1 ae).1 (by rw [e];exact tn aj)
theorem W1 {s:ru×Nat} {k v:rb} (h:∀ x∈s.1,k≠x.2.1):HU s k v=(s.1++[(s.2,k,v)],s.2+1):=by
 unfold HU;rw [if_neg];rw [vM];rintro ⟨x,aj,e⟩;exact h x aj (of_decide_eq_true e)
theorem W2 {L R:ru} {a:Nat×rb×rb} {c:Nat} {v:rb} (al:((L++a::R).map (·.2.1)).Nodup):HU (L++a::R,c) a.2.1 v=(L++(a.1,a.2.1,v)::R,c):=by
 obtain ⟨ab,ae⟩:=Wb al;unfold HU;rw [if_pos (by rw [vM];exact ⟨a,by simp,decide_eq_true rfl⟩)];have key:∀ l:ru,(∀ x∈l,a.2.1≠x.2.1)→l.map (fun x=>if a.2.1=x.2.1 then (x.1,a.2.1,v) else x)=l:=fun l ao=>R2 fun x aj=>if_neg (ao x aj);show (List.map _ (L++a::R),c)=_;rw [sR,sI,key L ab,key R ae,if_pos rfl]
theorem JP.put {s:ru×Nat} (h:JP s) (k v:rb):JP (HU s k v):=by
 rcases N6 k s.1 with ab | ⟨L,a,R,ab,ae,aF⟩
 ·rw [W1 ab];refine ⟨?_,?_,?_⟩
  ·rw [sR,tZ];refine ⟨h.ids,by simp,fun x aj y aY e=>?_⟩;obtain ⟨z,bj,rfl⟩:=sH.1 aj;have:=h.low z bj;simp at aY;omega
  ·intro z bj;rcases sU.1 bj with bj | bj
   ·have:=h.low z bj;show z.1<s.2+1;omega
   ·simp at bj;subst bj;show s.2<s.2+1;omega
  ·rw [sR,tZ];refine ⟨h.keys,by simp,fun x aj y aY e=>?_⟩;obtain ⟨z,bj,rfl⟩:=sH.1 aj;simp at aY;exact ab z bj (by rw [e,aY])
 ·obtain ⟨s1,c⟩:=s;simp only at ab;subst ab ae;rw [W2 h.keys];refine ⟨?_,?_,?_⟩
  ·have:=h.ids;simpa using this
  ·intro z bj;rcases sU.1 bj with bj | bj
   ·exact h.low z (by simp [bj])
   ·rcases sy.1 bj with rfl | bj
    ·exact h.low a (by simp)
    ·exact h.low z (by simp [bj])
  ·have:=h.keys;simpa using this
theorem WZ {α:Type} (f:α→α) (x:α) (R:List α):∀ L:List α,(L++x::R).modify L.length f=L++f x::R
 | []=>rfl
 | a::L=>by
   show (a::(L++x::R)).modify (L.length+1) f=a::(L++f x::R);rw [List.modify_succ_cons,WZ f x R L]
theorem Xq {k v:rb} {s:ru×Nat} (ah:JP s) :
  (∃ i,fE (.agg (p_ k)) (rz s.1) 0=some (some i)∧(rz s.1).modify i (fun e=>(e.1,.agg (p_ k),.agg (p_ v)))=rz (HU s k v).1∧s.2=(HU s k v).2) ∨
  (fE (.agg (p_ k)) (rz s.1) 0=some none∧rz s.1++[(s.2,.agg (p_ k),.agg (p_ v))]=rz (HU s k v).1∧s.2+1=(HU s k v).2):=by
 rcases N6 k s.1 with ab | ⟨L,a,R,ab,ae,aF⟩
 ·refine .inr ⟨Re ab,?_⟩;rw [W1 ab];exact ⟨by simp [rz],rfl⟩
 ·obtain ⟨s1,c⟩:=s;simp only at ab;subst ab ae;refine .inl ⟨_,OP rfl aF,?_⟩;rw [W2 ah.keys];refine ⟨?_,rfl⟩;rw [sG];simp only [rz,sR,sI];have:=WZ (fun e:Nat×I×I=>(e.1,I.agg (p_ a.2.1),I.agg (p_ v))) (a.1,I.agg (p_ a.2.1),I.agg (p_ a.2.2)) (R.map fun a=>(a.1,I.agg (p_ a.2.1),I.agg (p_ a.2.2))) (L.map fun a=>(a.1,I.agg (p_ a.2.1),I.agg (p_ a.2.2)));rw [sZ] at this;exact this
def JD (A:ru) (k:rb):Option rb:=(A.find? fun a=>decide (k=a.2.1)).map (·.2.2)
theorem aeD (k:rb) (A:ru) :
  (∃ v i e,JD A k=some v∧fE (.agg (p_ k)) (rz A) 0=some (some i)∧(rz A)[i]?=some e∧e.2.2=.agg (p_ v))∨(JD A k=none∧fE (.agg (p_ k)) (rz A) 0=some none):=by
 rcases N6 k A with ab | ⟨L,a,R,ab,ae,aF⟩
 ·refine .inr ⟨?_,Re ab⟩;unfold JD;rw [uL.2 fun x aj=>by simpa using ab x aj];rfl
 ·subst ab ae;refine .inl ⟨a.2.2,_,(a.1,.agg (p_ a.2.1),.agg (p_ a.2.2)),?_,OP rfl aF,?_,rfl⟩
  ·unfold JD;rw [List.find?_append,uL.2 fun x aj=>by simpa using aF x aj];simp
  ·simp only [rz,sR,sI,sG];rw [sv (by simp)];simp
theorem acC {A:ru} {a:Nat×rb×rb} (al:(A.map (·.2.1)).Nodup) (cq:a∈A):∃ i,fE (.agg (p_ a.2.1)) (rz A) 0=some (some i)∧(rz A).eraseIdx i=rz (A.filter fun x=>decide (a.2.1≠x.2.1)):=by
 obtain ⟨k,VY⟩:∃ k,k=a.2.1:=⟨_,rfl⟩;rw [←VY];rcases N6 k A with ab | ⟨L,b,R,ab,ae,aF⟩
 ·exact absurd VY (ab a cq)
 ·subst ab ae;refine ⟨_,OP rfl aF,?_⟩;obtain ⟨aJ,aN⟩:=Wb al;have e1:(L++b::R).filter (fun x=>decide (b.2.1≠x.2.1))=L++R:=by
   rw [tE,uN (by simp),tS.2 fun x aj=>decide_eq_true (aJ x aj),tS.2 fun x aj=>decide_eq_true (aN x aj)]
  rw [e1,sG];simp only [rz,sR,sI];rw [List.eraseIdx_append_of_length_le (by simp)];simp
end Go.Proofs.YtkoioidpbbbaiaaGreat.Ab


namespace Go.Proofs.YtkoioidpbbbaiaaGreat.Ab
open Go
noncomputable def SN:gB :=
 .ou false [p6 44 1,p6 45 7,p6 46 6,p6 47 0,p3 48 [.Bs 47] .z4,qK 49 48 0,qK 50 49 1,qK 51 50 0,qm 52 51,qq 53 46 52 .mul,qq 54 45 53 .add,qq 55 44 54 .mul,p3 56 [.Bs 55,.cv (.int .i64 0)] (.build [.int .i64 0,.int .i64 0] [(0,1),(1,1)]),⟨none,[.m_ 8,.jm 56],none,none,.st 2⟩]
noncomputable def Ps:gB :=
 p5 [p6 57 5,p3 58 [.Bs 8] (.zE (.str 2)),p6 59 7,p6 60 6,p3 61 [.Bs 59,.Bs 60] (.build [.int .i64 0,.int .i64 0] [(0,1),(1,1)]),⟨none,[.Bs 57,.Bs 58,.Bs 61],none,none,.zR (.str 2)⟩] (p5 [p6 62 1,qv 63 62 0 .eql] (.cond (.m_ 63) (.exit 0) .skip))
noncomputable def SS:gB :=
 .seq (.seq (ri [p6 31 0,p3 32 [.Bs 31] .z4,qK 33 32 0,qK 34 33 1,qK 35 34 0,qm 36 35,p6 37 0,p3 38 [.Bs 37] .z4,qK 39 38 0,qK 40 39 1,qK 41 40 1,qm 42 41,qq 43 36 42 .eql]) (.cond (.m_ 43) SN .skip)) Ps
noncomputable def Pt:gB :=
 .block 3 (p5 [p6 24 1,p6 25 7,qq 26 24 25 .mul,p6 27 1,p6 28 6,qq 29 27 28 .mul,p3 30 [.Bs 26,.Bs 29] (.build [.int .i64 0,.int .i64 0] [(0,1),(1,1)]),p3 8 [] (.alloc [.int .i64 0,.int .i64 0]),⟨none,[.m_ 8,.jm 30],none,none,.st 2⟩] SS)
noncomputable def Yn:gB :=
 .seq (p5 [p6 20 7,qv 21 20 100 .leq] (.cond (.m_ 21) .skip (.exit 2))) (.seq Pt (qF [p4 22 7,qW 23 22 1,p4 7 23]))
noncomputable def Pu:gB :=
 .loop (some (qd false [0,2,3,3,115])) Yn
noncomputable def Yo:gB :=
 .block 1 (p5 [qh 7 0] (.block 2 Pu))
noncomputable def Yp:gB :=
 .seq (p5 [p6 16 6,qv 17 16 10 .leq] (.cond (.m_ 17) .skip (.exit 0))) (.seq Yo (qF [p4 18 6,qW 19 18 1,p4 6 19]))
noncomputable def SU:gB :=
 .ou false [p4 95 10,p6 96 9,qK 97 12 0,qm 98 97,p6 99 13,p4 100 13,p3 101 [.Bs 100] (.un .neg),p3 102 [.jm 98,.jm 99,.jm 101] .max,qq 103 96 102 .mul,qq 104 95 103 .add,p4 10 104]
noncomputable def SV:gB :=
 .seq (ri [p3 83 [.m_ 12] (.yM 0),qm 84 83,p3 85 [.m_ 12] (.yM 1),qm 86 85,p6 87 0,p3 88 [.Bs 87] .z4,qK 89 88 0,qK 90 89 1,qK 91 90 0,qm 92 91,qq 93 86 92 .mul,qq 94 84 93 .add,p4 13 94]) SU
noncomputable def Yl:gB :=
 .block 5 (p5 [p3 81 [.m_ 77,.m_ 79] (.kV 2),p3 82 [.Bs 81] (.zE (.str 2)),p3 12 [] (.alloc [.int .i64 0,.int .i64 0]),⟨none,[.m_ 12,.jm 82],none,none,.st 2⟩] SV)
noncomputable def SP:gB :=
 p5 [p6 112 10,p3 113 [.Bs 112] (.un .neg),p6 114 10,p3 115 [.m_ 14] (.yM 0),qm 116 115,p3 117 [.Bs 116] (.yB 1 1 [.int .i64 0] [0]),p3 118 [.cv (.func 50 [] []),.m_ 113,.m_ 114,.m_ 117] (.call 3),p3 119 [.Bs 118] (.un .not)] (.cond (.m_ 119) (qF [p6 120 5,p3 121 [.Bs 14] (.zE (.str 2)),⟨none,[.jm 120,.jm 121],none,none,.zP (.str 2)⟩]) .skip)
noncomputable def SQ:gB :=
 .block 7 (p5 [p3 110 [.m_ 107] .yH,p3 111 [.Bs 110] (.ext 0),p3 14 [] (.alloc [.int .i64 0,.int .i64 0]),⟨none,[.m_ 14,.jm 111],none,none,.st 2⟩] SP)
noncomputable def Yq:gB :=
 .loop (some (qd false [5,1,4,1,96,1,15])) (.seq (.z6 107 (some 108) [p3 109 [.Bs 108] (.ext 0)]) (.seq (.cond (.m_ 109) .skip (.exit 6)) SQ))
noncomputable def Pr:gB :=
 .seq (p5 [p6 106 5,p3 107 [.Bs 106] .AN] (.block 6 Yq)) (p5 [p4 122 5,p4 4 122] .ret)
noncomputable def Pv:gB :=
 .loop (some (qd false [0,1,4,1,3,2,66,3,43])) (p5 [p3 80 [.m_ 79,.m_ 78] (.bin .lss)] (.seq (.cond (.m_ 80) .skip (.exit 4)) (.seq Yl (qF [qW 105 79 1,p4 79 105]))))
noncomputable def Ym:gB :=
 .seq (p5 [p6 73 0,p3 74 [.Bs 73] .z4,qK 75 74 0,qK 76 75 0,qm 77 76,p3 78 [.m_ 77] .zJ,qh 79 0] (.block 4 Pv)) Pr
noncomputable def SR:gB :=
 p5 [p6 64 0,p6 65 0,p3 66 [.Bs 65] .z4,qK 67 66 0,qK 68 67 0,qm 69 68,q2 70 69,qv 71 70 1 .sub,p3 72 [.cv (.func 77 [] []),.m_ 64,.m_ 71] (.call 3),p4 9 72] (p5 [qh 10 0] Ym)
noncomputable def Pw:gB :=
 .loop (some (qd false [0,2,3,2,116])) Yp
noncomputable def Yk:gB :=
 p5 [p3 4 [.cv .a0] .mR] (p5 [p3 15 [] .zZ,p4 5 15] (.seq .skip (.seq (p5 [qh 6 (-10)] (.block 0 Pw)) SR)))
theorem aep:qu Go.Proofs.Tryz.prog K8 81=some (Yk,123,[.tmp 4]):=by qb
end Go.Proofs.YtkoioidpbbbaiaaGreat.Ab


namespace Go.Proofs.YtkoioidpbbbaiaaGreat.Ab
open Go
set_option maxRecDepth 20000
set_option maxHeartbeats 4000000
def IM (f:Int→Bool) (A:ru) (seen:List Nat):ru:=A.filter fun a=>!(decide (a.1∈seen)) || f a.2.1.1
theorem ad3 (f:Int→Bool) (A:ru):IM f A []=A:=by
 unfold IM;exact tS.2 fun a _=>by simp
theorem adZ {f:Int→Bool} {A:ru} {seen:List Nat} (h:∀ a∈IM f A seen,a.1∈seen):IM f A seen=A.filter fun a=>f a.2.1.1:=by
 unfold IM;refine uq fun a cq=>?_;by_cases ah:a.1∈seen
 ·simp [ah]
 ·cases aP:f a.2.1.1 with
  | true=>simp
  | false =>
    exfalso;exact ah (h a (tc.2 ⟨cq,by simp [ah]⟩))
theorem NL {α β:Type} {g:α→β}:∀ {l:List α},(l.map g).Nodup→∀ {x y:α},x∈l→y∈l→g x=g y→x=y
 | [],_,x,y,aj,_,_=>absurd aj (by simp)
 | a::l,h,x,y,aj,aY,e=>by
   obtain ⟨ab,ae⟩:=tU.1 h;rcases sy.1 aj with aF | aF
   ·rcases sy.1 aY with ba | ba
    ·rw [aF,ba]
    ·exact absurd (by rw [←aF,e];exact tn ba) ab
   ·rcases sy.1 aY with ba | ba
    ·exact absurd (by rw [←ba,←e];exact tn aF) ab
    ·exact NL ae aF ba e
theorem ad1 {f:Int→Bool} {A:ru} {c:Nat} {seen:List Nat} {a:Nat×rb×rb} (aL:JP (A,c)) (cq:a∈A) (aP:f a.2.1.1=true):IM f A (seen++[a.1])=IM f A seen:=by
 unfold IM;refine uq fun x aj=>?_;by_cases e:x.1=a.1
 ·have:=NL aL.ids aj cq e;subst this;simp [aP]
 ·simp [e]
theorem ad0 {f:Int→Bool} {A:ru} {c:Nat} {seen:List Nat} {a:Nat×rb×rb} (aL:JP (A,c)) (cq:a∈A) (aP:f a.2.1.1=false):IM f A (seen++[a.1])=(IM f A seen).filter fun x=>decide (a.2.1≠x.2.1):=by
 unfold IM;rw [uH];refine uq fun x aj=>?_;by_cases e:x.1=a.1
 ·have:=NL aL.ids aj cq e;subst this;simp [aP]
 ·have:a.2.1≠x.2.1:=fun b9=>e (by rw [NL aL.keys aj cq b9.symm])
  simp [e,this]
theorem ad2 {f:Int→Bool} {A:ru} {c:Nat} {seen:List Nat} (aL:JP (A,c)):((IM f A seen).map (·.2.1)).Nodup:=aL.keys.sublist (List.filter_sublist.map _)
theorem Vk:∀ {A:ru} {a:Nat×rb×rb},(A.map (·.1)).Nodup→a∈A→(rz A).find? (fun e=>e.1 == a.1)=some (a.1,.agg (p_ a.2.1),.agg (p_ a.2.2))
 | [],a,_,h=>absurd h (by simp)
 | b::A,a,aI,h=>by
   obtain ⟨ab,ae⟩:=tU.1 aI;simp only [rz,sI,List.find?_cons];by_cases e:b.1=a.1
   ·rw [NL aI (by simp) h e];simp
   ·have:(b.1 == a.1)=false:=by simpa using e
    rw [this];rcases sy.1 h with aF | aF
    ·exact absurd (by rw [aF]) e
    ·exact Vk ae aF
theorem Vc:∀ {A:ru} {seen:List Nat} {a:Nat×rb×rb},(A.map (·.1)).Nodup→a∈A→a.1 ∉ seen→(A.filter fun x=>!(decide (x.1∈seen++[a.1]))).length+1=(A.filter fun x=>!(decide (x.1∈seen))).length
 | [],_,_,_,h,_=>absurd h (by simp)
 | b::A,seen,a,aI,cq,ah=>by
   obtain ⟨ab,ae⟩:=tU.1 aI;by_cases e:b.1=a.1
   ·have b9:A.filter (fun x=>!(decide (x.1∈seen++[a.1])))=A.filter fun x=>!(decide (x.1∈seen)):=uq fun x aj=>by
     have:x.1≠a.1:=fun h=>ab (show b.1∈A.map (·.1) by rw [e,←h];exact tn aj)
     simp [this]
    rw [uN (by simp [e]),vn (by simp [e,ah]),b9,sO]
   ·have ade:a∈A:=by
     rcases sy.1 cq with h | h
     ·exact absurd (by rw [h]) e
     ·exact h
    have a8:=Vc ae ade ah;by_cases af:b.1∈seen
    ·rw [uN (by simp [af]),uN (by simp [af])];exact a8
    ·rw [vn (by simp [af,e]),vn (by simp [af]),sO,sO];omega
theorem ahg {A:ru} {c:Nat} (aL:JP (A,c)) {f:Int→Bool} {most:Int} (aP:∀ a∈A,IU (w (-most)) most [a.2.1.1]=some (f a.2.1.1)) {Y:List ar} {v0 v1 PK ahQ PI ahR PJ:I} {Q:cN→List I→List ar→Prop}
  (bo:∀ T qT,qT.length=Y.length+1+A.length→dc T 4=.map 0→Q .ret T (.map (rz (A.filter fun a=>f a.2.1.1)) c::qT)):dN Tryz.prog K8 81 0 none Pr (qg 123 [(0,v0),(1,v1),(5,.map 0),(9,PK),(10,hX most),(77,ahQ),(78,PI),(79,ahR),(80,PJ)]) (.map (rz A) c::Y) Q:=by
 unfold Pr Yq;obtain ⟨ajG,Vx⟩:∃ c,SQ=c:=⟨_,rfl⟩;rw [Vx];conv=>whnf
 refine ⟨_,_,rfl,?_⟩;conv=>whnf
 refine .intro (fun m T H=>∃ (seen:List Nat) (Z:List ar),Z.length+(A.filter fun a=>!(decide (a.1∈seen))).length=A.length∧m=(A.filter fun a=>!(decide (a.1∈seen))).length∧T=qg 123 [(5,.map 0),(10,hX most),(107,.ptr (Y.length+1) 0)]∧H=(.map (rz (IM f A seen)) c::Y)++(.iter 0 c seen c::Z)) _ ⟨[],[],by simp [tS.2],rfl,rfl,by rw [ad3]⟩ ?_;rintro m T H ⟨seen,Z,KB,rfl,rfl,rfl⟩;conv=>whnf
 have ai:∀ (e:ar) (s:List Nat) (Z:List ar),((e::Y)++(.iter 0 c s c::Z))[Y.length+1]?=some (.iter 0 c s c):=fun e s Z=>by
  rw [sv (by simp)];simp
 refine ⟨0,c,seen,c,_,ai _ _ _,rfl,se _,?_,?_,?_⟩
 ·intro e he;obtain ⟨a,cq,rfl⟩:=sH.1 he;exact aL.low a (tc.1 cq).1
 ·intro cY;conv=>whnf
  rw [adZ fun a cq=>cY _ (tn cq)];refine bo _ (Y++(.iter 0 c seen c::Z)) ?_ rfl
  have f_:(A.filter fun a=>!(decide (a.1∈seen))).length=0:=sT.2 (List.filter_eq_nil_iff.2 fun a cq ah=>by
   have hh:a.1 ∉ seen:=by simpa using ah
   exact hh (cY _ (tn (f:=fun a:Nat×rb×rb=>(a.1,I.agg (p_ a.2.1),I.agg (p_ a.2.2))) (tc.2 ⟨cq,by simp [hh]⟩))))
  simp;omega
 ·intro e he adK;obtain ⟨a,cq,rfl⟩:=sH.1 he;have hc:a∈A:=(tc.1 cq).1;have eE:∀ (e:ar) (x y:ar),((e::Y)++(x::Z)).set (Y.length+1) y=(e::Y)++(y::Z):=fun e x y=>by
   rw [vj _ _ (by simp)];simp
  conv=>whnf
  rw [eE];subst Vx;unfold SQ;obtain ⟨ajF,Vw⟩:∃ c,SP=c:=⟨_,rfl⟩;rw [Vw];conv=>whnf
  have adu:(rz (IM f A seen)).find? (fun e=>e.1 == a.1)=some (a.1,.agg (p_ a.2.1),.agg (p_ a.2.2)):=Vk (aL.ids.sublist (List.filter_sublist.map _)) cq;refine ⟨0,c,seen++[a.1],c,a.1,_,_,ai _ _ _,by simp,rfl,adu,?_⟩;conv=>whnf
  refine Ew (x:=ar.cells [hX 0,hX 0]) (by first | exact q7.h | rfl | (simp [sr,I.settle];done)) ?_
  conv=>whnf
  rw [HK];subst Vw;unfold SP;conv=>whnf
  refine Ew (x:=ar.cells [hX a.2.1.1,hX a.2.1.2]) (by first | exact q7.h | rfl | (simp [sr,I.settle];done)) ?_
  conv=>whnf
  refine ⟨p7 rfl (p7 rfl (p7 rfl rfl)),_,KX (aP a hc),?_⟩;conv=>whnf
  have ajW:(A.filter fun x=>!(decide (x.1∈seen++[a.1]))).length+1=(A.filter fun x=>!(decide (x.1∈seen))).length:=Vc aL.ids hc adK;have GM:(A.filter fun x=>!(decide (x.1∈seen++[a.1]))).length<(A.filter fun x=>!(decide (x.1∈seen))).length:=by omega
  have VP:∀ o,(Z++[o]).length+(A.filter fun x=>!(decide (x.1∈seen++[a.1]))).length=A.length:=fun o=>by rw [sD,List.length_singleton];omega
  cases VV:f a.2.1.1 with
  | true =>
    (conv=>whnf);exact ⟨_,GM,seen++[a.1],Z++[.cells [hX a.2.1.1,hX a.2.1.2]],VP _,rfl,rfl,by rw [ad1 aL hc VV];simp;exact ⟨rfl,rfl⟩⟩
  | false =>
    (conv=>whnf);refine Ew (x:=ar.cells [hX a.2.1.1,hX a.2.1.2]) (by first | exact q7.h | rfl | (simp [sr,I.settle];done)) ?_
    (conv=>whnf);obtain ⟨acD,adq,adr⟩:=acC (ad2 (f:=f) (seen:=seen) aL) cq;refine ⟨rfl,_,_,rfl,some acD,adq,?_⟩;(conv=>whnf);rw [adr];exact ⟨_,GM,seen++[a.1],Z++[.cells [hX a.2.1.1,hX a.2.1.2]],VP _,rfl,rfl,by rw [ad0 aL hc VV];simp;exact ⟨rfl,rfl⟩⟩
def Jj (far lo:Int):List rb→Int→Int
 | [],n=>n
 | s::r,n=>Jj far lo r (w (n+w (far*max (max s.1 (w (s.1+w (s.2*lo)))) (w (-(w (s.1+w (s.2*lo))))))))
theorem afH {b:((List (Int×Int))×(Int×Int))×Unit} (af:b.1.1.length≤1000) {r2:ar} {far:Int} {Y:List ar} {T:List I} {Q:cN→List I→List ar→Prop}
  (bZ:eW [true,false,false,false,false,true,false,false,false,true,true,false,false,false,false,false,false,false,false,false,false,false,false,false,false,false,false,false,false,false,false,false,false,false,false,false,false,false,false,false,false,false,false,false,false,false,false,false,false,false,false,false,false,false,false,false,false,false,false,false,false,false,false,false,false,false,false,false,false,false,false,false,false,false,false,false,false,true,true,true,false,false,false,false,false,false,false,false,false,false,false,false,false,false,false,false,false,false,false,false,false,false,false,false,false,false,false,false,false,false,false,false,false,false,false,false,false,false,false,false,false,false,false] T=qg 123 [(0,lj b),(5,.map 0),(9,hX far),(10,hX 0),(77,.av (b.1.1.flatMap p_) b.1.1.length .shared),(78,hX b.1.1.length),(79,hX 0)])
  (bo:∀ qT PJ,qT.length=Y.length+b.1.1.length→Q (.exit 4) (qg 123 [(0,lj b),(5,.map 0),(9,hX far),(10,hX (Jj far b.1.2.1 b.1.1 0)),(77,.av (b.1.1.flatMap p_) b.1.1.length .shared),(78,hX b.1.1.length),(79,hX b.1.1.length),(80,PJ)]) (r2::qT)):dN Tryz.prog K8 81 0 none Pv T (r2::Y) Q:=by
 unfold Pv;refine wp_loop bZ ?_;refine .intro (fun m T H=>∃ (i:Nat) (n:Int) (qT:List ar),i≤b.1.1.length∧qT.length=Y.length+i∧m=b.1.1.length-i∧Jj far b.1.2.1 (b.1.1.drop i) n=Jj far b.1.2.1 b.1.1 0∧T=qg 123 [(0,lj b),(5,.map 0),(9,hX far),(10,hX n),(77,.av (b.1.1.flatMap p_) b.1.1.length .shared),(78,hX b.1.1.length),(79,hX i)]∧H=r2::qT) _ ⟨0,0,Y,sE _,rfl,rfl,rfl,rfl,rfl⟩ ?_;clear bZ;rintro m T H ⟨i,n,TZ,hi,ada,rfl,hm,rfl,rfl⟩;conv=>whnf
 refine HH (fun aR=>?_) (fun aR=>?_)
 ·have HJ:i<b.1.1.length:=by omega
  have ID:0≤(i:Int)∧(i:Int)<(b.1.1.length:Int):=by omega
  rw [sV HJ] at hm;unfold Yl;obtain ⟨B9,Lb⟩:∃ c,SV=c:=⟨_,rfl⟩;rw [Lb];conv=>whnf
  refine ⟨ID,?_⟩;rw [IZ p_ 2 Lq b.1.1 (i:Int) ID,rI HJ];obtain ⟨s,ah⟩:∃ s,s=b.1.1[i]:=⟨_,rfl⟩;rw [←ah] at hm ⊢;conv=>whnf
  refine Ew (x:=ar.cells [hX 0,hX 0]) (by first | exact q7.h | rfl | (simp [sr,I.settle];done)) ?_
  conv=>whnf
  rw [HK];subst Lb;unfold SV;obtain ⟨ns,Jw⟩:∃ c,SU=c:=⟨_,rfl⟩;rw [Jw];conv=>whnf
  refine Ew (x:=ar.cells [hX s.1,hX s.2]) (by first | exact q7.h | rfl | (simp [sr,I.settle];done)) ?_
  conv=>whnf
  refine Ew (x:=ar.cells [hX s.1,hX s.2]) (by first | exact q7.h | rfl | (simp [sr,I.settle];done)) ?_
  conv=>whnf
  subst Jw;unfold SU;conv=>whnf
  refine Ew (x:=ar.cells [hX s.1,hX s.2]) (by first | exact q7.h | rfl | (simp [sr,I.settle];done)) ?_
  conv=>whnf
  have rK:IntKind.i64.wrap ((i:Int)+1)=((i+1:Nat):Int):=by rw [HR _ (by omega) (by omega)];omega
  exact ⟨b.1.1.length-(i+1),by omega,i+1,_,_,by omega,by simp;omega,rfl,hm,by rw [rK];rfl,rfl⟩
 ·obtain rfl:i=b.1.1.length:=by omega
  rw [uO] at hm;obtain rfl:n=Jj far b.1.2.1 b.1.1 0:=hm;conv=>whnf
  exact bo _ _ (by omega)

def H3 (lo hi x m p:Int):rb:=if lo=hi then (w (x*w (p+w (m*lo))),0) else (w (x*p),w (x*m))
def Hl (lo hi x:Int):Nat→ru×Nat
 | 0=>([],0)
 | t+1=>HU (Hl lo hi x t) (H3 lo hi x ((t / 101:Nat)-10) ((t % 101:Nat))) ((t % 101:Nat),(t / 101:Nat)-10)
theorem S7 (lo hi x:Int):∀ t,JP (Hl lo hi x t)
 | 0=>⟨by simp [Hl],by simp [Hl],by simp [Hl]⟩
 | t+1=>(S7 lo hi x t).put _ _
abbrev KF (s:ru×Nat):ar:=.map (rz s.1) s.2
theorem abX {b:((List (Int×Int))×(Int×Int))×Unit} {x m p:Int} {s:ru×Nat} (ah:JP s) {Y:List ar} {JI:I} {Q:cN→List I→List ar→Prop}
  (bo:∀ qT KJ KK,qT.length=Y.length+1→Q (if x=0 then .exit 0 else .normal) (qg 123 [(0,lj b),(1,hX x),(5,.map 0),(6,hX m),(7,hX p),(21,JI),(43,KJ),(63,KK)]) (KF (HU s (H3 b.1.2.1 b.1.2.2 x m p) (p,m))::qT)) :
  dN Tryz.prog K8 81 0 none Pt (qg 123 [(0,lj b),(1,hX x),(5,.map 0),(6,hX m),(7,hX p),(21,JI)]) (KF s::Y) Q:=by
 unfold Pt;obtain ⟨br,eP⟩:∃ c,SS=c:=⟨_,rfl⟩;rw [eP];conv=>whnf
 refine Ew (x:=ar.cells [hX 0,hX 0]) (by first | exact q7.h | rfl | (simp [sr,I.settle];done)) ?_
 conv=>whnf
 rw [HK];subst eP;unfold SS;obtain ⟨a7,cc⟩:∃ c,SN=c:=⟨_,rfl⟩;obtain ⟨a9,b_⟩:∃ c,Ps=c:=⟨_,rfl⟩;rw [cc,b_];conv=>whnf
 by_cases a1:b.1.2.1=b.1.2.2
 ·rw [decide_eq_true a1];conv=>whnf
  subst cc;unfold SN;conv=>whnf
  refine Ew (x:=ar.cells [hX (w (x*p)),hX (w (x*m))]) (by first | exact q7.h | rfl | (simp [sr,I.settle];done)) ?_
  conv=>whnf
  rw [HK];conv=>whnf
  subst b_;unfold Ps;conv=>whnf
  refine Ew (x:=ar.cells [hX (w (x*w (p+w (m*b.1.2.1)))),hX 0]) (by first | exact q7.h | rfl | (simp [sr,I.settle];done)) ?_
  conv=>whnf
  have hM:H3 b.1.2.1 b.1.2.2 x m p=((w (x*w (p+w (m*b.1.2.1)))),0):=by unfold H3;rw [if_pos a1]
  rw [hM] at bo;rcases Xq (k:=((w (x*w (p+w (m*b.1.2.1)))),0)) (v:=(p,m)) ah with ⟨i,ab,ae,aF⟩ | ⟨ab,ae,aF⟩
  ·refine ⟨rfl,_,_,rfl,some i,ab,?_⟩;(conv=>whnf);erw [ae,aF];by_cases aj:x=0
   ·rw [if_pos aj] at bo;rw [decide_eq_true aj];(conv=>whnf);exact bo _ _ _ (by simp)
   ·rw [if_neg aj] at bo;rw [decide_eq_false aj];(conv=>whnf);exact bo _ _ _ (by simp)
  ·refine ⟨rfl,_,_,rfl,none,ab,?_⟩;(conv=>whnf);erw [ae,aF];by_cases aj:x=0
   ·rw [if_pos aj] at bo;rw [decide_eq_true aj];(conv=>whnf);exact bo _ _ _ (by simp)
   ·rw [if_neg aj] at bo;rw [decide_eq_false aj];(conv=>whnf);exact bo _ _ _ (by simp)
 ·rw [decide_eq_false a1];conv=>whnf
  subst b_;unfold Ps;conv=>whnf
  refine Ew (x:=ar.cells [hX (w (x*p)),hX (w (x*m))]) (by first | exact q7.h | rfl | (simp [sr,I.settle];done)) ?_
  conv=>whnf
  have hM:H3 b.1.2.1 b.1.2.2 x m p=((w (x*p)),(w (x*m))):=by unfold H3;rw [if_neg a1]
  rw [hM] at bo;rcases Xq (k:=((w (x*p)),(w (x*m)))) (v:=(p,m)) ah with ⟨i,ab,ae,aF⟩ | ⟨ab,ae,aF⟩
  ·refine ⟨rfl,_,_,rfl,some i,ab,?_⟩;(conv=>whnf);erw [ae,aF];by_cases aj:x=0
   ·rw [if_pos aj] at bo;rw [decide_eq_true aj];(conv=>whnf);exact bo _ _ _ (by simp)
   ·rw [if_neg aj] at bo;rw [decide_eq_false aj];(conv=>whnf);exact bo _ _ _ (by simp)
  ·refine ⟨rfl,_,_,rfl,none,ab,?_⟩;(conv=>whnf);erw [ae,aF];by_cases aj:x=0
   ·rw [if_pos aj] at bo;rw [decide_eq_true aj];(conv=>whnf);exact bo _ _ _ (by simp)
   ·rw [if_neg aj] at bo;rw [decide_eq_false aj];(conv=>whnf);exact bo _ _ _ (by simp)
theorem adP {b:((List (Int×Int))×(Int×Int))×Unit} {x:Int} {a:Nat} (cq:a≤20) (adN:x=0→a=0) {Y:List ar} {T:List I} {Q:cN→List I→List ar→Prop}
  (bZ:eW [true,true,false,false,false,true,true,true,false,false,false,false,false,false,false,false,false,false,false,false,false,false,false,false,false,false,false,false,false,false,false,false,false,false,false,false,false,false,false,false,false,false,false,false,false,false,false,false,false,false,false,false,false,false,false,false,false,false,false,false,false,false,false,false,false,false,false,false,false,false,false,false,false,false,false,false,false,false,false,false,false,false,false,false,false,false,false,false,false,false,false,false,false,false,false,false,false,false,false,false,false,false,false,false,false,false,false,false,false,false,false,false,false,false,false,false,false,false,false,false,false,false,false] T=qg 123 [(0,lj b),(1,hX x),(5,.map 0),(6,hX ((a:Nat)-10)),(7,hX 0)])
  (ac3:x=0→a=0→∀ qT JJ JI KJ KK,qT.length=Y.length+1→Q (.exit 0) (qg 123 [(0,lj b),(1,hX x),(5,.map 0),(6,hX ((a:Nat)-10)),(7,JJ),(21,JI),(43,KJ),(63,KK)]) (KF (Hl b.1.2.1 b.1.2.2 x 1)::qT))
  (bo:x≠0→∀ qT JJ JI,qT.length=Y.length+101→Q (.exit 2) (qg 123 [(0,lj b),(1,hX x),(5,.map 0),(6,hX ((a:Nat)-10)),(7,JJ),(21,JI)]) (KF (Hl b.1.2.1 b.1.2.2 x ((a+1)*101))::qT)) :
  dN Tryz.prog K8 81 0 none Pu T (KF (Hl b.1.2.1 b.1.2.2 x (a*101))::Y) Q:=by
 unfold Pu;refine wp_loop bZ ?_;refine .intro (fun m T H=>∃ (q:Nat) (qT:List ar),q≤101∧qT.length=Y.length+q∧(x=0→q=0)∧m=101-q∧T=qg 123 [(0,lj b),(1,hX x),(5,.map 0),(6,hX ((a:Nat)-10)),(7,hX q)]∧H=KF (Hl b.1.2.1 b.1.2.2 x (a*101+q))::qT) _ ⟨0,Y,sE _,rfl,fun _=>rfl,rfl,rfl,rfl⟩ ?_;clear bZ;rintro m T H ⟨q,TZ,a_,ada,O6,rfl,rfl,rfl⟩;unfold Yn;obtain ⟨b5,iM⟩:∃ c,Pt=c:=⟨_,rfl⟩;rw [iM];conv=>whnf
 refine HH (fun aR=>?_) (fun aR=>?_)
 ·conv=>whnf
  subst iM;have cG:HU (Hl b.1.2.1 b.1.2.2 x (a*101+q)) (H3 b.1.2.1 b.1.2.2 x ((a:Nat)-10) (q:Nat)) ((q:Nat),(a:Nat)-10)=Hl b.1.2.1 b.1.2.2 x (a*101+(q+1)):=by
   show _=HU (Hl b.1.2.1 b.1.2.2 x (a*101+q)) (H3 b.1.2.1 b.1.2.2 x (((a*101+q) / 101:Nat)-10) (((a*101+q) % 101:Nat))) ((((a*101+q) % 101:Nat):Int),(((a*101+q) / 101:Nat):Int)-10);rw [show (a*101+q) / 101=a by omega,show (a*101+q) % 101=q by omega]
  refine abX (S7 _ _ _ _) fun aa3 KJ KK adb=>?_;rw [cG];by_cases aj:x=0
  ·rw [if_pos aj];have ab:=adN aj;have ae:=O6 aj;subst ab ae;(conv=>whnf);exact ac3 aj rfl _ _ _ _ _ (by omega)
  ·rw [if_neg aj];(conv=>whnf);(have rK:IntKind.i64.wrap ((q:Int)+1)=((q+1:Nat):Int):=by rw [HR _ (by omega) (by omega)];omega);exact ⟨101-(q+1),by omega,q+1,_,by omega,by omega,fun h=>absurd h aj,rfl,by rw [rK];rfl,rfl⟩
 ·have adL:q=101:=by omega
  subst adL;have aj:x≠0:=fun h=>absurd (O6 h) (by decide);conv=>whnf
  rw [show a*101+101=(a+1)*101 by omega];exact bo aj _ _ _ (by omega)
theorem afS {b:((List (Int×Int))×(Int×Int))×Unit} {x:Int} {T:List I} {Q:cN→List I→List ar→Prop}
  (bZ:eW [true,true,false,false,false,true,true,false,false,false,false,false,false,false,false,false,false,false,false,false,false,false,false,false,false,false,false,false,false,false,false,false,false,false,false,false,false,false,false,false,false,false,false,false,false,false,false,false,false,false,false,false,false,false,false,false,false,false,false,false,false,false,false,false,false,false,false,false,false,false,false,false,false,false,false,false,false,false,false,false,false,false,false,false,false,false,false,false,false,false,false,false,false,false,false,false,false,false,false,false,false,false,false,false,false,false,false,false,false,false,false,false,false,false,false,false,false,false,false,false,false,false,false] T=qg 123 [(0,lj b),(1,hX x),(5,.map 0),(6,hX (-10))])
  (bo:∀ Y v6 JJ Zb JI KJ KK,Y.length=(if x=0 then 1 else 2121)→Q (.exit 0) (qg 123 [(0,lj b),(1,hX x),(5,.map 0),(6,v6),(7,JJ),(17,Zb),(21,JI),(43,KJ),(63,KK)]) (KF (Hl b.1.2.1 b.1.2.2 x (if x=0 then 1 else 2121))::Y)) :
  dN Tryz.prog K8 81 0 none Pw T [.map [] 0] Q:=by
 unfold Pw;refine wp_loop bZ ?_;refine .intro (fun m T H=>∃ (a:Nat) (Y:List ar),a≤21∧Y.length=a*101∧(x=0→a=0)∧m=21-a∧T=qg 123 [(0,lj b),(1,hX x),(5,.map 0),(6,hX ((a:Nat)-10))]∧H=KF (Hl b.1.2.1 b.1.2.2 x (a*101))::Y) _ ⟨0,[],sE _,rfl,fun _=>rfl,rfl,rfl,rfl⟩ ?_;clear bZ;rintro m T H ⟨a,Y,cq,ac9,VQ,rfl,rfl,rfl⟩;unfold Yp Yo;obtain ⟨b5,iM⟩:∃ c,Pu=c:=⟨_,rfl⟩;rw [iM];conv=>whnf
 refine HH (fun aR=>?_) (fun aR=>?_)
 ·conv=>whnf
  subst iM;refine adP (a:=a) (by omega) VQ (by exact rfl) (fun aj aQ Y JJ JI KJ KK ac_=>?_) (fun aj Y JJ JI ac_=>?_)
  ·(conv=>whnf);have:=bo Y;rw [if_pos aj] at this;exact this _ _ _ _ _ _ (by subst aQ;omega)
  ·(conv=>whnf);(have rK:IntKind.i64.wrap (((a:Nat):Int)-10+1)=((a+1:Nat):Int)-10:=by rw [HR _ (by omega) (by omega)];omega);exact ⟨21-(a+1),by omega,a+1,_,by omega,by omega,fun h=>absurd h aj,rfl,by rw [rK];rfl,rfl⟩
 ·have adf:a=21:=by omega
  subst adf;have aj:x≠0:=fun h=>absurd (VQ h) (by decide);conv=>whnf
  have:=bo Y;rw [if_neg aj] at this;exact this _ _ _ _ _ _ (by omega)
theorem Nk:∃ m,qi=m+2:=⟨qi-2,rfl⟩
theorem MZ (lo hi n:Int):IU lo hi [n]=some (decide (lo≤n) && decide (n≤hi)):=by
 obtain ⟨m,hm⟩:=Nk;have acW:LX n lo hi=some (!(decide (lo≤n) && decide (n≤hi))):=by
  unfold LX;by_cases ab:n<lo
  ·rw [if_pos (decide_eq_true ab),decide_eq_false (show ¬ lo≤n by omega)];rfl
  ·rw [if_neg (by simpa using ab),decide_eq_true (show lo≤n by omega)];by_cases ae:hi<n
   ·rw [decide_eq_true ae,decide_eq_false (show ¬ n≤hi by omega)];rfl
   ·rw [decide_eq_false ae,decide_eq_true (show n≤hi by omega)];rfl
 unfold IU Ot Ow;rw [hm,JY.eq_2,if_pos (show decide ((0:Int)<(([n]:List Int).length:Int))=true from rfl),qx ⟨sY _,show (0:Int)<(1:Int) by decide⟩,show ix [n] (0:Int)=n from rfl,acW,sc];cases ak:(decide (lo≤n) && decide (n≤hi))
 ·rfl
 ·rw [show w (0+1:Int)=1 from rfl,JY.eq_2];rfl
def M6 (b:((List (Int×Int))×(Int×Int))×Unit) (x:Int):Option ru :=
 qs (b.1.1.length≤1000) <|
 (Kp b (w (b.1.1.length-1))).bind fun far =>
 some ((Hl b.1.2.1 b.1.2.2 x (if x=0 then 1 else 2121)).1.filter fun a=>decide (w (-(Jj far b.1.2.1 b.1.1 0))≤a.2.1.1) && decide (a.2.1.1≤Jj far b.1.2.1 b.1.1 0))
theorem ajj {b:((List (Int×Int))×(Int×Int))×Unit} {x:Int} {A:ru} (h:M6 b x=some A):∃ (c:Nat) (D:List ar),Sem Tryz.prog (.fn 81) [lj b,hX x] [] 0 (.map 0) (.map (rz A) c::D):=by
 unfold M6 at h;obtain ⟨aI,h⟩:=rW h;obtain ⟨far,RI,h⟩:=p' h;obtain rfl:=Option.some.inj h;obtain ⟨N,CB⟩:∃ N,N=(if x=0 then 1 else 2121)+b.1.1.length+1+(Hl b.1.2.1 b.1.2.2 x (if x=0 then 1 else 2121)).1.length:=⟨_,rfl⟩;refine ⟨(Hl b.1.2.1 b.1.2.2 x (if x=0 then 1 else 2121)).2,List.replicate N .dead,?_⟩;refine rL eD aep rfl (IP (sE _)) fun Q bo=>?_;unfold Yk;obtain ⟨ajI,Vz⟩:∃ c,SR=c:=⟨_,rfl⟩;obtain ⟨b5,iM⟩:∃ c,Pw=c:=⟨_,rfl⟩;rw [Vz,iM];conv=>whnf
 subst iM;refine afS (b:=b) (x:=x) (by exact rfl) fun Y v6 JJ Zb JI KJ KK ac9=>?_;conv=>whnf
 subst Vz;unfold SR Ym;obtain ⟨ajH,Vy⟩:∃ c,Pr=c:=⟨_,rfl⟩;obtain ⟨br,eP⟩:∃ c,Pv=c:=⟨_,rfl⟩;rw [Vy,eP];conv=>whnf
 refine ⟨p7 (Ie b) (p7 rfl rfl),_,K3 RI,?_⟩;conv=>whnf
 subst eP;refine afH (b:=b) (far:=far) aI (by exact rfl) fun aa3 PJ adb=>?_;conv=>whnf
 subst Vy;refine ahg (f:=fun k=>decide (w (-(Jj far b.1.2.1 b.1.1 0))≤k) && decide (k≤Jj far b.1.2.1 b.1.1 0)) (S7 _ _ _ _) (fun a _=>MZ _ _ _) fun T ajC ajV bZ=>?_;refine bo _ _ _ ⟨.inr rfl,⟨by simp;omega,fun id o aq=>?_⟩,by simp only [r0,bZ,jd,si]⟩;cases id with
 | zero=>exact .inr aq
 | succ id =>
   refine .inl ?_
   have:(List.replicate N ar.dead)[id]?=some o:=aq
   rw [List.getElem?_replicate] at this;split at this
   ·exact (Option.some.inj this).symm
   ·cases this

noncomputable def aaE:gB :=
 p5 [p3 1 [.jm 0] .box,p3 2 [.cv (.bool false)] .mR] (p5 [p3 3 [.m_ 1] (.yM 0),qm 4 3,qv 5 4 0 .geq,p4 6 5,ch 7 [.m_ 1] 6 true (.yM 0),ch 8 [.Bs 7] 6 true (.zE .one),ch 9 [.Bs 8,.cv (.int .i64 100)] 6 true (.bin .leq),p3 10 [.Bs 6,.Bs 9,.cv (.bool false)] .pick,p4 11 10,ch 12 [.m_ 1] 11 true (.yM 1),ch 13 [.Bs 12] 11 true (.zE .one),ch 14 [.Bs 13,.cv (.int .i64 (-10))] 11 true (.bin .geq),p3 15 [.Bs 11,.Bs 14,.cv (.bool false)] .pick,p4 16 15,ch 17 [.Bs 1] 16 true (.yM 1),ch 18 [.Bs 17] 16 true (.zE .one),ch 19 [.Bs 18,.cv (.int .i64 10)] 16 true (.bin .leq),p3 20 [.Bs 16,.Bs 19,.cv (.bool false)] .pick,p4 2 20] .ret)
theorem afd:qu Tryz.prog UC 53=some (aaE,21,[.tmp 2]):=by qb
def LS (s:(Int×Int)):Option Bool :=
 if (decide ((0:Int)≤s.1))=true then
  if (decide (s.1≤(100:Int)))=true then
   if (decide ((-10:Int)≤s.2))=true then
    some (decide (s.2≤(10:Int)))
   else
    some false
  else
   some false
 else
  some false
theorem Tw {s:(Int×Int)} {v:Bool} (h:LS s=some v):qw 53 [(.agg [(hX s.1),(hX s.2)])] (B v):=by
 refine qO eD afd rfl rfl fun Q bo=>?_;have jG:qL [.tmp 2] Q (fun v=>(B v)) v:=fun T H bD=>bo _ T H bD;unfold LS at h;unfold aaE;conv=>whnf
 refine bs h (fun gJ h=>?_) fun gJ h=>?_
 ·rw [gJ];conv=>whnf
  refine bs h (fun gK h=>?_) fun gK h=>?_
  ·rw [gK];(conv=>whnf);refine bs h (fun qt h=>?_) fun qt h=>?_
   ·rw [qt];(conv=>whnf);exact qe h jG rfl rfl
   ·rw [qt];(conv=>whnf);exact qe h jG rfl rfl
  ·rw [gK];(conv=>whnf);exact qe h jG rfl rfl
 ·rw [gJ];conv=>whnf
  exact qe h jG rfl rfl

noncomputable def Qh:gB :=
 .loop (some (qd false [1,1,1,2,44])) (.seq (p5 [p6 18 4,p6 19 3,qq 20 18 19 .lss] (.cond (.m_ 20) .skip (.exit 0))) (.seq (.block 1 (p5 [p3 23 [.m_ 1] (.yM 0),qm 24 23,p6 25 4,rn 26 24 25 2,p3 27 [.Bs 26] (.zE (.str 2)),p3 28 [.cv (.func 53 [] []),.m_ 27] (.call 3),p3 29 [.Bs 28] (.un .not)] (.cond (.m_ 29) (p5 [qh 2 3] .ret) .skip))) (qF [p4 21 4,qW 22 21 1,p4 4 22])))
noncomputable def Qi:gB :=
 .seq (p5 [qh 4 0] (.block 0 Qh)) (.seq (p5 [p3 30 [.m_ 1] (.yM 1),qK 31 30 0,qm 32 31,qv 33 32 0 .lss,p4 34 33,ch 35 [.m_ 1] 34 false (.yM 1),ch 36 [.Bs 35] 34 false (.yM 0),ch 37 [.Bs 36] 34 false (.zE .one),ch 38 [.m_ 1] 34 false (.yM 1),ch 39 [.Bs 38] 34 false (.yM 1),ch 40 [.Bs 39] 34 false (.zE .one),ch 41 [.Bs 37,.Bs 40] 34 false (.bin .gtr),p3 42 [.Bs 34,.cv (.bool true),.Bs 41] .pick,p4 43 42,ch 44 [.Bs 1] 43 false (.yM 1),ch 45 [.Bs 44] 43 false (.yM 1),ch 46 [.Bs 45] 43 false (.zE .one),ch 47 [.Bs 46,.cv (.int .i64 50)] 43 false (.bin .gtr),p3 48 [.Bs 43,.cv (.bool true),.Bs 47] .pick] (.cond (.m_ 48) (p5 [qh 2 3] .ret) .skip)) (p5 [qh 2 0] .ret))
noncomputable def aax:gB :=
 p5 [p3 1 [.jm 0] .box,qh 2 0] (p5 [p3 5 [.m_ 1] (.yM 0),qm 6 5,q2 7 6,p4 3 7] (.seq (p5 [p6 8 3,qv 9 8 3 .neq,p4 10 9,ch 11 [.m_ 3] 10 true .mR,ch 12 [.Bs 11,.cv (.int .i64 5)] 10 true (.bin .neq),p3 13 [.Bs 10,.Bs 12,.cv (.bool false)] .pick,p4 14 13,ch 15 [.m_ 3] 14 true .mR,ch 16 [.Bs 15,.cv (.int .i64 7)] 14 true (.bin .neq),p3 17 [.Bs 14,.Bs 16,.cv (.bool false)] .pick] (.cond (.m_ 17) (p5 [qh 2 6] .ret) .skip)) Qi))
theorem ae7:qu Tryz.prog OD 46=some (aax,49,[.tmp 2]):=by qb
def LP (p:(qk×(Int×Int))) (qU:Unit→Option Int):Nat→Int→Option Int
 | 0,_=>none
 | m+1,s1 =>
   if (decide (s1<(p.1.length:Int)))=true then
    qs (0≤s1∧s1<(p.1.length:Int)) <|
    (LS (ix p.1 s1)).bind fun aS =>
    if aS=true then
     LP p qU m (w (s1+(1:Int)))
    else
     some (3:Int)
   else
    qU ()
def LO (p:(qk×(Int×Int)))  : Option Int :=
 LP p (fun _ =>
   if (decide (p.2.1<(0:Int)))=true then
    some (3:Int)
   else
    if (decide (p.2.2<p.2.1))=true then
     some (3:Int)
    else
     if (decide ((50:Int)<p.2.2))=true then
      some (3:Int)
     else
      some (0:Int)) qi (0:Int)
def Jp (p:(qk×(Int×Int))):Option Int :=
 if (decide ((p.1.length:Int)≠(3:Int)))=true then
  if (decide ((p.1.length:Int)≠(5:Int)))=true then
   if (decide ((p.1.length:Int)≠(7:Int)))=true then
    some (6:Int)
   else
    LO p
  else
   LO p
 else
  LO p
theorem aiT {p:(qk×(Int×Int))} {qU:Unit→Option Int} {s1:Int} {v:Int} {Q:rS}   (jG:qL [.tmp 2] Q (fun v=>(hX v)) v) (I4:∀ (qf:List I),qU ()=some v→rm 49 [(1,(.ptr 0 0))] qf→Q (.exit 0) qf [ar.cells [(qZ p.1 .shared),(hX p.2.1),(hX p.2.2)]]) {T:List I} (bZ:eW (qd false [1,1,1,2,44]) T=qg 49 [(1,(.ptr 0 0)),(3,(hX (p.1.length:Int))),(4,(hX s1))]) (h:LP p qU qi s1=some v) :
  dN Tryz.prog OD 46 0 none Qh T [ar.cells [(qZ p.1 .shared),(hX p.2.1),(hX p.2.2)]] Q:=by
 unfold Qh;refine wp_loop bZ ?_;refine .intro (fun m T H=>∃ (s1:Int),T=qg 49 [(1,(.ptr 0 0)),(3,(hX (p.1.length:Int))),(4,(hX s1))]∧H=[ar.cells [(qZ p.1 .shared),(hX p.2.1),(hX p.2.2)]]∧LP p qU m s1=some v) qi ⟨s1,rfl,rfl,h⟩ ?_;clear h bZ;rintro m T H ⟨s1,rfl,rfl,h⟩;cases m
 ·exact rA h
 rename_i m;rw [LP.eq_2] at h;conv=>whnf
 refine bs h (fun qH h=>?_) fun qH h=>?_
 ·rw [qH];conv=>whnf
  refine qE h id fun qX h=>?_;rw [IZ p_ 2 Lq p.1 s1 qX];conv=>whnf
  obtain ⟨aS,q9,h⟩:=p' h;refine ⟨qj.pl,_,Tw q9,?_⟩;conv=>whnf
  cases aS
  ·(conv=>whnf);replace h:=rq rfl h;exact qe h jG rfl rfl
  ·(conv=>whnf);replace h:=rp rfl h;exact ⟨m,sg m,(w (s1+(1:Int))),rfl,rfl,h⟩
 ·rw [qH];conv=>whnf
  exact I4  _ h ⟨rfl,rfl⟩
theorem Tt {p:(qk×(Int×Int))} {v:Int} {Q:rS}  {qf:List I}  (jG:qL [.tmp 2] Q (fun v=>(hX v)) v) (qA:rm 49 [(1,(.ptr 0 0)),(3,(hX (p.1.length:Int)))] qf) (h:LO p  = some v) :
  dN Tryz.prog OD 46 0 none Qi qf [ar.cells [(qZ p.1 .shared),(hX p.2.1),(hX p.2.2)]] Q:=by
 obtain ⟨rr,rfl⟩:=qA.ex;unfold LO at h;unfold Qi;obtain ⟨r_,qD⟩:∃ c,Qh=c:=⟨_,rfl⟩;rw [qD];conv=>whnf
 subst qD;refine aiT ?_ ?_ (by exact rfl) h
 ·exact fun T H bD=>jG T H bD
 ·intro  qf h qA;obtain ⟨rr,rfl⟩:=qA.ex;conv=>whnf
  refine bs h (fun qS h=>?_) fun qS h=>?_
  ·rw [qS];(conv=>whnf);exact qe h jG rfl rfl
  ·rw [qS];(conv=>whnf);refine bs h (fun re h=>?_) fun re h=>?_
   ·rw [re];(conv=>whnf);exact qe h jG rfl rfl
   ·rw [re];(conv=>whnf);refine bs h (fun q_ h=>?_) fun q_ h=>?_
    ·rw [q_];(conv=>whnf);exact qe h jG rfl rfl
    ·rw [q_];(conv=>whnf);exact qe h jG rfl rfl
theorem KV {p:(qk×(Int×Int))} {v:Int} (h:Jp p=some v):qw 46 [(.agg [(.av (p.1.flatMap p_) p.1.length .shared),(hX p.2.1),(hX p.2.2)])] (hX v):=by
 refine qO eD ae7 rfl rfl fun Q bo=>?_;have jG:qL [.tmp 2] Q (fun v=>(hX v)) v:=fun T H bD=>bo _ T H bD;unfold Jp at h;unfold aax;obtain ⟨J3,rO⟩:∃ c,Qi=c:=⟨_,rfl⟩;rw [rO];conv=>whnf
 refine bs h (fun gJ h=>?_) fun gJ h=>?_
 ·rw [gJ];conv=>whnf
  refine bs h (fun gK h=>?_) fun gK h=>?_
  ·rw [gK];(conv=>whnf);refine bs h (fun qt h=>?_) fun qt h=>?_
   ·rw [qt];(conv=>whnf);exact qe h jG rfl rfl
   ·rw [qt];(conv=>whnf);subst rO;refine Tt ?_ (by exact ⟨rfl,rfl⟩) h;exact fun T H bD=>jG T H bD
  ·rw [gK];(conv=>whnf);subst rO;refine Tt ?_ (by exact ⟨rfl,rfl⟩) h;exact fun T H bD=>jG T H bD
 ·rw [gJ];conv=>whnf
  subst rO;refine Tt ?_ (by exact ⟨rfl,rfl⟩) h;exact fun T H bD=>jG T H bD

noncomputable def Qr:gB :=
 .loop (some (qd false [0,2,3,1,12])) (.seq (p5 [p6 6 5,p6 7 0,q2 8 7,qq 9 6 8 .lss] (.cond (.m_ 9) .skip (.exit 0))) (.seq (.block 1 (p5 [p6 12 0,p6 13 5,rn 14 12 13 1,qm 15 14,p6 16 1,qq 17 15 16 .eql] (.cond (.m_ 17) (p5 [p3 4 [.cv (.bool true)] .mR] .ret) .skip))) (qF [p4 10 5,qW 11 10 1,p4 5 11])))
noncomputable def aaM:gB :=
 p5 [p3 4 [.cv (.bool false)] .mR] (.seq (p5 [qh 5 0] (.block 0 Qr)) (p5 [p3 4 [.cv (.bool false)] .mR] .ret))
theorem afl:qu Tryz.prog QV 72=some (aaM,18,[.tmp 4]):=by qb
def LW (l:qa) (n:Int) (qc:Unit→Option Bool):Nat→Int→Option Bool
 | 0,_=>none
 | m+1,s1 =>
   if (decide (s1<(l.length:Int)))=true then
    qs (0≤s1∧s1<(l.length:Int)) <|
    if (decide ((ix l s1)=n))=true then
     some true
    else
     LW l n qc m (w (s1+(1:Int)))
   else
    qc ()
def M4 (l:qa) (n:Int):Option Bool :=
 LW l n (fun _ =>
   some false) qi (0:Int)
theorem ajb {l:qa} {n:Int} {qc:Unit→Option Bool} {s1:Int} {v:Bool} {Q:rS}   (jG:qL [.tmp 4] Q (fun v=>(B v)) v) (ra:∀ (qf:List I),qc ()=some v→rm 18 [] qf→Q (.exit 0) qf []) {T:List I} (bZ:eW (qd false [0,2,3,1,12]) T=qg 18 [(0,(qz l .shared)),(1,(hX n)),(5,(hX s1))]) (h:LW l n qc qi s1=some v) :
  dN Tryz.prog QV 72 0 none Qr T [] Q:=by
 unfold Qr;refine wp_loop bZ ?_;refine .intro (fun m T H=>∃ (s1:Int),T=qg 18 [(0,(qz l .shared)),(1,(hX n)),(5,(hX s1))]∧H=[]∧LW l n qc m s1=some v) qi ⟨s1,rfl,rfl,h⟩ ?_;clear h bZ;rintro m T H ⟨s1,rfl,rfl,h⟩;cases m
 ·exact rA h
 rename_i m;rw [LW.eq_2] at h;conv=>whnf
 refine bs h (fun gJ h=>?_) fun gJ h=>?_
 ·rw [gJ];conv=>whnf
  refine qE h id fun gK h=>?_;rw [rj hX l s1 gK];conv=>whnf
  refine bs h (fun qt h=>?_) fun qt h=>?_
  ·rw [qt];(conv=>whnf);exact qe h jG rfl rfl
  ·rw [qt];(conv=>whnf);exact ⟨m,sg m,(w (s1+(1:Int))),rfl,rfl,h⟩
 ·rw [gJ];conv=>whnf
  exact ra  _ h ⟨rfl,rfl⟩
theorem TD {l:qa} {n:Int} {v:Bool} (h:M4 l n=some v):qw 72 [(.av (l.map hX) l.length .shared),(hX n)] (B v):=by
 refine qO eD afl rfl rfl fun Q bo=>?_;have jG:qL [.tmp 4] Q (fun v=>(B v)) v:=fun T H bD=>bo _ T H bD;unfold M4 at h;unfold aaM;obtain ⟨r_,qD⟩:∃ c,Qr=c:=⟨_,rfl⟩;rw [qD];conv=>whnf
 subst qD;refine ajb ?_ ?_ (by exact rfl) h
 ·exact fun T H bD=>jG T H bD
 ·intro  qf h qA;obtain ⟨rr,rfl⟩:=qA.ex;conv=>whnf
  exact qe h jG rfl rfl

noncomputable def Qm:gB :=
 .loop (some (qd false [1,2,2,1,42])) (.seq (p5 [p6 17 5,p6 18 1,q2 19 18,qq 20 17 19 .lss] (.cond (.m_ 20) .skip (.exit 0))) (.seq (.block 1 (.seq (ri [p6 23 1,p6 24 5,rn 25 23 24 1,qm 26 25,qv 27 26 0 .lss,p4 28 27,ch 29 [.m_ 1] 28 false .mR,ch 30 [.m_ 5] 28 false .mR,ch 31 [.Bs 29,.Bs 30] 28 false (.kV 1),ch 32 [.Bs 31] 28 false (.zE .one),ch 33 [.m_ 2] 28 false (.yM 0),ch 34 [.Bs 33] 28 false (.zE .one),ch 35 [.jm 34] 28 false .zJ,ch 36 [.Bs 32,.Bs 35] 28 false (.bin .geq),p3 37 [.m_ 28,.cv (.bool true),.Bs 36] .pick,p4 38 37,ch 39 [.m_ 1] 38 false .mR,ch 40 [.m_ 5] 38 false .mR,⟨some 41,[.jm 39,.jm 40],some (38,false),none,.Bh 1 false true false⟩,ch 42 [.m_ 1] 38 false .mR,ch 43 [.m_ 5] 38 false .mR,ch 44 [.Bs 42,.Bs 43] 38 false (.kV 1),ch 45 [.Bs 44] 38 false (.zE .one),⟨some 46,[.cv (.func 72 [] []),.m_ 41,.m_ 45],some (38,false),none,.call 3⟩,p3 47 [.m_ 38,.cv (.bool true),.Bs 46] .pick]) (.cond (.m_ 47) (p5 [qh 4 16] .ret) .skip))) (qF [p4 21 5,qW 22 21 1,p4 5 22])))
noncomputable def aaD:gB :=
 p5 [p3 2 [.jm 0] .box,qh 4 0] (.seq (p5 [p3 6 [.m_ 2] (.zE (.str 3)),p3 7 [.cv (.func 46 [] []),.m_ 6] (.call 3),qv 8 7 0 .neq] (.cond (.m_ 8) (p5 [p3 9 [.Bs 2] (.zE (.str 3)),p3 10 [.cv (.func 46 [] []),.m_ 9] (.call 3),p4 4 10] .ret) .skip)) (.seq (p5 [p6 11 1,q2 12 11,p3 13 [.m_ 2] (.yM 0),qm 14 13,q2 15 14,qq 16 12 15 .neq] (.cond (.m_ 16) (p5 [qh 4 16] .ret) .skip)) (.seq (p5 [qh 5 0] (.block 0 Qm)) (p5 [qh 4 0] .ret))))
theorem afc:qu Tryz.prog QP 52=some (aaD,48,[.tmp 4]):=by qb
def LR (p:(qk×(Int×Int))) (order:qa) (qc:Unit→Option Int):Nat→Int→Option Int
 | 0,_=>none
 | m+1,s1 =>
   if (decide (s1<(order.length:Int)))=true then
    qs (0≤s1∧s1<(order.length:Int)) <|
    if (decide ((ix order s1)<(0:Int)))=true then
     some (16:Int)
    else
     qs (0≤s1∧s1<(order.length:Int)) <|
     if (decide ((p.1.length:Int)≤(ix order s1)))=true then
      some (16:Int)
     else
      qs (0≤s1∧s1≤(order.length:Int)) <|
      qs (0≤s1∧s1<(order.length:Int)) <|
      (M4 (order.take s1.toNat) (ix order s1)).bind fun eH =>
      if eH=true then
       some (16:Int)
      else
       LR p order qc m (w (s1+(1:Int)))
   else
    qc ()
def KZ (p:(qk×(Int×Int))) (order:qa):Option Int :=
 (Jp p).bind fun aS =>
 if (decide (aS≠(0:Int)))=true then
  (Jp p).bind fun bh =>
  some bh
 else
  if (decide ((order.length:Int)≠(p.1.length:Int)))=true then
   some (16:Int)
  else
   LR p order (fun _ =>
     some (0:Int)) qi (0:Int)
theorem ai1 {p:(qk×(Int×Int))} {order:qa} {qc:Unit→Option Int} {s1:Int} {v:Int} {Q:rS}   (jG:qL [.tmp 4] Q (fun v=>(hX v)) v) (ra:∀ (bw:ar) (qf:List I),qc ()=some v→rm 48 [] qf→Q (.exit 0) qf [bw]) {T:List I} (bZ:eW (qd false [1,2,2,1,42]) T=qg 48 [(1,(qz order .shared)),(2,(.ptr 0 0)),(5,(hX s1))]) (h:LR p order qc qi s1=some v) :
  dN Tryz.prog QP 52 0 none Qm T [ar.cells [(qZ p.1 .shared),(hX p.2.1),(hX p.2.2)]] Q:=by
 unfold Qm;refine wp_loop bZ ?_;refine .intro (fun m T H=>∃ (s1:Int),T=qg 48 [(1,(qz order .shared)),(2,(.ptr 0 0)),(5,(hX s1))]∧H=[ar.cells [(qZ p.1 .shared),(hX p.2.1),(hX p.2.2)]]∧LR p order qc m s1=some v) qi ⟨s1,rfl,rfl,h⟩ ?_;clear h bZ;rintro m T H ⟨s1,rfl,rfl,h⟩;cases m
 ·exact rA h
 rename_i m;rw [LR.eq_2] at h;conv=>whnf
 refine bs h (fun qX h=>?_) fun qX h=>?_
 ·rw [qX];conv=>whnf
  refine qE h id fun q9 h=>?_;rw [rj hX order s1 q9];conv=>whnf
  refine bs h (fun qS h=>?_) fun qS h=>?_
  ·rw [qS];(conv=>whnf);exact qe h jG rfl rfl
  ·rw [qS];(conv=>whnf);refine qE h id fun re h=>?_;rw [rj hX order s1 re];(conv=>whnf);refine bs h (fun q_ h=>?_) fun q_ h=>?_
   ·rw [q_];(conv=>whnf);exact qe h jG rfl rfl
   ·rw [q_];(conv=>whnf);refine qE h id fun ry h=>?_;erw [YS hX order s1 ry];(conv=>whnf);refine qE h id fun Hj h=>?_;rw [rj hX order s1 Hj];(conv=>whnf);obtain ⟨eH,Hq,h⟩:=p' h;refine ⟨qj.pl,_,TD Hq,rC,?_⟩;(conv=>whnf);cases eH
    ·(conv=>whnf);replace h:=rq rfl h;exact ⟨m,sg m,(w (s1+(1:Int))),rfl,rfl,h⟩
    ·(conv=>whnf);replace h:=rp rfl h;exact qe h jG rfl rfl
 ·rw [qX];conv=>whnf
  exact ra _ _ h ⟨rfl,rfl⟩
theorem P1 {p:(qk×(Int×Int))} {order:qa} {v:Int} (h:KZ p order=some v):qw 52 [(.agg [(.av (p.1.flatMap p_) p.1.length .shared),(hX p.2.1),(hX p.2.2)]),(.av (order.map hX) order.length .shared)] (hX v):=by
 refine qO eD afc rfl rfl fun Q bo=>?_;have jG:qL [.tmp 4] Q (fun v=>(hX v)) v:=fun T H bD=>bo _ T H bD;unfold KZ at h;unfold aaD;obtain ⟨r_,qD⟩:∃ c,Qm=c:=⟨_,rfl⟩;rw [qD];conv=>whnf
 obtain ⟨aS,gJ,h⟩:=p' h;refine ⟨qj.pl,_,KV gJ,?_⟩;conv=>whnf
 refine bs h (fun gK h=>?_) fun gK h=>?_
 ·rw [gK];conv=>whnf
  obtain ⟨bh,qt,h⟩:=p' h;refine ⟨qj.pl,_,KV qt,?_⟩;conv=>whnf
  exact qe h jG rfl rfl
 ·rw [gK];conv=>whnf
  refine bs h (fun qH h=>?_) fun qH h=>?_
  ·rw [qH];(conv=>whnf);exact qe h jG rfl rfl
  ·rw [qH];(conv=>whnf);subst qD;refine ai1 ?_ ?_ (by exact rfl) h
   ·exact fun T H bD=>jG T H bD
   ·intro bw qf h qA;obtain ⟨rr,rfl⟩:=qA.ex;(conv=>whnf);exact qe h jG rfl rfl
end Go.Proofs.YtkoioidpbbbaiaaGreat.Ab


namespace Go.Proofs.YtkoioidpbbbaiaaGreat.Ab
open Go
set_option maxRecDepth 20000
set_option maxHeartbeats 1000000
def qY (p:qn):Int:=if p.1.length=3∨p.1.length=5∨p.1.length=7 then (if (∀ s∈p.1,q3 s)∧0≤p.2.1∧p.2.1≤p.2.2∧p.2.2≤50 then 0 else 3) else 6
theorem ZP (s:qN):LS s=some (decide (q3 s)):=by
 unfold LS q3;by_cases ab:0≤s.1
 ·rw [if_pos (decide_eq_true ab)];by_cases ae:s.1≤100
  ·rw [if_pos (decide_eq_true ae)];by_cases aF:-10≤s.2
   ·rw [if_pos (decide_eq_true aF)];simp [ab,ae,aF]
   ·rw [if_neg (by simpa using aF)];simp [aF]
  ·rw [if_neg (by simpa using ae)];simp [ae]
 ·rw [if_neg (by simpa using ab)];simp [ab]
theorem Wq {p:qn} (aB:p.1.length≤1000) {K:Option Int}:∀ (m i:Nat),i≤p.1.length→p.1.length-i<m→(∀ j,j<i→q3 (ix p.1 (j:Int))) →
  LP p (fun _=>K) m (i:Int)=if ∀ s∈p.1,q3 s then K else some 3
 | 0,_,_,h,_=>absurd h (by omega)
 | m+1,i,hi,hm,aw=>by
   rw [LP];by_cases aR:i<p.1.length
   ·rw [if_pos (decide_eq_true (by omega)),qx (by omega),ZP,sc,Hr i (by omega)];by_cases al:q3 (ix p.1 (i:Int))
    ·rw [if_pos (decide_eq_true al)];refine Wq aB m (i+1) (by omega) (by omega) fun j gf=>?_;by_cases e:j=i
     ·rw [e];exact al
     ·exact aw j (by omega)
    ·rw [if_neg (by simpa using al),if_neg];exact fun cY=>al (cY _ (J9 (by omega)))
   ·rw [if_neg (by simpa using by omega),if_pos];intro s ah;obtain ⟨j,ec,rfl⟩:=vl ah;have:=aw j (by omega)
    rwa [rI ec] at this
theorem PY {p:qn} (aB:p.1.length≤1000):Jp p=some (qY p):=by
 have aw:LO p=some (if (∀ s∈p.1,q3 s)∧0≤p.2.1∧p.2.1≤p.2.2∧p.2.2≤50 then 0 else 3):=by
  unfold LO;rw [show (0:Int)=((0:Nat):Int) from rfl,Wq aB qi 0 (by omega) (r6 (by omega)) (fun j h=>absurd h (by omega))];by_cases h:∀ s∈p.1,q3 s
  ·rw [if_pos h];by_cases ab:p.2.1<0
   ·rw [if_pos (decide_eq_true (by exact ab)),if_neg (by omega)]
   ·rw [if_neg (by simpa using by omega)];by_cases ae:p.2.2<p.2.1
    ·rw [if_pos (decide_eq_true ae),if_neg (by omega)]
    ·rw [if_neg (by simpa using by omega)];by_cases aF:50<p.2.2
     ·rw [if_pos (decide_eq_true aF),if_neg (by omega)]
     ·rw [if_neg (by simpa using by omega),if_pos ⟨h,by omega,by omega,by omega⟩]
  ·rw [if_neg h,if_neg (fun k=>h k.1)]
 unfold Jp qY;by_cases aF:p.1.length=3
 ·rw [if_neg (by simp [aF]),if_pos (.inl aF),aw]
 ·rw [if_pos (decide_eq_true (by omega))];by_cases bO:p.1.length=5
  ·rw [if_neg (by simp [bO]),if_pos (.inr (.inl bO)),aw]
  ·rw [if_pos (decide_eq_true (by omega))];by_cases cL:p.1.length=7
   ·rw [if_neg (by simp [cL]),if_pos (.inr (.inr cL)),aw]
   ·rw [if_pos (decide_eq_true (by omega)),if_neg (by omega)]
theorem ZM (s:qN):KY s=some (!decide (q3 s)):=by
 unfold KY;rw [MZ,sc];unfold q3;by_cases h:0≤s.1∧s.1≤100
 ·rw [if_pos (by simp [h.1,h.2]),MZ,sc];by_cases ae:-10≤s.2 <;> by_cases aF:s.2≤10 <;> simp [h.1,h.2,ae,aF]
 ·rw [if_neg (by simpa using h)];rw [decide_eq_false (show ¬ (0≤s.1∧s.1≤100∧-10≤s.2∧s.2≤10) from fun k=>h ⟨k.1,k.2.1⟩)];rfl
theorem Wc {S:List qN} (aB:S.length≤1000):∀ (m i:Nat),i≤S.length→S.length-i<m→(∀ j,j<i→q3 (ix S (j:Int))) →
  ∃ r,LF S (fun rh=>KY rh) (fun _=>some (-1:Int)) m (i:Int)=some r∧decide (0≤r)=!decide (∀ s∈S,q3 s)
 | 0,_,_,h,_=>absurd h (by omega)
 | m+1,i,hi,hm,aw=>by
   rw [LF];by_cases aR:i<S.length
   ·rw [if_pos (decide_eq_true (by omega)),qx (by omega),ZM,sc,Hr i (by omega)];by_cases al:q3 (ix S (i:Int))
    ·rw [if_neg (by simpa using al)];refine Wc aB m (i+1) (by omega) (by omega) fun j gf=>?_;by_cases e:j=i
     ·rw [e];exact al
     ·exact aw j (by omega)
    ·rw [if_pos (by simpa using al)];refine ⟨_,rfl,?_⟩;rw [decide_eq_true (by omega),decide_eq_false fun cY=>al (cY _ (J9 (by omega)))];rfl
   ·rw [if_neg (by simpa using by omega)];refine ⟨-1,rfl,?_⟩;rw [decide_eq_false (by omega),decide_eq_true];rfl;intro s ah;obtain ⟨j,ec,rfl⟩:=vl ah;have:=aw j (by omega)
    rwa [rI ec] at this
theorem ajn {S:List qN} (aB:S.length≤1000):Ov S (fun rh=>KY rh)=some (!decide (∀ s∈S,q3 s)):=by
 unfold Ov PM;obtain ⟨r,ab,ae⟩:=Wc aB qi 0 (by omega) (r6 (by omega)) (fun j h=>absurd h (by omega));rw [show (0:Int)=((0:Nat):Int) from rfl,ab,sc];exact congrArg some ae
theorem Z2 (n lo hi:Int):LX n lo hi=some (!(decide (lo≤n) && decide (n≤hi))):=by
 unfold LX;by_cases ab:n<lo
 ·rw [if_pos (decide_eq_true ab),decide_eq_false (show ¬ lo≤n by omega)];rfl
 ·rw [if_neg (by simpa using ab),decide_eq_true (show lo≤n by omega)];by_cases ae:hi<n
  ·rw [decide_eq_true ae,decide_eq_false (show ¬ n≤hi by omega)];rfl
  ·rw [decide_eq_false ae,decide_eq_true (show n≤hi by omega)];rfl
theorem ai0 (lo hi n k:Int):IU lo hi [n,k]=some ((decide (lo≤n) && decide (n≤hi)) && (decide (lo≤k) && decide (k≤hi))):=by
 obtain ⟨m,hm⟩:∃ m,qi=m+3:=⟨qi-3,rfl⟩;unfold IU Ot Ow;rw [hm,JY.eq_2,if_pos (show decide ((0:Int)<(([n,k]:List Int).length:Int))=true from rfl),qx ⟨sY _,show (0:Int)<(2:Int) by decide⟩,show ix [n,k] (0:Int)=n from rfl,Z2,sc];cases ak:(decide (lo≤n) && decide (n≤hi))
 ·rfl
 ·rw [show w (0+1:Int)=1 from rfl,if_neg (by decide),JY.eq_2,if_pos (show decide ((1:Int)<(([n,k]:List Int).length:Int))=true from rfl),qx ⟨by decide,show (1:Int)<(2:Int) by decide⟩,show ix [n,k] (1:Int)=k from rfl,Z2,sc];cases ak:(decide (lo≤k) && decide (k≤hi))
  ·rfl
  ·rw [show w (1+1:Int)=2 from rfl,JY.eq_2];rfl
theorem ZZ {p:qn} (aB:p.1.length≤1000):Oo p=some (qY p):=by
 have aw:M3 p (fun _=>some (0:Int)) false=some (if (∀ s∈p.1,q3 s)∧0≤p.2.1∧p.2.1≤p.2.2∧p.2.2≤50 then 0 else 3):=by
  unfold M3;rw [if_neg (by decide),ajn aB,sc];by_cases h:∀ s∈p.1,q3 s
  ·rw [if_neg (by simpa using h),ai0,sc];by_cases ab:(0≤p.2.1∧p.2.1≤50)∧(0≤p.2.2∧p.2.2≤50)
   ·rw [if_pos (by simp [ab])];by_cases ae:p.2.2<p.2.1
    ·rw [if_pos (decide_eq_true ae),if_neg (by omega)]
    ·rw [if_neg (by simpa using by omega),if_pos ⟨h,by omega,by omega,by omega⟩]
   ·rw [if_neg (by simpa [and_assoc] using fun a b c=>by omega),if_neg (by omega)]
  ·rw [if_pos (by simpa using h),if_neg (fun k=>h k.1)]
 unfold Oo qY;rw [MZ,sc];have iK:(p.1.length:Int).tmod 2=((p.1.length % 2:Nat):Int):=Lx _;by_cases ai:3≤p.1.length∧p.1.length≤7
 ·rw [if_pos (by simp;omega),qx (by decide),iK];by_cases h:p.1.length=3∨p.1.length=5∨p.1.length=7
  ·rw [if_pos h,decide_eq_false (by omega),aw]
  ·rw [if_neg h,decide_eq_true (by omega)];rfl
 ·rw [if_neg (by simp;omega),if_neg (by omega)];rfl
def qB (n:Nat) (o:List Int):Prop:=o.length=n∧o.Nodup∧∀ x∈o,0≤x∧x<(n:Int)
instance (n:Nat) (o:List Int):Decidable (qB n o):=by unfold qB;exact inferInstance
def rV (p:qn) (o:List Int):Int:=if qY p≠0 then qY p else if qB p.1.length o then 0 else 16
theorem Ww {l:List Int} (ao:l.length≤1000) {v:Int}:∀ (m i:Nat),i≤l.length→l.length-i<m→(∀ j,j<i→ix l (j:Int)≠v)→LW l v (fun _=>some false) m (i:Int)=some (decide (v∈l))
 | 0,_,_,h,_=>absurd h (by omega)
 | m+1,i,hi,hm,aw=>by
   rw [LW];by_cases aR:i<l.length
   ·rw [if_pos (decide_eq_true (by omega)),qx (by omega),Hr i (by omega)];by_cases al:ix l (i:Int)=v
    ·rw [if_pos (decide_eq_true al),decide_eq_true (by rw [←al];exact J9 (by omega))]
    ·rw [if_neg (by simpa using al)];refine Ww ao m (i+1) (by omega) (by omega) fun j gf=>?_;by_cases e:j=i
     ·rw [e];exact al
     ·exact aw j (by omega)
   ·rw [if_neg (by simpa using by omega),decide_eq_false];intro ah;obtain ⟨j,ec,e⟩:=vl ah;exact aw j (by omega) (by rw [rI ec];exact e)
theorem Z1 {l:List Int} (ao:l.length≤1000) (v:Int):M4 l v=some (decide (v∈l)):=by
 unfold M4;exact Ww ao qi 0 (by omega) (r6 (by omega)) (fun j h=>absurd h (by omega))
def NQ (n:Nat) (o:List Int) (i:Nat):Prop:=(o.take i).Nodup∧∀ x∈o.take i,0≤x∧x<(n:Int)
theorem afY {n:Nat} {o:List Int} {i:Nat} (hi:i<o.length):NQ n o (i+1)↔NQ n o i∧(0≤ix o (i:Int)∧ix o (i:Int)<(n:Int))∧ix o (i:Int) ∉ o.take i:=by
 unfold NQ;rw [uP hi,rI hi,tZ];constructor
 ·rintro ⟨⟨ab,_,aF⟩,ba⟩;exact ⟨⟨ab,fun x aj=>ba x (List.mem_append_left _ aj)⟩,ba _ (List.mem_append_right _ (sK.2 rfl)),fun hm=>aF _ hm _ (sK.2 rfl) rfl⟩
 ·rintro ⟨⟨ab,ae⟩,aF,ba⟩;refine ⟨⟨ab,by simp,?_⟩,?_⟩
  ·intro a cq b af e;rw [sK] at af;subst af;subst e;exact ba cq
  ·intro x aj;rcases sU.1 aj with aj | aj
   ·exact ae x aj
   ·rw [sK] at aj;subst aj;exact aF
theorem Wu {p:qn} {o:List Int} (ao:o.length≤1000) (aI:o.length=p.1.length):∀ (m i:Nat),i≤o.length→o.length-i<m→NQ p.1.length o i→LR p o (fun _=>some 0) m (i:Int)=some (if qB p.1.length o then 0 else 16)
 | 0,_,_,h,_=>absurd h (by omega)
 | m+1,i,hi,hm,aw=>by
   rw [LR];by_cases aR:i<o.length
   ·rw [if_pos (decide_eq_true (by omega)),qx (by omega),Hr i (by omega)];have fp:(¬ (0≤ix o (i:Int)∧ix o (i:Int)<(p.1.length:Int))∨ix o (i:Int)∈o.take i)→¬ qB p.1.length o:=fun af al=>by
     rcases af with af | af
     ·exact af (al.2.2 _ (J9 (by omega)))
     ·have:(o.take (i+1)).Nodup:=al.2.1.sublist (List.take_sublist _ _)
      rw [uP aR,tZ] at this;exact this.2.2 _ af _ (by rw [rI aR];simp) rfl
    by_cases ab:ix o (i:Int)<0
    ·rw [if_pos (decide_eq_true ab),if_neg (fp (.inl (by omega)))]
    ·rw [if_neg (by simpa using by omega),qx (by omega)];by_cases ae:(p.1.length:Int)≤ix o (i:Int)
     ·rw [if_pos (decide_eq_true ae),if_neg (fp (.inl (by omega)))]
     ·rw [if_neg (by simpa using by omega),qx (by omega),qx (by omega),tD,Z1 (by rw [s9];omega),sc];by_cases aF:ix o (i:Int)∈o.take i
      ·rw [if_pos (decide_eq_true aF),if_neg (fp (.inr aF))]
      ·rw [if_neg (by simpa using aF)];exact Wu ao aI m (i+1) (by omega) (by omega) ((afY aR).2 ⟨aw,by omega,aF⟩)
   ·(obtain rfl:i=o.length:=by omega);rw [if_neg (by simp),if_pos];unfold NQ at aw;rw [uM] at aw;exact ⟨aI,aw.1,aw.2⟩
theorem ZO {p:qn} (aB:p.1.length≤1000) {o:List Int} (ao:o.length≤1000):KZ p o=some (rV p o):=by
 unfold KZ rV;rw [PY aB,sc,sc];by_cases h:qY p=0
 ·rw [if_neg (show ¬ decide (qY p≠0)=true by simpa using h),if_neg (show ¬ qY p≠0 by simpa using h)];by_cases aI:o.length=p.1.length
  ·rw [if_neg (show ¬ decide ((o.length:Int)≠(p.1.length:Int))=true by simp [aI])];exact Wu ao aI qi 0 (by omega) (r6 (by omega)) ⟨by simp,by simp⟩
  ·rw [if_pos (show decide ((o.length:Int)≠(p.1.length:Int))=true from decide_eq_true (by omega)),if_neg (fun k=>aI k.1)]
 ·rw [if_pos (decide_eq_true h),if_pos h]
theorem ahK:Sort.SWO Sort.ltInt:=by
 constructor <;> intros <;> simp_all [Sort.ltInt] <;> omega
theorem YW (l:List Int):(I9 l).Perm l∧(I9 l).Pairwise (·≤·):=by
 obtain ⟨⟨ab,_,aF⟩,ba⟩:=Sort.insertionSort_holds (lt:=Sort.ltInt) ahK l.toArray 0 l.length (sE _) (by simp);unfold I9;generalize Sort.insertionSort Sort.ltInt l.toArray 0 l.length=d at ab aF ba;have ab:d.size=l.length:=by simpa using ab
 have e1:(d.extract 0 l.length).toList=d.toList:=by rw [←ab];simp
 have b9:(l.toArray.extract 0 l.length).toList=l:=by simp
 rw [e1,b9] at aF;refine ⟨aF,List.pairwise_iff_getElem.2 fun i j hi aw h7=>?_⟩;have hi':i<d.size:=by simpa using hi
 have ec:j<d.size:=by simpa using aw
 have:=ba i j (sE _) h7 (by omega);rw [getElem!_pos d i hi',getElem!_pos d j ec] at this;simp only [Sort.ltInt,decide_eq_false_iff_not] at this;simp only [Array.getElem_toList];omega
theorem NJ {n:Nat} {x:Int}:x∈qp n↔0≤x∧x<(n:Int):=by
 simp only [qp,sH,sJ];exact ⟨by rintro ⟨i,hi,rfl⟩;omega,fun h=>⟨x.toNat,by omega,by omega⟩⟩
theorem PH (n:Nat):(qp n).Pairwise (·<·):=by
 unfold qp;rw [List.pairwise_map];exact List.pairwise_lt_range.imp fun h=>by omega
theorem ahP (n:Nat):(qp n).Nodup:=S1 (PH n)
theorem R7:∀ {a b:List Int},a.Nodup→(∀ x∈a,x∈b)→b.length≤a.length→a.Perm b
 | [],b,_,_,h=>by
   rw [sT.1 (show b.length=0 by simpa using h)]
 | x::a,b,aI,ah,h=>by
   have aj:x∈b:=ah x (by simp);obtain ⟨ab,ae⟩:=tU.1 aI;refine (List.Perm.cons x (R7 (b:=b.erase x) ae (fun y aY=>?_) ?_)).trans (List.perm_cons_erase aj).symm
   ·exact (List.mem_erase_of_ne (fun e=>ab (by rw [←e];exact aY))).2 (ah y (by simp [aY]))
   ·rw [tR aj];simp at h;omega
theorem Lo {n:Nat} {o:List Int}:qB n o↔o.Perm (qp n):=by
 constructor
 ·rintro ⟨ab,ae,aF⟩;exact R7 ae (fun x aj=>NJ.2 (aF x aj)) (by simp [qp,ab])
 ·intro h;exact ⟨by rw [h.length_eq];simp [qp],h.nodup_iff.2 (ahP n),fun x aj=>NJ.1 (h.mem_iff.1 aj)⟩
theorem W' {n:Nat} {o:List Int}:qB n o↔o∈qV n (qp n):=by
 rw [Lo,Pb n _ _ (by simp [qp])]
theorem YX {l:List Int}:(∀ j:Nat,j<(I9 l).length→ix (I9 l) (j:Int)=(j:Int))↔qB l.length l:=by
 obtain ⟨ab,ae⟩:=YW l;have ao:=ab.length_eq;constructor
 ·intro h;have e:I9 l=qp l.length:=by
   refine List.ext_getElem (by simp [qp,ao]) fun j a b=>?_;have:=h j a;rw [rI a] at this;rw [this];simp [qp]
  rw [Lo,←e];exact ab.symm
 ·intro h;have e:I9 l=qp l.length:=by
   refine List.Perm.eq_of_pairwise (le:=fun (a b:Int)=>a≤b) (fun a b _ _ x y=>by omega) ae ((PH _).imp fun h=>by omega) (ab.trans (Lo.1 h))
  intro j aw;rw [rI aw];simp only [e];simp [qp]
theorem Wp {eH:List Int} (ai:eH.length≤1000) {K:Option (Option (qn×Unit)×Int)}:∀ (m i:Nat),i≤eH.length→eH.length-i<m→(∀ j,j<i→ix eH (j:Int)=(j:Int)) →
  IH eH (fun _=>K) m (i:Int)=if ∀ j:Nat,j<eH.length→ix eH (j:Int)=(j:Int) then K else some (none,16)
 | 0,_,_,h,_=>absurd h (by omega)
 | m+1,i,hi,hm,aw=>by
   rw [IH];by_cases aR:i<eH.length
   ·rw [if_pos (decide_eq_true (by omega)),qx (by omega),Hr i (by omega)];by_cases al:ix eH (i:Int)=(i:Int)
    ·rw [if_neg (by simpa using al)];refine Wp ai m (i+1) (by omega) (by omega) fun j gf=>?_;by_cases e:j=i
     ·rw [e];exact al
     ·exact aw j (by omega)
    ·rw [if_pos (decide_eq_true al),if_neg (fun h=>al (h i aR))]
   ·rw [if_neg (by simpa using by omega),if_pos fun j ao=>aw j (by omega)]
theorem PX {p:qn} (aB:p.1.length≤1000) {o:List Int} (ao:o.length≤12):rX p [o]=some (if rV p o=0 then (some (p,()),0) else (none,rV p o)):=by
 unfold rX rV;rw [ZZ aB,sc];by_cases h:qY p=0
 ·rw [if_neg (show ¬ decide (qY p≠0)=true by simpa using h)];rw [if_neg (show ¬ qY p≠0 by simpa using h)];obtain ⟨m,hm⟩:=Nk;rw [show HE p [o] (fun _=>some (some (p,()),0)) qi 0=HE p [o] (fun _=>some (some (p,()),0)) (m+2) 0 by rw [hm],HE.eq_2,if_pos (show decide ((0:Int)<(([o]:List (List Int)).length:Int))=true from rfl),qx ⟨sY _,show (0:Int)<(1:Int) by decide⟩,show ix [o] (0:Int)=o from rfl];rw [show P3 o=some () from rfl,sc,show P2 o=some (I9 o) from if_pos ao,sc];have ah:=YW o;have DG:=ah.1.length_eq;rw [show (0:Int)=((0:Nat):Int) from rfl,Wp (by omega) qi 0 (by omega) (r6 (by omega)) (fun j h=>absurd h (by omega))];by_cases ab:qB o.length o
  ·rw [if_pos (YX.2 ab)];by_cases aI:o.length=p.1.length
   ·rw [if_neg (show ¬ decide ((o.length:Int)≠(p.1.length:Int))=true by simp [aI]),if_pos (by rw [←aI,if_pos ab]),show w (((0:Nat):Int)+1)=1 from rfl,HE.eq_2];rfl
   ·have fp:¬ qB p.1.length o:=fun k=>aI k.1;rw [if_pos (show decide ((o.length:Int)≠(p.1.length:Int))=true from decide_eq_true (by omega)),if_neg fp];rfl
  ·have fp:¬ qB p.1.length o:=fun k=>ab (by rw [k.1];exact k);rw [if_neg (fun k=>ab (YX.1 k)),if_neg fp];rfl
 ·rw [if_pos (decide_eq_true h),if_pos h,if_neg h]
theorem Tr {p:qn} (aB:p.1.length≤1000):rX p []=some (if qY p=0 then (some (p,()),0) else (none,qY p)):=by
 unfold rX;rw [ZZ aB,sc];by_cases h:qY p=0
 ·rw [if_neg (show ¬ decide (qY p≠0)=true by simpa using h),if_pos h];obtain ⟨m,hm⟩:=Nk;rw [show HE p [] (fun _=>some (some (p,()),0)) qi 0=HE p [] (fun _=>some (some (p,()),0)) (m+2) 0 by rw [hm],HE.eq_2];rfl
 ·rw [if_pos (decide_eq_true h),if_neg h]
structure rk (p:qn):Prop where
 n:p.1.length=3∨p.1.length=5∨p.1.length=7
 s:∀ s∈p.1,q3 s
 lo:0≤p.2.1
 le:p.2.1≤p.2.2
 hi:p.2.2≤50
theorem Jg {p:qn}:qY p=0↔rk p:=by
 unfold qY;constructor
 ·intro h;split at h
  ·rename_i ab;split at h
   ·rename_i ae;exact ⟨ab,ae.1,ae.2.1,ae.2.2.1,ae.2.2.2⟩
   ·omega
  ·omega
 ·intro h;rw [if_pos h.n,if_pos ⟨h.s,h.lo,h.le,h.hi⟩]
theorem Lp {p:qn} {o:List Int}:rV p o=0↔rk p∧qB p.1.length o:=by
 unfold rV;by_cases h:qY p=0
 ·rw [if_neg (by simpa using h)];by_cases ab:qB p.1.length o
  ·rw [if_pos ab];exact ⟨fun _=>⟨Jg.1 h,ab⟩,fun _=>rfl⟩
  ·rw [if_neg ab];exact ⟨fun k=>by omega,fun k=>absurd k.2 ab⟩
 ·rw [if_pos h];exact ⟨fun k=>absurd k h,fun k=>Jg.2 k.1⟩
theorem rY {S:List qN} {o:List Int} (h:qB S.length o):J0 S o:=fun i hi=>h.2.2 _ (J9 (by omega))
end Go.Proofs.YtkoioidpbbbaiaaGreat.Ab
